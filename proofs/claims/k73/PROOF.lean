import PyProof.Rows.All
import Wide.All
import OpenK.AllK
import Wide.FinOn
import HandS.ForMost
import HandS.TupAny
import HandS.Wide
import HandS.Star
import HandS.StrMore
import HandS.IsInst
import HandS.Zip
import HandS.Flow
import KE.DataCmp
import KE.SortData
import PyProof.ReprReads
import HandS.Style
import HandS.Walk
import KE.GoesMore
import KE.GoesEnum
import HandS.Small
import HandS.Conv
import HandS.More
import HandS.TupLen
import HandS.WordsDict
import HandS.RaiseMore
import KE.DataMinMax
import KE.KDictSum
import HandS.Sort
import KE.KDictPairs
import KE.KDictDisplayH
import Open.SpecLaws
import PySem.Challenge.RW_onestrokeatatime_k73_whole_least_rows_an
set_option Elab.async false
set_option linter.all false
set_option maxRecDepth 100000
set_option maxHeartbeats 4000000
namespace DD
open PySem PySem.Spec PyProof.Rows L2

/-- plain data -/
inductive D where
  | non | bl (b : Bool) | int (i : Int) | str (x : Str)
  | lst (ds : List D) | tup (ds : List D)
  | dK (ks : List Key) (vs : List D) | dT (ks : List (List Key)) (vs : List D)
  | scr (ns : List Int)
  | opq

mutual
inductive Rep (K : PySem.W.Frag) (H : Hp) : V → D → Prop
  | non : Rep K H .non .non
  | bl (b : Bool) : Rep K H (.bl b) (.bl b)
  | int (i : Int) : Rep K H (.int i) (.int i)
  | str (x : Str) : Rep K H (.str x) (.str x)
  | lst {a : Addr} {xs : List V} {ds : List D} : H a = some (.lst xs) → RepL K H xs ds → Rep K H (.ref a) (.lst ds)
  | tup {a : Addr} {xs : List V} {ds : List D} : H a = some (.tup xs) → RepL K H xs ds → Rep K H (.ref a) (.tup ds)
  | dK {a : Addr} {kvs : List (Key × V)} {ds : List D} {ks : List Key} : H a = some (.dK kvs) → kvs.map (·.1) = ks → RepL K H (kvs.map (·.2)) ds → Rep K H (.ref a) (.dK ks ds)
  | dT {a : Addr} {kvs : List (List Key × V)} {ds : List D} {ks : List (List Key)} : H a = some (.dT kvs) → kvs.map (·.1) = ks → RepL K H (kvs.map (·.2)) ds → Rep K H (.ref a) (.dT ks ds)
  | scr {a : Addr} {ns : List Int} : SqL K H a (ns.map V.int) → Rep K H (.ref a) (.scr ns)
  | opq (v : V) : Rep K H v .opq
inductive RepL (K : PySem.W.Frag) (H : Hp) : List V → List D → Prop
  | nil : RepL K H [] []
  | cons {v : V} {vs : List V} {d : D} {ds : List D} : Rep K H v d → RepL K H vs ds → RepL K H (v :: vs) (d :: ds)
end

/-- more is tracked -/
def Le (H H' : Hp) : Prop := ∀ b o, H b = some o → H' b = some o
theorem Le.refl {H : Hp} : Le H H := fun _ _ h => h
theorem Le.trans {H H1 H2 : Hp} (a : Le H H1) (b : Le H1 H2) : Le H H2 := fun c o h => b c o (a c o h)
theorem Le.upd {H : Hp} {p : Addr} {o : HO} (h : H p = none) : Le H (upd H p o) := fun b x e => by
  rw [upd_ne (ne_of_none e h)]; exact e
theorem Le.rd {H H' : Hp} {a : Addr} {u : HO} (l : Le H H') (r : Rd H a u) : Rd H' a u := by
  rcases r with r | ⟨o, r⟩
  · exact .inl (l _ _ r)
  · exact .inr ⟨o, l _ _ r⟩
theorem Le.sqL {K : PySem.W.Frag} {H H' : Hp} {a : Addr} {xs : List V} (l : Le H H') (r : SqL K H a xs) : SqL K H' a xs := by
  rcases r with r | r
  · exact .inl (l.rd r)
  · exact .inr r
theorem Le.sqT {K : PySem.W.Frag} {H H' : Hp} {a : Addr} {xs : List V} (l : Le H H') (r : SqT K H a xs) : SqT K H' a xs := by
  rcases r with r | r
  · exact .inl (l.rd r)
  · exact .inr r
mutual
theorem Rep.mono {K : PySem.W.Frag} {H H' : Hp} (l : Le H H') : ∀ {d : D} {v : V}, Rep K H v d → Rep K H' v d
  | .non, _, r => by cases r; exact .non
  | .bl _, _, r => by cases r; exact .bl _
  | .int _, _, r => by cases r; exact .int _
  | .str _, _, r => by cases r; exact .str _
  | .lst _, _, r => by cases r with | lst h q => exact .lst (l _ _ h) (RepL.mono l q)
  | .tup _, _, r => by cases r with | tup h q => exact .tup (l _ _ h) (RepL.mono l q)
  | .dK _ _, _, r => by cases r with | dK h e q => exact .dK (l _ _ h) e (RepL.mono l q)
  | .dT _ _, _, r => by cases r with | dT h e q => exact .dT (l _ _ h) e (RepL.mono l q)
  | .scr _, _, r => by cases r with | scr h => exact .scr (l.sqL h)
  | .opq, _, _ => .opq _
theorem RepL.mono {K : PySem.W.Frag} {H H' : Hp} (l : Le H H') : ∀ {ds : List D} {vs : List V}, RepL K H vs ds → RepL K H' vs ds
  | [], _, r => by cases r; exact .nil
  | _ :: _, _, r => by cases r with | cons h q => exact .cons (Rep.mono l h) (RepL.mono l q)
end
section
variable {K : PySem.W.Frag} {H : Hp}
theorem RepL.length : ∀ {ds : List D} {vs : List V}, RepL K H vs ds → vs.length = ds.length
  | [], _, r => by cases r; rfl
  | _ :: _, _, r => by cases r with | cons h q => simp [RepL.length q]
theorem RepL.get : ∀ {ds : List D} {vs : List V} {i : Nat} {d : D}, RepL K H vs ds → ds[i]? = some d → ∃ v, vs[i]? = some v ∧ Rep K H v d
  | [], _, _, _, _, e => by simp at e
  | _ :: _, _, 0, _, r, e => by cases r with | cons h q => simp at e; subst e; exact ⟨_, rfl, h⟩
  | _ :: _, _, i + 1, _, r, e => by
    cases r with
    | cons h q =>
      obtain ⟨v, h1, h2⟩ := RepL.get (i := i) q (by simpa using e)
      exact ⟨v, by simpa using h1, h2⟩
theorem RepL.getV : ∀ {ds : List D} {vs : List V} {i : Nat} {v : V}, RepL K H vs ds → vs[i]? = some v → ∃ d, ds[i]? = some d ∧ Rep K H v d
  | [], _, _, _, r, e => by cases r; simp at e
  | _ :: _, _, 0, _, r, e => by cases r with | cons h q => simp at e; subst e; exact ⟨_, rfl, h⟩
  | _ :: _, _, i + 1, _, r, e => by
    cases r with
    | cons h q =>
      obtain ⟨v, h1, h2⟩ := RepL.getV (i := i) q (by simpa using e)
      exact ⟨v, by simpa using h1, h2⟩
theorem RepL.append : ∀ {ds es : List D} {vs us : List V}, RepL K H vs ds → RepL K H us es → RepL K H (vs ++ us) (ds ++ es)
  | [], _, _, _, r, q => by cases r; exact q
  | _ :: _, _, _, _, r, q => by cases r with | cons h t => exact .cons h (RepL.append t q)
theorem RepL.take : ∀ {ds : List D} {vs : List V} (n : Nat), RepL K H vs ds → RepL K H (vs.take n) (ds.take n)
  | _, _, 0, _ => by simp only [List.take_zero]; exact .nil
  | [], _, _ + 1, r => by cases r; exact .nil
  | _ :: _, _, n + 1, r => by cases r with | cons h t => exact .cons h (RepL.take n t)
theorem RepL.drop : ∀ {ds : List D} {vs : List V} (n : Nat), RepL K H vs ds → RepL K H (vs.drop n) (ds.drop n)
  | _, _, 0, r => r
  | [], _, _ + 1, r => by cases r; exact .nil
  | _ :: _, _, n + 1, r => by cases r with | cons h t => exact RepL.drop n t
theorem RepL.set : ∀ {ds : List D} {vs : List V} {v : V} {d : D} (n : Nat), RepL K H vs ds → Rep K H v d → RepL K H (vs.set n v) (ds.set n d)
  | [], _, _, _, _, r, _ => by cases r; exact .nil
  | _ :: _, _, _, _, 0, r, q => by cases r with | cons h t => exact .cons q t
  | _ :: _, _, _, _, n + 1, r, q => by cases r with | cons h t => exact .cons h (RepL.set n t q)
theorem RepL.reverse {ds : List D} : ∀ {vs : List V}, RepL K H vs ds → RepL K H vs.reverse ds.reverse := by
  induction ds with
  | nil => intro vs r; cases r; exact .nil
  | cons d ds ih =>
    intro vs r
    cases r with
    | cons h t =>
      rw [List.reverse_cons, List.reverse_cons]
      exact RepL.append (ih t) (.cons h .nil)
theorem RepL.eraseIdx : ∀ {ds : List D} {vs : List V} (n : Nat), RepL K H vs ds → RepL K H (vs.eraseIdx n) (ds.eraseIdx n)
  | [], _, _, r => by cases r; exact .nil
  | _ :: _, _, 0, r => by cases r with | cons h t => exact t
  | _ :: _, _, n + 1, r => by cases r with | cons h t => exact .cons h (RepL.eraseIdx n t)
theorem RepL.dropLast {ds : List D} {vs : List V} (r : RepL K H vs ds) : RepL K H vs.dropLast ds.dropLast := by
  rw [List.dropLast_eq_take, List.dropLast_eq_take, r.length]
  exact r.take _
theorem RepL.ints : ∀ {ns : List Int} {vs : List V}, RepL K H vs (ns.map .int) → vs = ns.map V.int
  | [], _, r => by cases r; rfl
  | n :: ns, _, r => by
    cases r with
    | cons h t => cases h; rw [RepL.ints t]; rfl
theorem RepL.strs : ∀ {ns : List Str} {vs : List V}, RepL K H vs (ns.map .str) → vs = ns.map V.str
  | [], _, r => by cases r; rfl
  | n :: ns, _, r => by
    cases r with
    | cons h t => cases h; rw [RepL.strs t]; rfl
theorem RepL.bls : ∀ {ns : List Bool} {vs : List V}, RepL K H vs (ns.map .bl) → vs = ns.map V.bl
  | [], _, r => by cases r; rfl
  | n :: ns, _, r => by
    cases r with
    | cons h t => cases h; rw [RepL.bls t]; rfl
theorem RepL.keys : ∀ {ks : List Key} {vs : List V}, RepL K H vs (ks.map fun k => match k with | .inl i => .int i | .inr x => .str x) → vs = ks.map kV
  | [], _, r => by cases r; rfl
  | .inl i :: ns, _, r => by
    cases r with
    | cons h t => cases h; rw [RepL.keys t]; rfl
  | .inr i :: ns, _, r => by
    cases r with
    | cons h t => cases h; rw [RepL.keys t]; rfl
theorem repL_ints : ∀ (ns : List Int), RepL K H (ns.map V.int) (ns.map .int)
  | [] => .nil
  | _ :: ns => .cons (.int _) (repL_ints ns)
theorem repL_strs : ∀ (ns : List Str), RepL K H (ns.map V.str) (ns.map .str)
  | [] => .nil
  | _ :: ns => .cons (.str _) (repL_strs ns)
theorem repL_bls : ∀ (ns : List Bool), RepL K H (ns.map V.bl) (ns.map .bl)
  | [] => .nil
  | _ :: ns => .cons (.bl _) (repL_bls ns)
end

/-- what the top object at v is, in H; what is in it, in Hs -/
def RepT (K : PySem.W.Frag) (Hs H : Hp) (v : V) : D → Prop
  | .lst ds => ∃ a xs, v = .ref a ∧ H a = some (.lst xs) ∧ RepL K Hs xs ds
  | .dK ks ds => ∃ a kvs, v = .ref a ∧ H a = some (.dK kvs) ∧ kvs.map (·.1) = ks ∧ RepL K Hs (kvs.map (·.2)) ds
  | .dT ks ds => ∃ a kvs, v = .ref a ∧ H a = some (.dT kvs) ∧ kvs.map (·.1) = ks ∧ RepL K Hs (kvs.map (·.2)) ds
  | d => Rep K Hs v d
theorem Rep.top {K : PySem.W.Frag} {Hs H : Hp} {v : V} : ∀ {d : D}, Le Hs H → Rep K Hs v d → RepT K Hs H v d
  | .non, _, r => r
  | .bl _, _, r => r
  | .int _, _, r => r
  | .str _, _, r => r
  | .lst _, l, r => by cases r with | lst h q => exact ⟨_, _, rfl, l _ _ h, q⟩
  | .tup _, _, r => r
  | .dK _ _, l, r => by cases r with | dK h e q => exact ⟨_, _, rfl, l _ _ h, e, q⟩
  | .dT _ _, l, r => by cases r with | dT h e q => exact ⟨_, _, rfl, l _ _ h, e, q⟩
  | .scr _, _, r => r
  | .opq, _, r => r
theorem RepT.all {K : PySem.W.Frag} {Hs H : Hp} {v : V} : ∀ {d : D}, Le Hs H → RepT K Hs H v d → Rep K H v d
  | .non, l, r => Rep.mono l r
  | .bl _, l, r => Rep.mono l r
  | .int _, l, r => Rep.mono l r
  | .str _, l, r => Rep.mono l r
  | .lst _, l, r => by obtain ⟨a, xs, rfl, h, q⟩ := r; exact .lst h (q.mono l)
  | .tup _, l, r => Rep.mono l r
  | .dK _ _, l, r => by obtain ⟨a, xs, rfl, h, e, q⟩ := r; exact .dK h e (q.mono l)
  | .dT _ _, l, r => by obtain ⟨a, xs, rfl, h, e, q⟩ := r; exact .dT h e (q.mono l)
  | .scr _, l, r => Rep.mono l r
  | .opq, l, r => Rep.mono l r

/-- where a body stands: what is lent to it, the heap at its entry, what was shared there -/
structure Fx where
  L : List Addr
  H0 : Hp
  Hs0 : Hp
  s0 : L2.St
structure Slot where
  lent : Bool
  own : Bool
  d : D
abbrev DEnv := List (Option Slot)
abbrev St := L2.St
/-- an object of our own at p -/
def Cell (K : PySem.W.Frag) (Hs H : Hp) (p : Addr) : D → Prop
  | .lst ds => ∃ xs, H p = some (.lst xs) ∧ RepL K Hs xs ds
  | .dK ks ds => ∃ kvs, H p = some (.dK kvs) ∧ kvs.map (·.1) = ks ∧ RepL K Hs (kvs.map (·.2)) ds
  | .dT ks ds => ∃ kvs, H p = some (.dT kvs) ∧ kvs.map (·.1) = ks ∧ RepL K Hs (kvs.map (·.2)) ds
  | _ => False
theorem Cell.there {K : PySem.W.Frag} {Hs H : Hp} {p : Addr} : ∀ {d : D}, Cell K Hs H p d → ∃ o, H p = some o
  | .lst _, ⟨_, h, _⟩ => ⟨_, h⟩
  | .dK _ _, ⟨_, h, _⟩ => ⟨_, h⟩
  | .dT _ _, ⟨_, h, _⟩ => ⟨_, h⟩
theorem Cell.at_ {K : PySem.W.Frag} {Hs Hs' H H' : Hp} {p : Addr} (l : Le Hs Hs') (e : H' p = H p) : ∀ {d : D}, Cell K Hs H p d → Cell K Hs' H' p d
  | .lst _, ⟨_, h, q⟩ => ⟨_, e.trans h, q.mono l⟩
  | .dK _ _, ⟨_, h, k, q⟩ => ⟨_, e.trans h, k, q.mono l⟩
  | .dT _ _, ⟨_, h, k, q⟩ => ⟨_, e.trans h, k, q.mono l⟩
theorem Cell.top {K : PySem.W.Frag} {Hs H : Hp} {p : Addr} : ∀ {d : D}, Cell K Hs H p d → RepT K Hs H (.ref p) d
  | .lst _, ⟨_, h, q⟩ => ⟨_, _, rfl, h, q⟩
  | .dK _ _, ⟨_, h, k, q⟩ => ⟨_, _, rfl, h, k, q⟩
  | .dT _ _, ⟨_, h, k, q⟩ => ⟨_, _, rfl, h, k, q⟩
/-- shared from now on -/
theorem Cell.rep {K : PySem.W.Frag} {Hs H : Hp} {p : Addr} {o : HO} (l : Hs p = none) (e : H p = some o) : ∀ {d : D}, Cell K Hs H p d → Rep K (upd Hs p o) (.ref p) d
  | .lst _, ⟨_, h, q⟩ => by
    rw [e] at h; cases h
    exact .lst upd_same (q.mono (Le.upd l))
  | .dK _ _, ⟨_, h, k, q⟩ => by
    rw [e] at h; cases h
    exact .dK upd_same k (q.mono (Le.upd l))
  | .dT _ _, ⟨_, h, k, q⟩ => by
    rw [e] at h; cases h
    exact .dT upd_same k (q.mono (Le.upd l))
def OwnAt (K : PySem.W.Frag) (fx : Fx) (Hs H : Hp) (v : V) (lent : Bool) (d : D) : Prop :=
  ∃ p, v = .ref p ∧ Cell K Hs H p d ∧ Hs p = none ∧ (if lent = true then p ∈ fx.L else fx.H0 p = none)
structure Ok (K : PySem.W.Frag) (fx : Fx) (Hs H : Hp) (σ : St) (e : DEnv) (B : List (V × D)) : Prop where
  len : e.length = σ.length
  sub : Le Hs H
  grow : Le fx.Hs0 Hs
  ext : ∀ b o, Hs b = some o → fx.Hs0 b = some o ∨ fx.H0 b = none ∨ b ∈ fx.L ∨ ∃ us, o = .tup us
  frame : ∀ b o, fx.H0 b = some o → b ∉ fx.L → H b = some o
  lt : ∀ b ∈ fx.L, ∃ o, H b = some o
  slot : ∀ (i : Nat) (s : Slot), e[i]? = some (some s) → ∃ v, σ[i]? = some (some v) ∧ (s.own = true → OwnAt K fx Hs H v s.lent s.d) ∧ (s.own = false → Rep K Hs v s.d)
  temp : ∀ x ∈ B, OwnAt K fx Hs H x.1 false x.2
  ss : ∀ (i j : Nat) (s t : Slot) (v : V), i ≠ j → e[i]? = some (some s) → e[j]? = some (some t) → s.own = true → t.own = true → σ[i]? = some (some v) → σ[j]? ≠ some (some v)
  st : ∀ (i : Nat) (s : Slot) (x : V × D), e[i]? = some (some s) → s.own = true → x ∈ B → σ[i]? ≠ some (some x.1)
  tt : B.Pairwise fun x y => x.1 ≠ y.1
  ls : ∀ (i : Nat) (s : Slot), e[i]? = some (some s) → s.lent = true → σ[i]? = fx.s0[i]?
inductive T where
  | sh (d : D) | ow (d : D) | loc (i : Nat)
def push (t : T) (v : V) (B : List (V × D)) : List (V × D) := match t with
  | .ow d => (v, d) :: B
  | _ => B
def Is (K : PySem.W.Frag) (Hs : Hp) (σ : St) (v : V) : T → Prop
  | .sh d => Rep K Hs v d
  | .ow _ => True
  | .loc i => σ[i]? = some (some v)
def Post (K : PySem.W.Frag) (fx : Fx) (Hs H : Hp) (σ : St) (e : DEnv) (B : List (V × D)) (v : V) (t : T) : Prop := Ok K fx Hs H σ e (push t v B) ∧ Is K Hs σ v t
theorem Is.mono {K : PySem.W.Frag} {Hs Hs' : Hp} {σ : St} {v : V} (l : Le Hs Hs') : ∀ {t : T}, Is K Hs σ v t → Is K Hs' σ v t
  | .sh _, h => Rep.mono l h
  | .ow _, _ => trivial
  | .loc _, h => h
section
variable {K : PySem.W.Frag} {fx : Fx} {Hs H : Hp} {σ : St} {e : DEnv} {B : List (V × D)} {v : V} {d : D} {p : Addr} {x : V × D}
theorem Ok.drop (k : Ok K fx Hs H σ e (x :: B)) : Ok K fx Hs H σ e B :=
  ⟨k.len, k.sub, k.grow, k.ext, k.frame, k.lt, k.slot, fun y hy => k.temp y (List.mem_cons_of_mem _ hy), k.ss, fun i s y h1 h2 h3 => k.st i s y h1 h2 (List.mem_cons_of_mem _ h3), (List.pairwise_cons.mp k.tt).2, k.ls⟩
theorem Ok.dropL : ∀ {C : List (V × D)}, Ok K fx Hs H σ e (C ++ B) → Ok K fx Hs H σ e B
  | [], k => k
  | _ :: C, k => Ok.dropL (C := C) k.drop
theorem Ok.new (k : Ok K fx Hs H σ e B) (h : H p = none) : fx.H0 p = none := by
  cases q : fx.H0 p with
  | none => rfl
  | some o =>
    by_cases hp : p ∈ fx.L
    · obtain ⟨o', e'⟩ := k.lt p hp
      rw [h] at e'; cases e'
    · have := k.frame p o q hp
      rw [h] at this; cases this
theorem Ok.hsn (k : Ok K fx Hs H σ e B) (h : H p = none) : Hs p = none := by
  cases q : Hs p with
  | none => rfl
  | some o =>
    have := k.sub p o q
    rw [h] at this; cases this
theorem OwnAt.ne {b : Bool} (k : OwnAt K fx Hs H v b d) (h : H p = none) : v ≠ V.ref p := by
  obtain ⟨q, rfl, c, _, _⟩ := k
  obtain ⟨o, ho⟩ := c.there
  intro z
  cases z
  rw [h] at ho; cases ho
/-- the heap grows beside what is known -/
theorem Ok.more {H' : Hp} (k : Ok K fx Hs H σ e B) (l : Le H H') : Ok K fx Hs H' σ e B := by
  have own : ∀ {v : V} {b : Bool} {d : D}, OwnAt K fx Hs H v b d → OwnAt K fx Hs H' v b d := fun {v b d} ⟨q, h1, c, h2, h3⟩ => by
    obtain ⟨o, ho⟩ := c.there
    exact ⟨q, h1, c.at_ Le.refl ((l _ _ ho).trans ho.symm), h2, h3⟩
  exact ⟨k.len, k.sub.trans l, k.grow, k.ext, fun b o h1 h2 => l _ _ (k.frame b o h1 h2), fun b hb => let ⟨o, ho⟩ := k.lt b hb; ⟨o, l _ _ ho⟩,
    fun i s h => let ⟨v, h1, h2, h3⟩ := k.slot i s h; ⟨v, h1, fun z => own (h2 z), h3⟩, fun y hy => own (k.temp y hy), k.ss, k.st, k.tt, k.ls⟩
/-- the shared part grows -/
theorem Ok.share {Hs' : Hp} (k : Ok K fx Hs H σ e B) (l : Le Hs Hs') (sub : Le Hs' H) (ext : ∀ b o, Hs' b = some o → Hs b = some o ∨ fx.H0 b = none ∨ b ∈ fx.L ∨ ∃ us, o = .tup us)
    (so : ∀ (i : Nat) (s : Slot) (q : Addr), e[i]? = some (some s) → s.own = true → σ[i]? = some (some (.ref q)) → Hs' q = none) (to_ : ∀ x ∈ B, ∀ q, x.1 = .ref q → Hs' q = none) : Ok K fx Hs' H σ e B := by
  refine ⟨k.len, sub, k.grow.trans l, fun b o h => ?_, k.frame, k.lt, fun i s h => ?_, fun y hy => ?_, k.ss, k.st, k.tt, k.ls⟩
  · rcases ext b o h with h | h
    · exact k.ext b o h
    · exact .inr h
  · obtain ⟨v, h1, h2, h3⟩ := k.slot i s h
    refine ⟨v, h1, fun z => ?_, fun z => (h3 z).mono l⟩
    obtain ⟨q, rfl, c, g1, g2⟩ := h2 z
    exact ⟨q, rfl, c.at_ l rfl, so i s q h z h1, g2⟩
  · obtain ⟨q, h1, c, g1, g2⟩ := k.temp y hy
    exact ⟨q, h1, c.at_ l rfl, to_ y hy q h1, g2⟩
/-- a new shared object -/
theorem Ok.newSh {o : HO} (k : Ok K fx Hs H σ e B) (h : H p = none) : Ok K fx (upd Hs p o) (upd H p o) σ e B := by
  have k1 : Ok K fx Hs (upd H p o) σ e B := k.more (Le.upd h)
  have hs := k.hsn h
  refine k1.share (Le.upd hs) (fun b u q => ?_) (fun b u q => ?_) (fun i s q h1 h2 h3 => ?_) fun x hx q h1 => ?_
  · by_cases hb : b = p
    · subst hb; rw [upd_same] at q ⊢; exact q
    · rw [upd_ne hb] at q ⊢; exact k.sub b u q
  · by_cases hb : b = p
    · subst hb; exact .inr (.inl (k.new h))
    · rw [upd_ne hb] at q; exact .inl q
  · obtain ⟨v, g1, g2, _⟩ := k.slot i s h1
    obtain ⟨q', rfl, c, n, _⟩ := g2 h2
    have : q' = q := by rw [g1] at h3; cases h3; rfl
    subst this
    obtain ⟨o', ho⟩ := c.there
    rw [upd_ne (ne_of_none ho h)]; exact n
  · obtain ⟨q', g1, c, n, _⟩ := k.temp x hx
    rw [h1] at g1; cases g1
    obtain ⟨o', ho⟩ := c.there
    rw [upd_ne (ne_of_none ho h)]; exact n
/-- a new object of our own -/
theorem Ok.newOw {o : HO} (k : Ok K fx Hs H σ e B) (h : H p = none) (c : Cell K Hs (upd H p o) p d) : Ok K fx Hs (upd H p o) σ e ((.ref p, d) :: B) := by
  have k1 : Ok K fx Hs (upd H p o) σ e B := k.more (Le.upd h)
  refine ⟨k1.len, k1.sub, k1.grow, k1.ext, k1.frame, k1.lt, k1.slot, fun y hy => ?_, k1.ss, fun i s y h1 h2 h3 => ?_, List.pairwise_cons.mpr ⟨fun y hy => ?_, k1.tt⟩, k1.ls⟩
  · rcases List.mem_cons.mp hy with rfl | hy
    · exact ⟨p, rfl, c, k.hsn h, by simpa using k.new h⟩
    · exact k1.temp y hy
  · rcases List.mem_cons.mp h3 with rfl | h3
    · intro z
      obtain ⟨v, g1, g2, _⟩ := k.slot i s h1
      rw [g1] at z
      have z' : v = .ref p := Option.some.inj (Option.some.inj z)
      exact (g2 h2).ne h z'
    · exact k1.st i s y h1 h2 h3
  · exact fun z => (k.temp y hy).ne h z.symm
/-- what is read -/
def rd (t : T) (e : DEnv) : Option D := match t with
  | .sh d => some d
  | .ow d => some d
  | .loc i => match e[i]? with
    | some (some s) => some s.d
    | _ => none
def toSh (t : T) (e : DEnv) : Option (D × DEnv) := match t with
  | .sh d => some (d, e)
  | .ow d => some (d, e)
  | .loc i => match e[i]? with
    | some (some s) => some (s.d, e.set i (some { s with own := false }))
    | _ => none
theorem Ok.rd {t : T} (k : Ok K fx Hs H σ e B) (hi : Is K Hs σ v t) (hb : ∀ d, t = .ow d → (v, d) ∈ B) (h : rd t e = some d) : RepT K Hs H v d := by
  cases t with
  | sh d' => cases h; exact Rep.top k.sub hi
  | ow d' =>
    cases h
    obtain ⟨p, e1, c, _, _⟩ := k.temp _ (hb _ rfl)
    have e1 : v = .ref p := e1
    rw [e1]; exact c.top
  | loc i =>
    unfold DD.rd at h
    dsimp only at h
    split at h
    · rename_i s hs
      cases h
      obtain ⟨u, h1, h2, h3⟩ := k.slot i s hs
      have hi : σ[i]? = some (some v) := hi
      rw [hi] at h1
      have : v = u := Option.some.inj (Option.some.inj h1)
      subst this
      cases q : s.own with
      | true =>
        obtain ⟨p, rfl, c, _, _⟩ := h2 q
        exact c.top
      | false => exact Rep.top k.sub (h3 q)
    · cases h
theorem Post.rd {t : T} (k : Post K fx Hs H σ e B v t) (h : rd t e = some d) : RepT K Hs H v d :=
  k.1.rd k.2 (fun d' z => by subst z; exact List.mem_cons_self) h
theorem Post.ok {t : T} (k : Post K fx Hs H σ e B v t) : Ok K fx Hs H σ e B := by
  cases t with
  | sh _ => exact k.1
  | ow _ => exact k.1.drop
  | loc _ => exact k.1
/-- the slot i forgotten -/
theorem Ok.forget (k : Ok K fx Hs H σ e B) (e' : DEnv) (hl : e'.length = e.length) (h : ∀ (i : Nat) (s : Slot), e'[i]? = some (some s) → e[i]? = some (some s)) : Ok K fx Hs H σ e' B :=
  ⟨hl.trans k.len, k.sub, k.grow, k.ext, k.frame, k.lt, fun i s z => k.slot i s (h i s z), k.temp, fun i j s t v n a b => k.ss i j s t v n (h i s a) (h j t b), fun i s x a => k.st i s x (h i s a), k.tt, fun i s z => k.ls i s (h i s z)⟩
theorem get_set {α : Type} {e : List α} {i j : Nat} {x y : α} (h : (e.set i x)[j]? = some y) : (j = i ∧ x = y ∧ i < e.length) ∨ (j ≠ i ∧ e[j]? = some y) := by
  rw [List.getElem?_set] at h
  by_cases q : i = j
  · rw [if_pos q] at h
    by_cases l : i < e.length
    · rw [if_pos l] at h
      exact .inl ⟨q.symm, Option.some.inj h, l⟩
    · rw [if_neg l] at h; cases h
  · rw [if_neg q] at h
    exact .inr ⟨fun z => q z.symm, h⟩
/-- a temporary, or a slot's, is shared from now on -/
theorem Post.sh {t : T} {e' : DEnv} (k : Post K fx Hs H σ e B v t) (h : toSh t e = some (d, e')) : ∃ Hs', Le Hs Hs' ∧ Ok K fx Hs' H σ e' B ∧ Rep K Hs' v d := by
  cases t with
  | sh d' => cases h; exact ⟨Hs, Le.refl, k.1, k.2⟩
  | ow d' =>
    cases h
    have k1 : Ok K fx Hs H σ e ((v, d) :: B) := k.1
    obtain ⟨p, e1, c, n, g⟩ := k1.temp _ List.mem_cons_self
    have e1 : v = .ref p := e1
    subst e1
    obtain ⟨o, ho⟩ := c.there
    have g : fx.H0 p = none := by simpa using g
    refine ⟨upd Hs p o, Le.upd n, k1.drop.share (Le.upd n) (fun b u q => ?_) (fun b u q => ?_) (fun i s q h1 h2 h3 => ?_) fun x hx q h1 => ?_, c.rep n ho⟩
    · by_cases hb : b = p
      · subst hb; rw [upd_same] at q; cases q; exact ho
      · rw [upd_ne hb] at q; exact k1.sub b u q
    · by_cases hb : b = p
      · subst hb; exact .inr (.inl g)
      · rw [upd_ne hb] at q; exact .inl q
    · have ne : q ≠ p := fun z => by
        subst z
        exact k1.st i s _ h1 h2 List.mem_cons_self h3
      obtain ⟨u, g1, g2, _⟩ := k1.slot i s h1
      obtain ⟨q', e2, _, n', _⟩ := g2 h2
      subst e2
      rw [g1] at h3
      cases h3
      rw [upd_ne ne]; exact n'
    · have ne : q ≠ p := fun z => by
        subst z
        exact (List.pairwise_cons.mp k1.tt).1 x hx h1.symm
      obtain ⟨q', e2, _, n', _⟩ := k1.temp x (List.mem_cons_of_mem _ hx)
      rw [h1] at e2; cases e2
      rw [upd_ne ne]; exact n'
  | loc i =>
    unfold toSh at h
    dsimp only at h
    split at h
    · rename_i s hs
      cases h
      have k1 : Ok K fx Hs H σ e B := k.1
      have hv : σ[i]? = some (some v) := k.2
      obtain ⟨u, h1, h2, h3⟩ := k1.slot i s hs
      rw [hv] at h1
      have : v = u := Option.some.inj (Option.some.inj h1)
      subst this
      cases q : s.own with
      | false =>
        refine ⟨Hs, Le.refl, k1.forget _ (by simp) fun j t z => ?_, h3 q⟩
        rcases get_set z with ⟨rfl, z, _⟩ | ⟨_, z⟩
        · have z : ({ s with own := false } : Slot) = t := Option.some.inj z
          rw [hs, ← z, ← q]
        · exact z
      | true =>
        obtain ⟨p, e1, c, n, g⟩ := h2 q
        subst e1
        obtain ⟨o, ho⟩ := c.there
        -- first: the slot is no more our own (forgotten), then shared, then known again
        have k2 : Ok K fx Hs H σ (e.set i none) B := k1.forget _ (by simp) fun j t z => by
          rcases get_set z with ⟨rfl, z, _⟩ | ⟨_, z⟩
          · cases z
          · exact z
        have k3 : Ok K fx (upd Hs p o) H σ (e.set i none) B := by
          refine k2.share (Le.upd n) (fun b u z => ?_) (fun b u z => ?_) (fun j t q' z1 z2 z3 => ?_) fun x hx q' z1 => ?_
          · by_cases hb : b = p
            · subst hb; rw [upd_same] at z; cases z; exact ho
            · rw [upd_ne hb] at z; exact k1.sub b u z
          · by_cases hb : b = p
            · subst hb
              cases w : s.lent with
              | true => rw [w, if_pos rfl] at g; exact .inr (.inr (.inl g))
              | false => rw [w, if_neg (by decide)] at g; exact .inr (.inl g)
            · rw [upd_ne hb] at z; exact .inl z
          · rcases get_set z1 with ⟨_, w, _⟩ | ⟨ne, w⟩
            · cases w
            · have nq : q' ≠ p := fun y => by
                subst y
                exact k1.ss i j s t _ (Ne.symm ne) hs w q z2 hv z3
              obtain ⟨u, g1, g2, _⟩ := k1.slot j t w
              obtain ⟨r, e2, _, n', _⟩ := g2 z2
              subst e2
              rw [g1] at z3; cases z3
              rw [upd_ne nq]; exact n'
          · have nq : q' ≠ p := fun y => by
              subst y
              refine k1.st i s x hs q hx ?_
              rw [hv, z1]
            obtain ⟨r, e2, _, n', _⟩ := k1.temp x hx
            rw [z1] at e2; cases e2
            rw [upd_ne nq]; exact n'
        refine ⟨upd Hs p o, Le.upd n, ⟨by simpa using k1.len, k3.sub, k3.grow, k3.ext, k3.frame, k3.lt, fun j t z => ?_, k3.temp, fun j l t u w z z1 z2 y1 y2 => ?_, fun j t x z y1 => ?_, k3.tt, fun j t z y => ?_⟩, c.rep n ho⟩
        · rcases get_set z with ⟨rfl, z, _⟩ | ⟨ne, z⟩
          · have z : ({ s with own := false } : Slot) = t := Option.some.inj z
            subst z
            exact ⟨_, hv, fun z => (by cases z), fun _ => c.rep n ho⟩
          · exact k3.slot j t (by rw [List.getElem?_set_ne (Ne.symm ne)]; exact z)
        · rcases get_set z1 with ⟨_, z1, _⟩ | ⟨ne1, z1⟩
          · have z1 : ({ s with own := false } : Slot) = t := Option.some.inj z1
            subst z1; cases y1
          · rcases get_set z2 with ⟨_, z2, _⟩ | ⟨ne2, z2⟩
            · have z2 : ({ s with own := false } : Slot) = u := Option.some.inj z2
              subst z2; cases y2
            · exact k1.ss j l t u w z z1 z2 y1 y2
        · rcases get_set z with ⟨_, z, _⟩ | ⟨ne, z⟩
          · have z : ({ s with own := false } : Slot) = t := Option.some.inj z
            subst z; cases y1
          · exact k1.st j t x z y1
        · rcases get_set z with ⟨rfl, z, _⟩ | ⟨ne, z⟩
          · have z : ({ s with own := false } : Slot) = t := Option.some.inj z
            subst z
            exact k1.ls _ s hs y
          · exact k1.ls j t z y
    · cases h
/-- a slot's own object is written -/
theorem Ok.write {i : Nat} {s : Slot} {o : HO} {d' : D} (k : Ok K fx Hs H σ e B) (hs : e[i]? = some (some s)) (ho : s.own = true) (hv : σ[i]? = some (some (.ref p))) (c' : Cell K Hs (upd H p o) p d') :
    Ok K fx Hs (upd H p o) σ (e.set i (some { s with d := d' })) B := by
  obtain ⟨u, h1, h2, _⟩ := k.slot i s hs
  rw [hv] at h1; cases h1
  obtain ⟨p', e1, c, n, g⟩ := h2 ho
  cases e1
  have own : ∀ {v : V} {b : Bool} {d : D}, v ≠ .ref p → OwnAt K fx Hs H v b d → OwnAt K fx Hs (upd H p o) v b d := fun {v b d} ne ⟨q, h1, c, h2, h3⟩ => by
    subst h1
    exact ⟨q, rfl, c.at_ Le.refl (upd_ne fun z => ne (by rw [z])), h2, h3⟩
  refine ⟨by simpa using k.len, fun b u z => ?_, k.grow, k.ext, fun b u z1 z2 => ?_, fun b hb => ?_, fun j t z => ?_, fun x hx => ?_, fun j l t u w z z1 z2 y1 y2 => ?_, fun j t x z y1 => ?_, k.tt, fun j t z y => ?_⟩
  · rw [upd_ne (fun y => by subst y; rw [n] at z; cases z)]; exact k.sub b u z
  · refine (upd_ne (fun y => ?_)).trans (k.frame b u z1 z2)
    subst y
    cases w : s.lent with
    | true => rw [w, if_pos rfl] at g; exact z2 g
    | false => rw [w, if_neg (by decide), z1] at g; cases g
  · by_cases hb' : b = p
    · subst hb'; exact ⟨_, upd_same⟩
    · rw [upd_ne hb']; exact k.lt b hb
  · rcases get_set z with ⟨rfl, z, _⟩ | ⟨ne, z⟩
    · have z : ({ s with d := d' } : Slot) = t := Option.some.inj z
      subst z
      exact ⟨_, hv, fun _ => ⟨p, rfl, c', n, g⟩, fun z => by rw [show ({ s with d := d' } : Slot).own = s.own from rfl, ho] at z; cases z⟩
    · obtain ⟨v, g1, g2, g3⟩ := k.slot j t z
      refine ⟨v, g1, fun y => own (fun w => ?_) (g2 y), g3⟩
      subst w
      exact k.ss i j s t _ (Ne.symm ne) hs z ho y hv g1
  · refine own (fun w => ?_) (k.temp x hx)
    refine k.st i s x hs ho hx ?_
    rw [hv, w]
  · have f : ∀ {a : Nat} {r : Slot}, (e.set i (some { s with d := d' }))[a]? = some (some r) → r.own = true → ∃ r', e[a]? = some (some r') ∧ r'.own = true := fun {a r} y1 y2 => by
      rcases get_set y1 with ⟨rfl, y, _⟩ | ⟨_, y⟩
      · exact ⟨s, hs, ho⟩
      · exact ⟨r, y, y2⟩
    obtain ⟨t', a1, a2⟩ := f z1 y1
    obtain ⟨u', b1, b2⟩ := f z2 y2
    exact k.ss j l t' u' w z a1 b1 a2 b2
  · rcases get_set z with ⟨rfl, z, _⟩ | ⟨_, z⟩
    · exact k.st j s x hs ho
    · exact k.st j t x z y1
  · rcases get_set z with ⟨rfl, z, _⟩ | ⟨_, z⟩
    · have z : ({ s with d := d' } : Slot) = t := Option.some.inj z
      subst z
      exact k.ls _ s hs y
    · exact k.ls j t z y
/-- a value is laid into the slot i -/
theorem Ok.setSh {i : Nat} (k : Ok K fx Hs H σ e B) (r : Rep K Hs v d) (hi : i < e.length) : Ok K fx Hs H (σ.set i (some v)) (e.set i (some ⟨false, false, d⟩)) B := by
  have old : ∀ {j : Nat} {t : Slot}, (e.set i (some ⟨false, false, d⟩))[j]? = some (some t) → t.own = true → j ≠ i ∧ e[j]? = some (some t) := fun {j t} z y => by
    rcases get_set z with ⟨_, z, _⟩ | ⟨ne, z⟩
    · have z : (⟨false, false, d⟩ : Slot) = t := Option.some.inj z
      subst z; cases y
    · exact ⟨ne, z⟩
  refine ⟨by simpa using k.len, k.sub, k.grow, k.ext, k.frame, k.lt, fun j t z => ?_, k.temp, fun j l t u w z z1 z2 y1 y2 => ?_, fun j t x z y1 => ?_, k.tt, fun j t z y => ?_⟩
  · rcases get_set z with ⟨rfl, z, _⟩ | ⟨ne, z⟩
    · have z : (⟨false, false, d⟩ : Slot) = t := Option.some.inj z
      subst z
      exact ⟨v, by rw [List.getElem?_set_self (by rw [← k.len]; exact hi)], fun z => by (cases z), fun _ => r⟩
    · rw [List.getElem?_set_ne (Ne.symm ne)]; exact k.slot j t z
  · obtain ⟨a1, a2⟩ := old z1 y1
    obtain ⟨b1, b2⟩ := old z2 y2
    rw [List.getElem?_set_ne (Ne.symm a1), List.getElem?_set_ne (Ne.symm b1)]
    exact k.ss j l t u w z a2 b2 y1 y2
  · obtain ⟨a1, a2⟩ := old z y1
    rw [List.getElem?_set_ne (Ne.symm a1)]
    exact k.st j t x a2 y1
  · rcases get_set z with ⟨rfl, z, _⟩ | ⟨ne, z⟩
    · have z : (⟨false, false, d⟩ : Slot) = t := Option.some.inj z
      subst z; cases y
    · rw [List.getElem?_set_ne (Ne.symm ne)]; exact k.ls j t z y
theorem Ok.setOw {i : Nat} (k : Ok K fx Hs H σ e ((v, d) :: B)) (hi : i < e.length) : Ok K fx Hs H (σ.set i (some v)) (e.set i (some ⟨false, true, d⟩)) B := by
  have hv : (σ.set i (some v))[i]? = some (some v) := List.getElem?_set_self (by rw [← k.len]; exact hi)
  have new : ∀ {j : Nat} {t : Slot}, (e.set i (some ⟨false, true, d⟩))[j]? = some (some t) → j = i ∨ (j ≠ i ∧ e[j]? = some (some t) ∧ (σ.set i (some v))[j]? = σ[j]?) := fun {j t} z => by
    rcases get_set z with ⟨e, z, _⟩ | ⟨ne, z⟩
    · exact .inl e
    · exact .inr ⟨ne, z, List.getElem?_set_ne (Ne.symm ne)⟩
  refine ⟨by simpa using k.len, k.sub, k.grow, k.ext, k.frame, k.lt, fun j t z => ?_, fun x hx => k.temp x (List.mem_cons_of_mem _ hx), fun j l t u w z z1 z2 y1 y2 => ?_, fun j t x z y1 y2 => ?_, (List.pairwise_cons.mp k.tt).2, fun j t z y => ?_⟩
  · rcases get_set z with ⟨rfl, z, _⟩ | ⟨ne, z⟩
    · have z : (⟨false, true, d⟩ : Slot) = t := Option.some.inj z
      subst z
      exact ⟨v, hv, fun _ => k.temp _ List.mem_cons_self, fun z => by (cases z)⟩
    · rw [List.getElem?_set_ne (Ne.symm ne)]; exact k.slot j t z
  · rcases new z1 with rfl | ⟨a1, a2, a3⟩
    · rcases new z2 with rfl | ⟨b1, b2, b3⟩
      · exact absurd rfl z
      · rw [hv, b3]
        intro w1 w2
        rw [← w1] at w2
        exact k.st l u (v, d) b2 y2 List.mem_cons_self w2
    · rcases new z2 with rfl | ⟨b1, b2, b3⟩
      · rw [hv, a3]
        intro w1 w2
        rw [← w2] at w1
        exact k.st j t (v, d) a2 y1 List.mem_cons_self w1
      · rw [a3, b3]
        exact k.ss j l t u w z a2 b2 y1 y2
  · rcases new z with rfl | ⟨a1, a2, a3⟩
    · rw [hv]
      intro w
      have w : v = x.1 := Option.some.inj (Option.some.inj w)
      exact (List.pairwise_cons.mp k.tt).1 x y2 w
    · rw [a3]
      exact k.st j t x a2 y1 (List.mem_cons_of_mem _ y2)
  · rcases get_set z with ⟨rfl, z, _⟩ | ⟨ne, z⟩
    · have z : (⟨false, true, d⟩ : Slot) = t := Option.some.inj z
      subst z; cases y
    · rw [List.getElem?_set_ne (Ne.symm ne)]; exact k.ls j t z y
/-- store -/
def stT1 (i : Nat) (t : T) (e : DEnv) : Option DEnv := match t with
  | .ow d => some (e.set i (some ⟨false, true, d⟩))
  | t => match toSh t e with
    | some (d, e') => some (e'.set i (some ⟨false, false, d⟩))
    | none => none
def stT (i : Nat) (t : T) (e : DEnv) : Option DEnv := match e[i]? with
  | none => none
  | some (some ⟨true, _, _⟩) => none
  | _ => stT1 i t e
theorem toSh_len {t : T} {e' : DEnv} (h : toSh t e = some (d, e')) : e'.length = e.length := by
  cases t with
  | sh _ => cases h; rfl
  | ow _ => cases h; rfl
  | loc i =>
    unfold toSh at h
    dsimp only at h
    split at h
    · cases h; simp
    · cases h
theorem Post.st {i : Nat} {t : T} {e' : DEnv} (k : Post K fx Hs H σ e B v t) (h : stT i t e = some e') : ∃ Hs', Le Hs Hs' ∧ Ok K fx Hs' H (σ.set i (some v)) e' B := by
  have go : i < e.length → stT1 i t e = some e' → ∃ Hs', Le Hs Hs' ∧ Ok K fx Hs' H (σ.set i (some v)) e' B := fun hi h => by
    unfold stT1 at h
    cases t with
    | ow d =>
      cases h
      have k1 : Ok K fx Hs H σ e ((v, d) :: B) := k.1
      exact ⟨Hs, Le.refl, k1.setOw hi⟩
    | sh d =>
      cases h
      exact ⟨Hs, Le.refl, Ok.setSh k.1 k.2 hi⟩
    | loc j =>
      dsimp only at h
      split at h
      · rename_i d e1 q
        cases h
        obtain ⟨Hs', l, k1, r⟩ := k.sh q
        exact ⟨Hs', l, k1.setSh r (by rw [toSh_len q]; exact hi)⟩
      · cases h
  unfold stT at h
  split at h
  · cases h
  · cases h
  · rename_i q1 q2
    refine go ?_ h
    rcases Nat.lt_or_ge i e.length with l | l
    · exact l
    · exact absurd (List.getElem?_eq_none l) q1
end
end DD

namespace DD
open PySem PySem.Spec PyProof.Rows L2
abbrev FE := DEnv → Option (T × DEnv)
abbrev FB := DEnv → Option (Bool × DEnv)
def tD (K : PySem.W.Frag) (fx : Fx) (F : FE) : TE := fun σ H Q => ∃ Hs e B t e', Ok K fx Hs H σ e B ∧ F e = some (t, e') ∧ ∀ Hs' v H', Le Hs Hs' → Post K fx Hs' H' σ e' B v t → Q v H'
def tDT (K : PySem.W.Frag) (fx : Fx) (F : FB) : TT := fun σ H Q => ∃ Hs e B b e', Ok K fx Hs H σ e B ∧ F e = some (b, e') ∧ ∀ Hs' H', Le Hs Hs' → Ok K fx Hs' H' σ e' B → Q b H'
def DE (X : Cx) (fx : Fx) (ex : Expr) (F : FE) : Prop := PE X ex (tD X.K fx F)
def DT (X : Cx) (fx : Fx) (ex : Expr) (F : FB) : Prop := PT X ex (tDT X.K fx F)
def DW (X : Cx) (fx : Fx) (ex : Expr) (F : FB) : Prop := PW X ex (tDT X.K fx F)
theorem pe_imp {X : Cx} {e : Expr} {t t' : TE} (h : PE X e t) (f : ∀ σ H Q, t' σ H Q → t σ H Q) : PE X e t' := ⟨fun pins s σ H Q I w => h.run pins s σ H Q I (f σ H Q w)⟩
theorem pt_imp {X : Cx} {e : Expr} {t t' : TT} (h : PT X e t) (f : ∀ σ H Q, t' σ H Q → t σ H Q) : PT X e t' := ⟨fun pins s σ H Q I w => h.run pins s σ H Q I (f σ H Q w)⟩
theorem pw_imp {X : Cx} {e : Expr} {t t' : TT} (h : PW X e t) (f : ∀ σ H Q, t' σ H Q → t σ H Q) : PW X e t' := ⟨fun wh pins s σ H Q I w => h.run wh pins s σ H Q I (f σ H Q w)⟩

section
variable {X : Cx} {fx : Fx} {a b c : Expr} {pos : Pos} {Fa Fb Fc : FE} {GA GB : FB}
/-! ### names, constants -/
def fVar (i : Nat) : FE := fun e => match e[i]? with
  | some (some s) => some (if s.own = true then .loc i else .sh s.d, e)
  | _ => none
def fC (d : D) : FE := fun e => some (.sh d, e)
theorem de_var {i : Nat} {x : Str} (hN : X.N[i]? = some x) (hv : Vis X.env.scope x) (hd : (x == ("__debug__" : Str)) = false := by decide) (hcd : (x == ("__classdict__" : Str)) = false := by decide) : DE X fx (.Name x pos) (fVar i) := by
  refine pe_imp (pe_var hN hv hd hcd) fun σ H Q ⟨Hs, e, B, t, e', k, hf, q⟩ => ?_
  unfold fVar at hf
  split at hf
  · rename_i s hs
    cases hf
    obtain ⟨v, h1, h2, h3⟩ := k.slot i s hs
    refine ⟨v, h1, q Hs v H Le.refl ?_⟩
    cases o : s.own with
    | true => exact ⟨by rw [if_pos rfl]; exact k, by rw [if_pos rfl]; exact h1⟩
    | false => exact ⟨by rw [if_neg (by decide)]; exact k, by rw [if_neg (by decide)]; exact h3 o⟩
  · cases hf
theorem de_c {v : V} {d : D} (h : PE X a (tC v)) (r : ∀ Hs, Rep X.K Hs v d) : DE X fx a (fC d) :=
  pe_imp h fun σ H Q ⟨Hs, e, B, t, e', k, hf, q⟩ => by
    cases hf
    exact q Hs v H Le.refl ⟨k, r Hs⟩
theorem de_int {i : Int} {j : Nat} : DE X fx (.Constant (.int i) j pos) (fC (.int i)) := de_c pe_int fun _ => .int i
theorem de_str {i : List Nat} {x : Str} {j : Nat} (h : PE X (.Constant (.str x) j pos) (tC (.str x)) := pe_str) : DE X fx (.Constant (.str x) j pos) (fC (.str x)) := de_c h fun _ => .str x
theorem de_bl {i : Bool} {j : Nat} : DE X fx (.Constant (.bool i) j pos) (fC (.bl i)) := de_c pe_bl fun _ => .bl i
theorem de_non {j : Nat} : DE X fx (.Constant .none j pos) (fC .non) := de_c pe_non fun _ => .non
theorem de_glob {x : Str} {v : V} {u : Value} {d : D} (hg : Gl X x) (hm : X.mg x = some u) (r : RelV v u) (rr : ∀ Hs, Rep X.K Hs v d) (hd : (x == ("__debug__" : Str)) = false := by decide) : DE X fx (.Name x pos) (fC d) := de_c (pe_glob hg hm r hd) rr

/-! ### two values -/
def f2 (g : D → D → Option T) (Fa Fb : FE) : FE := fun e => do
  let (ta, e1) ← Fa e
  let (tb, e2) ← Fb e1
  let x ← rd ta e2
  let y ← rd tb e2
  let t ← g x y
  pure (t, e2)
/-- a rule of two values, over data -/
def OkR (X : Cx) (r : R2) (g : D → D → Option T) : Prop := ∀ {fx : Fx} {Hs H : Hp} {σ : St} {e : DEnv} {B : List (V × D)} {x y : V} {a b : D} {t : T} {Q : VK}, Ok X.K fx Hs H σ e B → RepT X.K Hs H x a → RepT X.K Hs H y b → g a b = some t →
  (∀ Hs' v H', Le Hs Hs' → Post X.K fx Hs' H' σ e B v t → Q v H') → r x y H Q
theorem post_drop {K : PySem.W.Frag} {fx : Fx} {Hs H : Hp} {σ : St} {e : DEnv} {B : List (V × D)} {v : V} {t : T} {x : V × D} (h : Post K fx Hs H σ e (x :: B) v t) : Post K fx Hs H σ e B v t := by
  cases t with
  | sh d => exact ⟨Ok.drop h.1, h.2⟩
  | loc i => exact ⟨Ok.drop h.1, h.2⟩
  | ow d =>
    have k : Ok K fx Hs H σ e ((v, d) :: x :: B) := h.1
    refine ⟨⟨k.len, k.sub, k.grow, k.ext, k.frame, k.lt, k.slot, fun y hy => k.temp y ?_, k.ss, fun i s y h1 h2 h3 => k.st i s y h1 h2 ?_, ?_, k.ls⟩, h.2⟩
    · rcases List.mem_cons.mp hy with z | z
      · exact z ▸ List.mem_cons_self
      · exact List.mem_cons_of_mem _ (List.mem_cons_of_mem _ z)
    · rcases List.mem_cons.mp h3 with z | z
      · exact z ▸ List.mem_cons_self
      · exact List.mem_cons_of_mem _ (List.mem_cons_of_mem _ z)
    · have p := List.pairwise_cons.mp k.tt
      exact List.pairwise_cons.mpr ⟨fun y hy => p.1 y (List.mem_cons_of_mem _ hy), (List.pairwise_cons.mp p.2).2⟩
theorem post_unpush {K : PySem.W.Frag} {fx : Fx} {Hs H : Hp} {σ : St} {e : DEnv} {B : List (V × D)} {v u : V} {t tu : T} (h : Post K fx Hs H σ e (push tu u B) v t) : Post K fx Hs H σ e B v t := by
  cases tu with
  | sh d => exact h
  | loc i => exact h
  | ow d => exact post_drop h
theorem push_mem {v : V} {B : List (V × D)} {d : D} {t : T} (h : t = .ow d) : (v, d) ∈ push t v B := by subst h; exact List.mem_cons_self
theorem push_old {v : V} {B : List (V × D)} {x : V × D} : ∀ {t : T}, x ∈ B → x ∈ push t v B
  | .sh _, h => h
  | .loc _, h => h
  | .ow _, h => List.mem_cons_of_mem _ h
/-- both values stand, read -/
theorem two_go {r : R2} {g : D → D → Option T} (ho : OkR X r g) : ∀ σ H Q, tD X.K fx (f2 g Fa Fb) σ H Q → tD X.K fx Fa σ H fun x H1 => tD X.K fx Fb σ H1 fun y H2 => r x y H2 Q := by
  rintro σ H Q ⟨Hs, e, B, t, e', k, hf, q⟩
  unfold f2 at hf
  simp only [Option.bind_eq_bind, Option.bind_eq_some_iff] at hf
  obtain ⟨⟨ta, e1⟩, h1, ⟨tb, e2⟩, h2, x, h3, y, h4, t', h5, h6⟩ := hf
  cases h6
  refine ⟨Hs, e, B, ta, e1, k, h1, fun Hs1 x1 H1 l1 p1 => ⟨Hs1, e1, push ta x1 B, tb, e2, p1.1, h2, fun Hs2 y2 H2 l2 p2 => ?_⟩⟩
  have rx : RepT X.K Hs2 H2 x1 x := p2.ok.rd (p1.2.mono l2) (fun d z => push_mem z) h3
  have ry : RepT X.K Hs2 H2 y2 y := p2.rd h4
  exact ho p2.ok rx ry h5 fun Hs3 v H3 l3 p3 => q Hs3 v H3 (l1.trans (l2.trans l3)) (post_unpush p3)
theorem de_bin {op : Operator} {r : R2} {g : D → D → Option T} (hr : OpR X (binaryOp op) r) (ho : OkR X r g) (ha : DE X fx a Fa) (hb : DE X fx b Fb) : DE X fx (.BinOp a op b pos) (f2 g Fa Fb) :=
  pe_imp (pe_op hr ha hb) (two_go ho)
theorem de_cmp {op : CmpOp} {r : R2} {g : D → D → Option T} (hr : OpR X (compareOp op) r) (ho : OkR X r g) (ha : DE X fx a Fa) (hb : DE X fx b Fb) (hm : behindInMarks op b = false) : DE X fx (.Compare a [op] [b] pos) (f2 g Fa Fb) :=
  pe_imp (pe_cmpR hr ha hb hm) (two_go ho)
theorem de_ix {r : R2} {g : D → D → Option T} (hr : IxR X r) (ho : OkR X r g) (ha : DE X fx a Fa) (hb : DE X fx b Fb) (hs : PlainIx b) : DE X fx (.Subscript a b pos) (f2 g Fa Fb) :=
  pe_imp (pe_ix hr ha hb hs) (two_go ho)
theorem OkR.or1 {r r' : R2} {g : D → D → Option T} (h : OkR X r g) : OkR X (fun x y H Q => r x y H Q ∨ r' x y H Q) g := fun k ra rb hg q => .inl (h k ra rb hg q)
theorem OkR.or2 {r r' : R2} {g : D → D → Option T} (h : OkR X r' g) : OkR X (fun x y H Q => r x y H Q ∨ r' x y H Q) g := fun k ra rb hg q => .inr (h k ra rb hg q)

/-! ### a test -/
def fB (F : FE) : FB := fun e => do
  let (t, e1) ← F e
  let d ← rd t e1
  match d with
  | .bl c => pure (c, e1)
  | _ => none
theorem dt_val (h : DE X fx a Fa) (he : ∀ whole, isTrue a X.env whole = (do let v ← whole; standAt a.pos; holding [v] (truthy v)) := by intro _; rfl) : DT X fx a (fB Fa) := by
  refine pt_imp (pt_val h he) fun σ H Q ⟨Hs, e, B, t, e', k, hf, q⟩ => ?_
  unfold fB at hf
  simp only [Option.bind_eq_bind, Option.bind_eq_some_iff] at hf
  obtain ⟨⟨ta, e1⟩, h1, d, h2, h3⟩ := hf
  refine ⟨Hs, e, B, ta, e1, k, h1, fun Hs1 v H1 l1 p1 => ?_⟩
  have r := p1.rd h2
  cases d with
  | bl c =>
    cases (show Rep X.K Hs1 v (.bl c) from r)
    cases h3
    exact ⟨_, rfl, q Hs1 H1 l1 p1.ok⟩
  | _ => cases h3
theorem dt_cmp {op : CmpOp} {r : R2} {g : D → D → Option T} (hr : OpR X (compareOp op) r) (ho : OkR X r g) (ha : DE X fx a Fa) (hb : DE X fx b Fb) (hm : behindInMarks op b = false) : DT X fx (.Compare a [op] [b] pos) (fB (f2 g Fa Fb)) := by
  refine pt_imp (pt_cmpR hr ha hb hm) fun σ H Q ⟨Hs, e, B, t, e', k, hf, q⟩ => ?_
  refine two_go ho σ H _ ?_
  unfold fB at hf
  simp only [Option.bind_eq_bind, Option.bind_eq_some_iff] at hf
  obtain ⟨⟨ta, e1⟩, h1, d, h2, h3⟩ := hf
  refine ⟨Hs, e, B, ta, e1, k, h1, fun Hs1 v H1 l1 p1 => ?_⟩
  have r := p1.rd h2
  cases d with
  | bl c =>
    cases (show Rep X.K Hs1 v (.bl c) from r)
    cases h3
    exact ⟨_, rfl, q Hs1 H1 l1 p1.ok⟩
  | _ => cases h3
def fAndT (A B : FB) : FB := fun e => do
  let (c, e1) ← A e
  if c = true then B e1 else pure (false, e1)
def fOrT (A B : FB) : FB := fun e => do
  let (c, e1) ← A e
  if c = true then pure (true, e1) else B e1
def fNotT (A : FB) : FB := fun e => do
  let (c, e1) ← A e
  pure (!c, e1)
variable {rest : List Expr}
theorem dw_and1 (ha : DT X fx a GA) : DW X fx (.BoolOp .And [a] pos) GA := pw_and1 ha
theorem dw_or1 (ha : DT X fx a GA) : DW X fx (.BoolOp .Or [a] pos) GA := pw_or1 ha
theorem dw_and (ha : DT X fx a GA) (hb : DW X fx (.BoolOp .And (b :: rest) pos) GB) : DW X fx (.BoolOp .And (a :: b :: rest) pos) (fAndT GA GB) := by
  refine pw_imp (pw_and ha hb) fun σ H Q ⟨Hs, e, B, t, e', k, hf, q⟩ => ?_
  unfold fAndT at hf
  simp only [Option.bind_eq_bind, Option.bind_eq_some_iff] at hf
  obtain ⟨⟨c, e1⟩, h1, h2⟩ := hf
  refine ⟨Hs, e, B, c, e1, k, h1, fun Hs1 H1 l1 k1 => ?_⟩
  dsimp only at h2
  cases c with
  | true =>
    rw [if_pos rfl] at h2 ⊢
    exact ⟨Hs1, e1, B, t, e', k1, h2, fun Hs2 H2 l2 k2 => q Hs2 H2 (l1.trans l2) k2⟩
  | false =>
    rw [if_neg (by decide)] at h2 ⊢
    cases h2
    exact q Hs1 H1 l1 k1
theorem dw_or (ha : DT X fx a GA) (hb : DW X fx (.BoolOp .Or (b :: rest) pos) GB) : DW X fx (.BoolOp .Or (a :: b :: rest) pos) (fOrT GA GB) := by
  refine pw_imp (pw_or ha hb) fun σ H Q ⟨Hs, e, B, t, e', k, hf, q⟩ => ?_
  unfold fOrT at hf
  simp only [Option.bind_eq_bind, Option.bind_eq_some_iff] at hf
  obtain ⟨⟨c, e1⟩, h1, h2⟩ := hf
  refine ⟨Hs, e, B, c, e1, k, h1, fun Hs1 H1 l1 k1 => ?_⟩
  dsimp only at h2
  cases c with
  | false =>
    rw [if_neg (by decide)] at h2 ⊢
    exact ⟨Hs1, e1, B, t, e', k1, h2, fun Hs2 H2 l2 k2 => q Hs2 H2 (l1.trans l2) k2⟩
  | true =>
    rw [if_pos rfl] at h2 ⊢
    cases h2
    exact q Hs1 H1 l1 k1
theorem dt_w (h : DW X fx a GA) : DT X fx a GA := PW.pt h
theorem dt_not (ha : DT X fx a GA) : DT X fx (.UnaryOp .Not a pos) (fNotT GA) := by
  refine pt_imp (pt_not ha) fun σ H Q ⟨Hs, e, B, t, e', k, hf, q⟩ => ?_
  unfold fNotT at hf
  simp only [Option.bind_eq_bind, Option.bind_eq_some_iff] at hf
  obtain ⟨⟨c, e1⟩, h1, h2⟩ := hf
  cases h2
  exact ⟨Hs, e, B, c, e1, k, h1, q⟩
/-! ### and, or, not as values -/
def fAnd (A B : FE) : FE := fun e => do
  let (t, e1) ← A e
  let d ← rd t e1
  match d with
  | .bl true => B e1
  | .bl false => pure (.sh (.bl false), e1)
  | _ => none
def fOr (A B : FE) : FE := fun e => do
  let (t, e1) ← A e
  let d ← rd t e1
  match d with
  | .bl false => B e1
  | .bl true => pure (.sh (.bl true), e1)
  | _ => none
def fNot (A : FE) : FE := fun e => do
  let (t, e1) ← A e
  let d ← rd t e1
  match d with
  | .bl c => pure (.sh (.bl (!c)), e1)
  | _ => none
theorem de_one {op : BoolOp} (h : DE X fx a Fa) : DE X fx (.BoolOp op [a] pos) Fa := pe_one h
theorem de_and (ha : DE X fx a Fa) (hb : DE X fx (.BoolOp .And (b :: rest) pos) Fb) : DE X fx (.BoolOp .And (a :: b :: rest) pos) (fAnd Fa Fb) := by
  refine pe_imp (pe_and ha hb) fun σ H Q ⟨Hs, e, B, t, e', k, hf, q⟩ => ?_
  unfold fAnd at hf
  simp only [Option.bind_eq_bind, Option.bind_eq_some_iff] at hf
  obtain ⟨⟨ta, e1⟩, h1, d, h2, h3⟩ := hf
  refine ⟨Hs, e, B, ta, e1, k, h1, fun Hs1 v H1 l1 p1 => ?_⟩
  have r := p1.rd h2
  split at h3
  · cases (show Rep X.K Hs1 v (.bl true) from r)
    exact ⟨true, rfl, by rw [if_pos rfl]; exact ⟨Hs1, e1, B, t, e', p1.ok, h3, fun Hs2 u H2 l2 p2 => q Hs2 u H2 (l1.trans l2) p2⟩⟩
  · cases (show Rep X.K Hs1 v (.bl false) from r)
    cases h3
    exact ⟨false, rfl, by rw [if_neg (by decide)]; exact q Hs1 _ H1 l1 ⟨p1.ok, .bl false⟩⟩
  · cases h3
theorem de_or (ha : DE X fx a Fa) (hb : DE X fx (.BoolOp .Or (b :: rest) pos) Fb) : DE X fx (.BoolOp .Or (a :: b :: rest) pos) (fOr Fa Fb) := by
  refine pe_imp (pe_or ha hb) fun σ H Q ⟨Hs, e, B, t, e', k, hf, q⟩ => ?_
  unfold fOr at hf
  simp only [Option.bind_eq_bind, Option.bind_eq_some_iff] at hf
  obtain ⟨⟨ta, e1⟩, h1, d, h2, h3⟩ := hf
  refine ⟨Hs, e, B, ta, e1, k, h1, fun Hs1 v H1 l1 p1 => ?_⟩
  have r := p1.rd h2
  split at h3
  · cases (show Rep X.K Hs1 v (.bl false) from r)
    exact ⟨false, rfl, by rw [if_neg (by decide)]; exact ⟨Hs1, e1, B, t, e', p1.ok, h3, fun Hs2 u H2 l2 p2 => q Hs2 u H2 (l1.trans l2) p2⟩⟩
  · cases (show Rep X.K Hs1 v (.bl true) from r)
    cases h3
    exact ⟨true, rfl, by rw [if_pos rfl]; exact q Hs1 _ H1 l1 ⟨p1.ok, .bl true⟩⟩
  · cases h3
theorem de_not (ha : DE X fx a Fa) : DE X fx (.UnaryOp .Not a pos) (fNot Fa) := by
  refine pe_imp (pe_not ha) fun σ H Q ⟨Hs, e, B, t, e', k, hf, q⟩ => ?_
  unfold fNot at hf
  simp only [Option.bind_eq_bind, Option.bind_eq_some_iff] at hf
  obtain ⟨⟨ta, e1⟩, h1, d, h2, h3⟩ := hf
  refine ⟨Hs, e, B, ta, e1, k, h1, fun Hs1 v H1 l1 p1 => ?_⟩
  have r := p1.rd h2
  cases d with
  | bl c =>
    cases (show Rep X.K Hs1 v (.bl c) from r)
    cases h3
    exact ⟨c, rfl, q Hs1 _ H1 l1 ⟨p1.ok, .bl _⟩⟩
  | _ => cases h3
/-! ### a if t else b -/
def fIf (A : FB) (F G : FE) : FE := fun e => do
  let (c, e1) ← A e
  if c = true then F e1 else G e1
theorem de_if (hc : DT X fx c GA) (ha : DE X fx a Fa) (hb : DE X fx b Fb) : DE X fx (.IfExp c a b pos) (fIf GA Fa Fb) := by
  refine pe_imp (pe_ifExp hc ha hb) fun σ H Q ⟨Hs, e, B, t, e', k, hf, q⟩ => ?_
  unfold fIf at hf
  simp only [Option.bind_eq_bind, Option.bind_eq_some_iff] at hf
  obtain ⟨⟨c, e1⟩, h1, h2⟩ := hf
  refine ⟨Hs, e, B, c, e1, k, h1, fun Hs1 H1 l1 k1 => ?_⟩
  dsimp only at h2
  cases c with
  | true =>
    rw [if_pos rfl] at h2 ⊢
    exact ⟨Hs1, e1, B, t, e', k1, h2, fun Hs2 v H2 l2 k2 => q Hs2 v H2 (l1.trans l2) k2⟩
  | false =>
    rw [if_neg (by decide)] at h2 ⊢
    exact ⟨Hs1, e1, B, t, e', k1, h2, fun Hs2 v H2 l2 k2 => q Hs2 v H2 (l1.trans l2) k2⟩
/-! ### a < b < c -/
def fChain (g g' : D → D → Option T) (Fa Fb Fc : FE) : FE := fun e => do
  let (ta, e1) ← Fa e
  let (tb, e2) ← Fb e1
  let x ← rd ta e2
  let y ← rd tb e2
  let t ← g x y
  match t with
  | .sh (.bl true) => do
    let (tc, e3) ← Fc e2
    let y' ← rd tb e3
    let z ← rd tc e3
    let t' ← g' y' z
    pure (t', e3)
  | .sh (.bl false) => pure (.sh (.bl false), e2)
  | _ => none
end
end DD

namespace DD
open PySem PySem.Spec PyProof.Rows L2
/-! ### data as the library's -/
mutual
def py : D → PyData
  | .non => .none
  | .bl b => .bool b
  | .int i => .int i
  | .str x => .str x
  | .lst ds => .list (pyL ds)
  | .tup ds => .tuple (pyL ds)
  | .dK _ _ => .dict []
  | .dT _ _ => .dict []
  | .scr _ => .dict []
  | .opq => .dict []
def pyL : List D → List PyData
  | [] => []
  | d :: ds => py d :: pyL ds
end
theorem pyL_map : ∀ ds : List D, pyL ds = ds.map py
  | [] => rfl
  | d :: ds => by rw [pyL, pyL_map ds]; rfl
mutual
/-- no dict within -/
def flat : D → Bool
  | .non | .bl _ | .int _ | .str _ => true
  | .lst ds | .tup ds => flatL ds
  | _ => false
def flatL : List D → Bool
  | [] => true
  | d :: ds => flat d && flatL ds
end
mutual
theorem Rep.dp {K : PySem.W.Frag} {H : Hp} : ∀ {d : D} {v : V}, flat d = true → Rep K H v d → Dp K H v (py d)
  | .non, _, _, r => by cases r; exact .non
  | .bl _, _, _, r => by cases r; exact .bl _
  | .int _, _, _, r => by cases r; exact .int _
  | .str _, _, _, r => by cases r; exact .str _
  | .lst ds, _, f, r => by cases r with | lst h q => exact .lst (.inl (.inl h)) (RepL.dp (by simpa only [flat] using f) q)
  | .tup ds, _, f, r => by cases r with | tup h q => exact .tup (.inl (.inl h)) (RepL.dp (by simpa only [flat] using f) q)
  | .dK _ _, _, f, _ => by simp [flat] at f
  | .dT _ _, _, f, _ => by simp [flat] at f
  | .scr _, _, f, _ => by simp [flat] at f
  | .opq, _, f, _ => by simp [flat] at f
theorem RepL.dp {K : PySem.W.Frag} {H : Hp} : ∀ {ds : List D} {vs : List V}, flatL ds = true → RepL K H vs ds → DpAll K H vs (pyL ds)
  | [], _, _, r => by cases r; exact .nil
  | d :: ds, _, f, r => by
    cases r with
    | cons h q =>
      have f : flat d = true ∧ flatL ds = true := by simpa only [flatL, Bool.and_eq_true] using f
      exact .cons (Rep.dp f.1 h) (RepL.dp f.2 q)
end
section
variable {X : Cx}
theorem Ok.rall {K : PySem.W.Frag} {fx : Fx} {Hs H : Hp} {σ : St} {e : DEnv} {B : List (V × D)} {v : V} {d : D} (k : Ok K fx Hs H σ e B) (r : RepT K Hs H v d) : Rep K H v d := r.all k.sub
/-! ### a new tuple, a new list -/
theorem Ok.tupP {K : PySem.W.Frag} {fx : Fx} {Hs H : Hp} {σ : St} {e : DEnv} {B : List (V × D)} {p : Addr} {vs : List V} {ds : List D} (k : Ok K fx Hs H σ e B) (h : H p = none) (r : RepL K Hs vs ds) :
    Post K fx (upd Hs p (.tup vs)) (upd H p (.tup vs)) σ e B (.ref p) (.sh (.tup ds)) ∧ Le Hs (upd Hs p (.tup vs)) := by
  have l : Le Hs (upd Hs p (.tup vs)) := Le.upd (k.hsn h)
  exact ⟨⟨k.newSh h, .tup upd_same (r.mono l)⟩, l⟩
theorem Ok.lstP {K : PySem.W.Frag} {fx : Fx} {Hs H : Hp} {σ : St} {e : DEnv} {B : List (V × D)} {p : Addr} {vs : List V} {ds : List D} (k : Ok K fx Hs H σ e B) (h : H p = none) (r : RepL K Hs vs ds) :
    Post K fx Hs (upd H p (.lst vs)) σ e B (.ref p) (.ow (.lst ds)) := ⟨k.newOw h ⟨_, upd_same, r⟩, trivial⟩

theorem Ok.tupAt {K : PySem.W.Frag} {fx : Fx} {Hs H : Hp} {σ : St} {e : DEnv} {B : List (V × D)} {v : V} {ds : List D} (k : Ok K fx Hs H σ e B) (r : RepT K Hs H v (.tup ds)) : ∃ a xs, v = .ref a ∧ H a = some (.tup xs) ∧ RepL K Hs xs ds := by
  cases (show Rep K Hs v (.tup ds) from r) with
  | tup h q => exact ⟨_, _, rfl, k.sub _ _ h, q⟩
/-! ### + -/
def addD : D → D → Option T
  | .int i, .int j => some (.sh (.int (i + j)))
  | .str x, .str y => if x.length + y.length ≤ sizeLine then some (.sh (.str (x ++ y))) else none
  | .tup xs, .tup ys => if xs.length + ys.length ≤ sizeLine then some (.sh (.tup (xs ++ ys))) else none
  | .lst xs, .lst ys => if xs.length + ys.length ≤ sizeLine then some (.ow (.lst (xs ++ ys))) else none
  | .int i, .bl b => some (.sh (.int (i + b2i b)))
  | _, _ => none
def rAddA (K : PySem.W.Frag) : R2 := fun x y H Q => (∃ i j, x = .int i ∧ y = .int j ∧ Q (.int (i + j)) H) ∨ (∃ i j, x = .str i ∧ y = .str j ∧ i.length + j.length ≤ sizeLine ∧ Q (.str (i ++ j)) H) ∨ rCatA K x y H Q ∨ rCat x y H Q ∨
  (∃ i k, x = .int i ∧ y = .bl k ∧ Q (.int (i + b2i k)) H)
theorem op_addA : OpR X (binaryOp .Add) (rAddA X.K) := op_add.or (op_add_str.or (op_catA.or (op_cat.or op_add_ib)))
theorem ok_addA : OkR X (rAddA X.K) addD := by
  intro fx Hs H σ e B x y a b t Q k ra rb hg q
  cases a with
  | int i =>
    cases b with
    | int j =>
      cases hg
      cases (show Rep X.K Hs x (.int i) from ra)
      cases (show Rep X.K Hs y (.int j) from rb)
      exact .inl ⟨i, j, rfl, rfl, q Hs _ H Le.refl ⟨k, .int _⟩⟩
    | bl j =>
      cases hg
      cases (show Rep X.K Hs x (.int i) from ra)
      cases (show Rep X.K Hs y (.bl j) from rb)
      exact .inr (.inr (.inr (.inr ⟨i, j, rfl, rfl, q Hs _ H Le.refl ⟨k, .int _⟩⟩)))
    | _ => cases hg
  | str i =>
    cases b with
    | str j =>
      simp only [addD] at hg
      split at hg
      · rename_i hz
        cases hg
        cases (show Rep X.K Hs x (.str i) from ra)
        cases (show Rep X.K Hs y (.str j) from rb)
        exact .inr (.inl ⟨i, j, rfl, rfl, hz, q Hs _ H Le.refl ⟨k, .str _⟩⟩)
      · cases hg
    | _ => cases hg
  | tup xs =>
    cases b with
    | tup ys =>
      simp only [addD] at hg
      split at hg
      · rename_i hz
        cases hg
        obtain ⟨a, us, e1, ha, r1⟩ := k.tupAt ra
        obtain ⟨b, ws, e2, hb, r2⟩ := k.tupAt rb
        subst e1 e2
        refine .inr (.inr (.inl ⟨a, b, us, ws, rfl, rfl, .inl (.inl ha), .inl (.inl hb), by rw [r1.length, r2.length]; exact hz, fun z => ?_, fun _ z => ?_, fun _ _ p hp => ?_⟩))
        · subst z
          cases r1
          exact q Hs _ H Le.refl ⟨k, rb⟩
        · subst z
          cases r2
          exact q Hs _ H Le.refl ⟨k, by rw [List.append_nil]; exact ra⟩
        · obtain ⟨p1, l⟩ := k.tupP hp (r1.append r2)
          exact q _ _ _ l p1
      · cases hg
    | _ => cases hg
  | lst xs =>
    cases b with
    | lst ys =>
      simp only [addD] at hg
      split at hg
      · rename_i hz
        cases hg
        obtain ⟨a, us, rfl, ha, r1⟩ := ra
        obtain ⟨b, ws, rfl, hb, r2⟩ := rb
        exact .inr (.inr (.inr (.inl ⟨a, b, us, ws, rfl, rfl, ha, hb, by rw [r1.length, r2.length]; exact hz, fun p hp => q Hs _ _ Le.refl (k.lstP hp (r1.append r2))⟩)))
      · cases hg
    | _ => cases hg
  | _ => cases hg

/-! ### - * // % ** on ints; list * int -/
def subD : D → D → Option T
  | .int i, .int j => some (.sh (.int (i - j)))
  | _, _ => none
theorem ok_sub : OkR X (rI0 fun i j => .int (i - j)) subD := by
  intro fx Hs H σ e B x y a b t Q k ra rb hg q
  cases a <;> cases b <;> try cases hg
  rename_i i j
  cases (show Rep X.K Hs x (.int i) from ra)
  cases (show Rep X.K Hs y (.int j) from rb)
  exact ⟨i, j, rfl, rfl, q Hs _ H Le.refl ⟨k, .int _⟩⟩
/-- both factors with few bits together -/
def mulD : D → D → Option T
  | .int i, .int j => if i.natAbs.log2 + j.natAbs.log2 < 1000000 then some (.sh (.int (i * j))) else none
  | .lst xs, .int k => if 0 ≤ k ∧ k ≤ 16777216 ∧ xs.length * k.toNat ≤ sizeLine then some (.ow (.lst (List.replicate k.toNat xs).flatten)) else none
  | _, _ => none
def rMulA : R2 := fun x y H Q => (rI CMulW fun i j => .int (i * j)) x y H Q ∨ rRep x y H Q
theorem op_mulA : OpR X (binaryOp .Mult) rMulA := op_mulW.or op_rep
theorem RepL.rep {K : PySem.W.Frag} {H : Hp} {vs : List V} {ds : List D} (r : RepL K H vs ds) : ∀ n : Nat, RepL K H (List.replicate n vs).flatten (List.replicate n ds).flatten
  | 0 => .nil
  | n + 1 => by
    rw [List.replicate_succ, List.replicate_succ, List.flatten_cons, List.flatten_cons]
    exact r.append (RepL.rep r n)
theorem ok_mulA : OkR X rMulA mulD := by
  intro fx Hs H σ e B x y a b t Q k ra rb hg q
  cases a with
  | int i =>
    cases b with
    | int j =>
      simp only [mulD] at hg
      split at hg
      · rename_i hz
        cases hg
        cases (show Rep X.K Hs x (.int i) from ra)
        cases (show Rep X.K Hs y (.int j) from rb)
        exact .inl ⟨i, j, rfl, rfl, hz, q Hs _ H Le.refl ⟨k, .int _⟩⟩
      · cases hg
    | _ => cases hg
  | lst xs =>
    cases b with
    | int j =>
      simp only [mulD] at hg
      split at hg
      · rename_i hz
        cases hg
        obtain ⟨a, us, rfl, ha, r1⟩ := ra
        cases (show Rep X.K Hs y (.int j) from rb)
        exact .inr ⟨a, j, us, rfl, rfl, ha, by omega, by omega, by rw [r1.length]; exact hz.2.2, fun p hp => q Hs _ _ Le.refl (k.lstP hp (r1.rep _))⟩
      · cases hg
    | _ => cases hg
  | _ => cases hg
def fdivD : D → D → Option T
  | .int i, .int j => if 0 < j ∧ j.natAbs.log2 < 9000 then some (.sh (.int (i / j))) else none
  | _, _ => none
theorem ok_fdiv : OkR X (rI CDivW fun i j => .int (i / j)) fdivD := by
  intro fx Hs H σ e B x y a b t Q k ra rb hg q
  cases a <;> cases b <;> try cases hg
  rename_i i j
  simp only [fdivD] at hg
  split at hg
  · rename_i hz
    cases hg
    cases (show Rep X.K Hs x (.int i) from ra)
    cases (show Rep X.K Hs y (.int j) from rb)
    exact ⟨i, j, rfl, rfl, hz, q Hs _ H Le.refl ⟨k, .int _⟩⟩
  · cases hg
def modD : D → D → Option T
  | .int i, .int j => if 0 < j then some (.sh (.int (i % j))) else none
  | _, _ => none
theorem ok_mod : OkR X (rI (fun _ j => 0 < j) fun i j => .int (i % j)) modD := by
  intro fx Hs H σ e B x y a b t Q k ra rb hg q
  cases a <;> cases b <;> try cases hg
  rename_i i j
  simp only [modD] at hg
  split at hg
  · rename_i hz
    cases hg
    cases (show Rep X.K Hs x (.int i) from ra)
    cases (show Rep X.K Hs y (.int j) from rb)
    exact ⟨i, j, rfl, rfl, hz, q Hs _ H Le.refl ⟨k, .int _⟩⟩
  · cases hg
/-- powers whose size is small -/
def powD : D → D → Option T
  | .int i, .int j => if 0 ≤ j ∧ (Builtin.Int.intBits i : Int) * j ≤ 2 ^ 27 then some (.sh (.int (i ^ j.toNat))) else none
  | _, _ => none
theorem op_powW : OpR X (binaryOp .Pow) (rI (fun i j => 0 ≤ j ∧ (Builtin.Int.intBits i : Int) * j ≤ 2 ^ 27) fun i j => .int (i ^ j.toNat)) := opI fun _ _ _ _ _ _ _ hc q => pow_int hc.1 hc.2 q
theorem ok_pow : OkR X (rI (fun i j => 0 ≤ j ∧ (Builtin.Int.intBits i : Int) * j ≤ 2 ^ 27) fun i j => .int (i ^ j.toNat)) powD := by
  intro fx Hs H σ e B x y a b t Q k ra rb hg q
  cases a <;> cases b <;> try cases hg
  rename_i i j
  simp only [powD] at hg
  split at hg
  · rename_i hz
    cases hg
    cases (show Rep X.K Hs x (.int i) from ra)
    cases (show Rep X.K Hs y (.int j) from rb)
    exact ⟨i, j, rfl, rfl, hz, q Hs _ H Le.refl ⟨k, .int _⟩⟩
  · cases hg
/-! ### == and != -/
def isScal : D → Bool
  | .non | .bl _ | .int _ | .str _ => true
  | _ => false
def toV : D → V
  | .bl b => .bl b
  | .int i => .int i
  | .str x => .str x
  | _ => .non
theorem rep_scal {K : PySem.W.Frag} {H : Hp} {v : V} : ∀ {d : D}, isScal d = true → Rep K H v d → v = toV d
  | .non, _, r => by cases r; rfl
  | .bl _, _, r => by cases r; rfl
  | .int _, _, r => by cases r; rfl
  | .str _, _, r => by cases r; rfl
  | .lst _, h, _ => by cases h
  | .tup _, h, _ => by cases h
  | .dK _ _, h, _ => by cases h
  | .dT _ _, h, _ => by cases h
  | .scr _, h, _ => by cases h
  | .opq, h, _ => by cases h
theorem repT_scal {K : PySem.W.Frag} {Hs H : Hp} {v : V} {d : D} (h : isScal d = true) (r : RepT K Hs H v d) : v = toV d := by
  cases d with
  | lst _ => cases h
  | dK _ _ => cases h
  | dT _ _ => cases h
  | _ => exact rep_scal h r
/-- equal as Python says; none: not known -/
def isSeq : D → Bool
  | .lst _ | .tup _ => true
  | _ => false
def eqv (a b : D) : Option Bool :=
  if isScal a = true ∧ isScal b = true then (if scal (toV a) (toV b) = true then some (decide (toV a = toV b)) else none)
  else if isSeq a = true ∧ flat a = true ∧ flat b = true ∧ PySem.W.alike (py a) (py b) = true ∧ (py a).depth ≤ 64 then some (PyData.eqv (py a) (py b))
  else if flat a = true ∧ flat b = true ∧ (py a).canLay0 = true ∧ (py b).canLay0 = true ∧ (py a).depth ≤ 64 then some (PyData.eqv (py a) (py b)) else none
def rEqA (K : PySem.W.Frag) (n : Bool) : R2 := fun x y H Q => (scal x y = true ∧ Q (.bl (n ^^ decide (x = y))) H) ∨ (∃ d e xs, Dp K H x d ∧ Dp K H y e ∧ (d = .list xs ∨ d = .tuple xs) ∧ PySem.W.alike d e = true ∧ d.depth ≤ 64 ∧ Q (.bl (n ^^ PyData.eqv d e)) H) ∨ ∃ d e, Dp K H x d ∧ Dp K H y e ∧ d.canLay0 = true ∧ e.canLay0 = true ∧ d.depth ≤ 64 ∧ Q (.bl (n ^^ PyData.eqv d e)) H
theorem rc_alike : ∀ (d e : PyData) (A : Around) (s : Shared) (u v : Value) (as bs : List Addr), Reads s.heap u d as → Reads s.heap v e bs → PySem.W.alike d e = true → (∃ xs, d = .list xs ∨ d = .tuple xs) → A.units + d.depth < cLine → SeqAt.RcAt A s u v (PyData.eqv d e)
  | .list xs, d2, A, s, u, v, as, bs, r1, r2, h, _, hu => by
    cases d2 with
    | list ys =>
      have hal : PySem.W.alikeAll xs ys = true := by simpa [PySem.W.alike] using h
      have room : A.units + 1 + PyData.depthAll xs < cLine := by have z : A.units + (PyData.list xs).depth < cLine := hu; simp only [PyData.depth] at z; omega
      cases r1 with
      | @list l o vs n _ as1 h1 h2 h3 h4 =>
        cases r2 with
        | @list m o2 ws n2 _ bs1 k1 k2 k3 k4 =>
          have hl : s.heap.IsList l vs := ⟨_, h1, h2, _, h3⟩
          have hm : s.heap.IsList m ws := ⟨_, k1, k2, _, k3⟩
          have n1 : vs.size = xs.length := by simpa using SeqAt.ReadsAll.length _ _ _ h4
          have n3 : ws.size = ys.length := by simpa using SeqAt.ReadsAll.length _ _ _ k4
          show SeqAt.RcAt A s (.ref l) (.ref m) (PyData.eqvAll xs ys)
          by_cases hz : vs.size = ws.size
          · rw [← SeqAt.eqvAll_same_length (by omega : xs.length = ys.length), ← n1]
            refine SeqAt.RcAt.lists hl hm hz (by omega) fun j j1 j2 => ?_
            have z := PySem.W.eqAt_alikeAll xs ys A.in1 s vs.toList ws.toList _ _ h4 k4 hal (Nat.lt_of_le_of_lt (Nat.add_le_add_left (Nat.min_le_left _ _) _) room) j (by simpa using j1) (by simpa using j2)
            simpa using z
          · rw [SeqAt.eqvAll_other_length (by omega : xs.length ≠ ys.length)]
            exact SeqAt.RcAt.lists_lengths hl hm (by simpa using hz) (by omega)
    | _ => simp [PySem.W.alike] at h
  | .tuple xs, d2, A, s, u, v, as, bs, r1, r2, h, _, hu => by
    cases d2 with
    | tuple ys =>
      have hal : PySem.W.alikeAll xs ys = true := by simpa [PySem.W.alike] using h
      have room : A.units + 1 + PyData.depthAll xs < cLine := by have z : A.units + (PyData.tuple xs).depth < cLine := hu; simp only [PyData.depth] at z; omega
      cases r1 with
      | @tuple l o vs n _ as1 h1 h2 h3 h4 =>
        cases r2 with
        | @tuple m o2 ws n2 _ bs1 k1 k2 k3 k4 =>
          have hl : s.heap.IsTuple l vs := ⟨_, h1, h2, _, h3⟩
          have hm : s.heap.IsTuple m ws := ⟨_, k1, k2, _, k3⟩
          have n1 : vs.size = xs.length := by simpa using SeqAt.ReadsAll.length _ _ _ h4
          have n3 : ws.size = ys.length := by simpa using SeqAt.ReadsAll.length _ _ _ k4
          show SeqAt.RcAt A s (.ref l) (.ref m) (PyData.eqvAll xs ys)
          rw [← SeqAt.eqvAll_eq xs ys, ← n1, ← n3]
          refine SeqAt.RcAt.tuples hl hm (by omega) fun j j1 j2 => ?_
          have z := PySem.W.eqAt_alikeAll xs ys A.in1 s vs.toList ws.toList _ _ h4 k4 hal (Nat.lt_of_le_of_lt (Nat.add_le_add_left (Nat.min_le_left _ _) _) room) j (by simpa using j1) (by simpa using j2)
          simpa using z
    | _ => simp [PySem.W.alike] at h
  | .none, _, _, _, _, _, _, _, _, _, _, h, _ => by obtain ⟨_, h | h⟩ := h <;> cases h
  | .bool _, _, _, _, _, _, _, _, _, _, _, h, _ => by obtain ⟨_, h | h⟩ := h <;> cases h
  | .int _, _, _, _, _, _, _, _, _, _, _, h, _ => by obtain ⟨_, h | h⟩ := h <;> cases h
  | .str _, _, _, _, _, _, _, _, _, _, _, h, _ => by obtain ⟨_, h | h⟩ := h <;> cases h
  | .dict _, _, _, _, _, _, _, _, _, _, _, h, _ => by obtain ⟨_, h | h⟩ := h <;> cases h
theorem rcn_alike : ∀ (d e : PyData) (A : Around) (s : Shared) (u v : Value) (as bs : List Addr), Reads s.heap u d as → Reads s.heap v e bs → PySem.W.alike d e = true → (∃ xs, d = .list xs ∨ d = .tuple xs) → A.units + d.depth < cLine → SeqAt.RcNeAt A s u v (!PyData.eqv d e)
  | .list xs, d2, A, s, u, v, as, bs, r1, r2, h, _, hu => by
    cases d2 with
    | list ys =>
      have hal : PySem.W.alikeAll xs ys = true := by simpa [PySem.W.alike] using h
      have room : A.units + 1 + PyData.depthAll xs < cLine := by have z : A.units + (PyData.list xs).depth < cLine := hu; simp only [PyData.depth] at z; omega
      cases r1 with
      | @list l o vs n _ as1 h1 h2 h3 h4 =>
        cases r2 with
        | @list m o2 ws n2 _ bs1 k1 k2 k3 k4 =>
          have hl : s.heap.IsList l vs := ⟨_, h1, h2, _, h3⟩
          have hm : s.heap.IsList m ws := ⟨_, k1, k2, _, k3⟩
          have n1 : vs.size = xs.length := by simpa using SeqAt.ReadsAll.length _ _ _ h4
          have n3 : ws.size = ys.length := by simpa using SeqAt.ReadsAll.length _ _ _ k4
          show SeqAt.RcNeAt A s (.ref l) (.ref m) (!PyData.eqvAll xs ys)
          by_cases hz : vs.size = ws.size
          · rw [← SeqAt.eqvAll_same_length (by omega : xs.length = ys.length), ← n1]
            refine SeqAt.RcNeAt.lists hl hm hz (by omega) fun j j1 j2 => ?_
            have z := PySem.W.eqAt_alikeAll xs ys A.in1 s vs.toList ws.toList _ _ h4 k4 hal (Nat.lt_of_le_of_lt (Nat.add_le_add_left (Nat.min_le_left _ _) _) room) j (by simpa using j1) (by simpa using j2)
            simpa using z
          · rw [SeqAt.eqvAll_other_length (by omega : xs.length ≠ ys.length)]
            exact SeqAt.RcNeAt.lists_lengths hl hm (by simpa using hz) (by omega)
    | _ => simp [PySem.W.alike] at h
  | .tuple xs, d2, A, s, u, v, as, bs, r1, r2, h, _, hu => by
    cases d2 with
    | tuple ys =>
      have hal : PySem.W.alikeAll xs ys = true := by simpa [PySem.W.alike] using h
      have room : A.units + 1 + PyData.depthAll xs < cLine := by have z : A.units + (PyData.tuple xs).depth < cLine := hu; simp only [PyData.depth] at z; omega
      cases r1 with
      | @tuple l o vs n _ as1 h1 h2 h3 h4 =>
        cases r2 with
        | @tuple m o2 ws n2 _ bs1 k1 k2 k3 k4 =>
          have hl : s.heap.IsTuple l vs := ⟨_, h1, h2, _, h3⟩
          have hm : s.heap.IsTuple m ws := ⟨_, k1, k2, _, k3⟩
          have n1 : vs.size = xs.length := by simpa using SeqAt.ReadsAll.length _ _ _ h4
          have n3 : ws.size = ys.length := by simpa using SeqAt.ReadsAll.length _ _ _ k4
          show SeqAt.RcNeAt A s (.ref l) (.ref m) (!PyData.eqvAll xs ys)
          rw [← SeqAt.eqvAll_eq xs ys, ← n1, ← n3]
          refine SeqAt.RcNeAt.tuples hl hm (by omega) fun j j1 j2 => ?_
          have z := PySem.W.eqAt_alikeAll xs ys A.in1 s vs.toList ws.toList _ _ h4 k4 hal (Nat.lt_of_le_of_lt (Nat.add_le_add_left (Nat.min_le_left _ _) _) room) j (by simpa using j1) (by simpa using j2)
          simpa using z
    | _ => simp [PySem.W.alike] at h
  | .none, _, _, _, _, _, _, _, _, _, _, h, _ => by obtain ⟨_, h | h⟩ := h <;> cases h
  | .bool _, _, _, _, _, _, _, _, _, _, _, h, _ => by obtain ⟨_, h | h⟩ := h <;> cases h
  | .int _, _, _, _, _, _, _, _, _, _, _, h, _ => by obtain ⟨_, h | h⟩ := h <;> cases h
  | .str _, _, _, _, _, _, _, _, _, _, _, h, _ => by obtain ⟨_, h | h⟩ := h <;> cases h
  | .dict _, _, _, _, _, _, _, _, _, _, _, h, _ => by obtain ⟨_, h | h⟩ := h <;> cases h
theorem op_eqA (hu : X.A.units + 64 < cLine) : OpR X (compareOp .Eq) (rEqA X.K false) := by
  intro pins s σ H x y v u Q I rx ry h
  rcases h with ⟨h1, q⟩ | ⟨d, e, xs, hd, he, hx, ha, hz, q⟩ | ⟨d, e, hd, he, c1, c2, hz, q⟩
  · exact op_eq pins s σ H x y v u Q I rx ry ⟨h1, by simpa using q⟩
  · obtain ⟨as, r1⟩ := Dp.reads I d x v hd rx
    obtain ⟨bs, r2⟩ := Dp.reads I e y u he ry
    exact rc_alike d e X.A s v u as bs r1 r2 ha ⟨xs, hx⟩ (by omega) X.prog X.w X.xe _ ⟨.bl _, H, I, rfl, by simpa using q⟩
  · obtain ⟨as, r1⟩ := Dp.reads I d x v hd rx
    obtain ⟨bs, r2⟩ := Dp.reads I e y u he ry
    exact SeqAt.compareEq_reads r1 r2 c1 c2 (Nat.lt_of_le_of_lt (Nat.add_le_add_left (Nat.le_trans (Nat.min_le_left _ _) hz) _) hu) ⟨.bl _, H, I, rfl, by simpa using q⟩
theorem op_neA (hu : X.A.units + 64 < cLine) : OpR X (compareOp .NotEq) (rEqA X.K true) := by
  intro pins s σ H x y v u Q I rx ry h
  rcases h with ⟨h1, q⟩ | ⟨d, e, xs, hd, he, hx, ha, hz, q⟩ | ⟨d, e, hd, he, c1, c2, hz, q⟩
  · exact op_ne pins s σ H x y v u Q I rx ry ⟨h1, by simpa using q⟩
  · obtain ⟨as, r1⟩ := Dp.reads I d x v hd rx
    obtain ⟨bs, r2⟩ := Dp.reads I e y u he ry
    exact rcn_alike d e X.A s v u as bs r1 r2 ha ⟨xs, hx⟩ (by omega) X.prog X.w X.xe _ ⟨.bl _, H, I, rfl, by simpa using q⟩
  · obtain ⟨as, r1⟩ := Dp.reads I d x v hd rx
    obtain ⟨bs, r2⟩ := Dp.reads I e y u he ry
    exact SeqAt.compareNe_reads r1 r2 c1 c2 (Nat.lt_of_le_of_lt (Nat.add_le_add_left (Nat.le_trans (Nat.min_le_left _ _) hz) _) hu) ⟨.bl _, H, I, rfl, by simpa using q⟩
theorem seq_py : ∀ {d : D}, isSeq d = true → ∃ xs, py d = .list xs ∨ py d = .tuple xs
  | .lst ds, _ => ⟨pyL ds, .inl rfl⟩
  | .tup ds, _ => ⟨pyL ds, .inr rfl⟩
theorem ok_eqA (n : Bool) : OkR X (rEqA X.K n) (fun a b => (eqv a b).map fun c => .sh (.bl (n ^^ c))) := by
  intro fx Hs H σ e B x y a b t Q k ra rb hg q
  simp only [Option.map_eq_some_iff] at hg
  obtain ⟨c, hc, rfl⟩ := hg
  unfold eqv at hc
  split at hc
  · rename_i h
    split at hc
    · rename_i h2
      cases hc
      have e1 := repT_scal h.1 ra
      have e2 := repT_scal h.2 rb
      subst e1 e2
      exact .inl ⟨h2, q Hs _ H Le.refl ⟨k, .bl _⟩⟩
    · cases hc
  · split at hc
    · rename_i h
      cases hc
      obtain ⟨h0, h1, h2, h3, h4⟩ := h
      obtain ⟨xs, hx⟩ := seq_py h0
      exact .inr (.inl ⟨py a, py b, xs, Rep.dp h1 (k.rall ra), Rep.dp h2 (k.rall rb), hx, h3, h4, q Hs _ H Le.refl ⟨k, .bl _⟩⟩)
    · split at hc
      · rename_i h
        cases hc
        obtain ⟨h1, h2, h3, h4, h5⟩ := h
        exact .inr (.inr ⟨py a, py b, Rep.dp h1 (k.rall ra), Rep.dp h2 (k.rall rb), h3, h4, h5, q Hs _ H Le.refl ⟨k, .bl _⟩⟩)
      · cases hc
def eqF : D → D → Option T := fun a b => (eqv a b).map fun c => .sh (.bl (false ^^ c))
def neF : D → D → Option T := fun a b => (eqv a b).map fun c => .sh (.bl (true ^^ c))
/-! ### < <= > >= -/
def isNon : D → Bool
  | .non => true
  | _ => false
/-- less as Python says; none: not known -/
def ltv (a b : D) : Option Bool := match a, b with
  | .int i, .int j => some (decide (i < j))
  | a, b => if flat a = true ∧ flat b = true ∧ PySem.W.alike (py a) (py b) = true ∧ isNon a = false ∧ (py a).depth ≤ 64 then some (PySem.W.dataLt (py a) (py b)) else none
theorem py_ne {a : D} (h : isNon a = false) : py a ≠ .none := by
  cases a <;> simp [py, isNon] at *
theorem alike_depth {a b : D} (h : (py a).depth ≤ 64) : min (py a).depth (py b).depth ≤ 64 := Nat.le_trans (Nat.min_le_left _ _) h
/-- n: the answer turned; s: the sides turned -/
def rLtA (K : PySem.W.Frag) (n s : Bool) : R2 := fun x y H Q => (∃ i j, x = .int i ∧ y = .int j ∧ Q (.bl (n ^^ (if s then decide (j < i) else decide (i < j)))) H) ∨
  ∃ d e, Dp K H x d ∧ Dp K H y e ∧ PySem.W.alike d e = true ∧ d ≠ .none ∧ min d.depth e.depth ≤ 64 ∧ Q (.bl (n ^^ (if s then PySem.W.dataLt e d else PySem.W.dataLt d e))) H
theorem op_ltA (hu : X.A.units + 64 < cLine) : OpR X (compareOp .Lt) (rLtA X.K false false) := by
  intro pins s σ H x y v u Q I rx ry h
  rcases h with ⟨i, j, e1, e2, q⟩ | ⟨d, e, hd, he, ha, hn, hz, q⟩
  · exact op_lt pins s σ H x y v u Q I rx ry ⟨i, j, e1, e2, by simpa using q⟩
  · obtain ⟨as, r1⟩ := Dp.reads I d x v hd rx
    obtain ⟨bs, r2⟩ := Dp.reads I e y u he ry
    exact PySem.W.lt_data r1 r2 ha hn (by omega) ⟨.bl _, H, I, rfl, by simpa using q⟩
theorem op_gtA (hu : X.A.units + 64 < cLine) : OpR X (compareOp .Gt) (rLtA X.K false true) := by
  intro pins s σ H x y v u Q I rx ry h
  rcases h with ⟨i, j, e1, e2, q⟩ | ⟨d, e, hd, he, ha, hn, hz, q⟩
  · exact op_gt pins s σ H x y v u Q I rx ry ⟨i, j, e1, e2, by simpa using q⟩
  · obtain ⟨as, r1⟩ := Dp.reads I d x v hd rx
    obtain ⟨bs, r2⟩ := Dp.reads I e y u he ry
    exact PySem.W.gt_data r1 r2 ha hn (by omega) ⟨.bl _, H, I, rfl, by simpa using q⟩
theorem op_leA (hu : X.A.units + 64 < cLine) : OpR X (compareOp .LtE) (rLtA X.K true true) := by
  intro pins s σ H x y v u Q I rx ry h
  rcases h with ⟨i, j, e1, e2, q⟩ | ⟨d, e, hd, he, ha, hn, hz, q⟩
  · refine op_le pins s σ H x y v u Q I rx ry ⟨i, j, e1, e2, ?_⟩
    have z : decide (i ≤ j) = (true ^^ (if true = true then decide (j < i) else decide (i < j))) := by
      by_cases c : i ≤ j
      · have : ¬ j < i := by omega
        simp [c, this]
      · have : j < i := by omega
        simp [c, this]
    show Q (.bl (decide _)) H
    rw [z]; exact q
  · obtain ⟨as, r1⟩ := Dp.reads I d x v hd rx
    obtain ⟨bs, r2⟩ := Dp.reads I e y u he ry
    exact PySem.W.le_data r1 r2 ha hn (by omega) ⟨.bl _, H, I, rfl, by simpa using q⟩
theorem op_geA (hu : X.A.units + 64 < cLine) : OpR X (compareOp .GtE) (rLtA X.K true false) := by
  intro pins s σ H x y v u Q I rx ry h
  rcases h with ⟨i, j, e1, e2, q⟩ | ⟨d, e, hd, he, ha, hn, hz, q⟩
  · refine op_ge pins s σ H x y v u Q I rx ry ⟨i, j, e1, e2, ?_⟩
    have z : decide (j ≤ i) = (true ^^ (if false = true then decide (j < i) else decide (i < j))) := by
      by_cases c : j ≤ i
      · have : ¬ i < j := by omega
        simp [c, this]
      · have : i < j := by omega
        simp [c, this]
    show Q (.bl (decide _)) H
    rw [z]; exact q
  · obtain ⟨as, r1⟩ := Dp.reads I d x v hd rx
    obtain ⟨bs, r2⟩ := Dp.reads I e y u he ry
    exact PySem.W.ge_data r1 r2 ha hn (by omega) ⟨.bl _, H, I, rfl, by simpa using q⟩
def ltF (n s : Bool) : D → D → Option T := fun a b => (if s then ltv b a else ltv a b).map fun c => .sh (.bl (n ^^ c))
theorem ok_ltA (n s : Bool) : OkR X (rLtA X.K n s) (ltF n s) := by
  intro fx Hs H σ e B x y a b t Q k ra rb hg q
  simp only [ltF, Option.map_eq_some_iff] at hg
  obtain ⟨c, hc, rfl⟩ := hg
  have go : ∀ (a b : D), ltv a b = some c → ((∃ i j, a = .int i ∧ b = .int j ∧ c = decide (i < j)) ∨ (flat a = true ∧ flat b = true ∧ PySem.W.alike (py a) (py b) = true ∧ isNon a = false ∧ (py a).depth ≤ 64 ∧ c = PySem.W.dataLt (py a) (py b))) := by
    intro a b h
    unfold ltv at h
    split at h
    · cases h
      exact .inl ⟨_, _, rfl, rfl, rfl⟩
    · split at h
      · rename_i w
        cases h
        exact .inr ⟨w.1, w.2.1, w.2.2.1, w.2.2.2.1, w.2.2.2.2, rfl⟩
      · cases h
  cases s with
  | false =>
    rw [if_neg (by decide)] at hc
    rcases go _ _ hc with ⟨i, j, rfl, rfl, rfl⟩ | ⟨h1, h2, h3, h4, h5, rfl⟩
    · cases (show Rep X.K Hs x (.int i) from ra)
      cases (show Rep X.K Hs y (.int j) from rb)
      exact .inl ⟨i, j, rfl, rfl, q Hs _ H Le.refl ⟨k, .bl _⟩⟩
    · exact .inr ⟨py a, py b, Rep.dp h1 (k.rall ra), Rep.dp h2 (k.rall rb), h3, py_ne h4, Nat.le_trans (Nat.min_le_left _ _) h5, q Hs _ H Le.refl ⟨k, .bl _⟩⟩
  | true =>
    rw [if_pos rfl] at hc
    rcases go _ _ hc with ⟨i, j, rfl, rfl, rfl⟩ | ⟨h1, h2, h3, h4, h5, rfl⟩
    · cases (show Rep X.K Hs x (.int j) from ra)
      cases (show Rep X.K Hs y (.int i) from rb)
      exact .inl ⟨j, i, rfl, rfl, q Hs _ H Le.refl ⟨k, .bl _⟩⟩
    · have h3' : PySem.W.alike (py a) (py b) = true := by rw [PySem.W.alike_comm]; exact h3
      exact .inr ⟨py a, py b, Rep.dp h2 (k.rall ra), Rep.dp h1 (k.rall rb), h3', PySem.W.ne_none_both h3 (py_ne h4), Nat.le_trans (Nat.min_le_right _ _) h5, q Hs _ H Le.refl ⟨k, .bl _⟩⟩
/-! ### is None -/
def isOpq : D → Bool
  | .opq => true
  | _ => false
def isNF (n : Bool) : D → D → Option T := fun a b => match b with
  | .non => if isOpq a = true then none else some (.sh (.bl (n ^^ isNon a)))
  | _ => none
theorem repT_non {K : PySem.W.Frag} {Hs H : Hp} {v : V} {d : D} (r : RepT K Hs H v d) (no : ¬ isOpq d = true) : decide (v = .non) = isNon d := by
  cases d with
  | non => cases (show Rep K Hs v .non from r); rfl
  | bl b => cases (show Rep K Hs v (.bl b) from r); rfl
  | int b => cases (show Rep K Hs v (.int b) from r); rfl
  | str b => cases (show Rep K Hs v (.str b) from r); rfl
  | tup ds => cases (show Rep K Hs v (.tup ds) from r); rfl
  | scr ns => cases (show Rep K Hs v (.scr ns) from r); rfl
  | lst ds => obtain ⟨a, xs, rfl, _⟩ := r; rfl
  | dK ks ds => obtain ⟨a, xs, rfl, _⟩ := r; rfl
  | dT ks ds => obtain ⟨a, xs, rfl, _⟩ := r; rfl
  | opq => exact absurd rfl no
theorem ok_isN : OkR X (fun x y H Q => y = .non ∧ Q (.bl (decide (x = .non))) H) (isNF false) := by
  intro fx Hs H σ e B x y a b t Q k ra rb hg q
  unfold isNF at hg
  split at hg
  · split at hg
    · cases hg
    rename_i no
    cases hg
    cases (show Rep X.K Hs y .non from rb)
    refine ⟨rfl, ?_⟩
    rw [repT_non ra no]
    have := q Hs (.bl (false ^^ isNon a)) H Le.refl ⟨k, .bl _⟩
    simpa using this
  · cases hg
theorem ok_notN : OkR X (fun x y H Q => y = .non ∧ Q (.bl (!decide (x = .non))) H) (isNF true) := by
  intro fx Hs H σ e B x y a b t Q k ra rb hg q
  unfold isNF at hg
  split at hg
  · split at hg
    · cases hg
    rename_i no
    cases hg
    cases (show Rep X.K Hs y .non from rb)
    refine ⟨rfl, ?_⟩
    rw [repT_non ra no]
    have := q Hs (.bl (true ^^ isNon a)) H Le.refl ⟨k, .bl _⟩
    simpa using this
  · cases hg
/-! ### dicts by their pairs -/
section
variable {κ : Type} [DecidableEq κ]
def lookD : List κ → List D → κ → Option D
  | k :: ks, d :: ds, x => if k = x then some d else lookD ks ds x
  | _, _, _ => none
def OptRep (K : PySem.W.Frag) (H : Hp) (o : Option D) (r : Option V) : Prop := match o with
  | some d => ∃ v, r = some v ∧ Rep K H v d
  | none => r = none
theorem look_rep {K : PySem.W.Frag} {H : Hp} {x : κ} : ∀ {kvs : List (κ × V)} {ds : List D}, RepL K H (kvs.map (·.2)) ds → OptRep K H (lookD (kvs.map (·.1)) ds x) (valV kvs x)
  | [], ds, r => by cases r; rfl
  | (k, v) :: kvs, ds, r => by
    cases r with
    | cons h q =>
      rename_i d ds
      show OptRep K H (if k = x then some d else lookD (kvs.map (·.1)) ds x) (valV ((k, v) :: kvs) x)
      by_cases e : k = x
      · rw [if_pos e]
        exact ⟨v, valV_pos e, h⟩
      · rw [if_neg e, valV_neg (p := (k, v)) e]
        exact look_rep q
end
/-- what a datum is as a key -/
def keyOf : D → Option Key
  | .int i => some (.inl i)
  | .str x => some (.inr x)
  | _ => none
def keysOf : List D → Option (List Key)
  | [] => some []
  | d :: ds => match keyOf d, keysOf ds with
    | some k, some ks => some (k :: ks)
    | _, _ => none
theorem key_rep {K : PySem.W.Frag} {H : Hp} {v : V} {k : Key} : ∀ {d : D}, keyOf d = some k → Rep K H v d → v = kV k
  | .int i, e, r => by cases e; cases r; rfl
  | .str i, e, r => by cases e; cases r; rfl
theorem keys_rep {K : PySem.W.Frag} {H : Hp} : ∀ {ds : List D} {ks : List Key} {vs : List V}, keysOf ds = some ks → RepL K H vs ds → vs = ks.map kV
  | [], _, _, e, r => by cases e; cases r; rfl
  | d :: ds, ks, vs, e, r => by
    simp only [keysOf] at e
    split at e
    · rename_i k ks' h1 h2
      cases e
      cases r with
      | cons h q => rw [key_rep h1 h, keys_rep h2 q]; rfl
    · cases e
def getDk : D → D → Option (Option D)
  | .dK ks vs, key => (keyOf key).map fun k => lookD ks vs k
  | .dT ks vs, .tup ds => (keysOf ds).map fun k => lookD ks vs k
  | _, _ => none
theorem getDk_ok {K : PySem.W.Frag} {fx : Fx} {Hs H : Hp} {σ : St} {e : DEnv} {B : List (V × D)} {x y : V} {a b : D} {o : Option D} (k : Ok K fx Hs H σ e B) (ra : RepT K Hs H x a) (rb : RepT K Hs H y b) (h : getDk a b = some o) :
    ∃ p r, x = .ref p ∧ DGet H p y r ∧ OptRep K Hs o r := by
  cases a with
  | dK ks vs =>
    simp only [getDk, Option.map_eq_some_iff] at h
    obtain ⟨ky, h1, rfl⟩ := h
    obtain ⟨p, kvs, rfl, hp, rfl, r⟩ := ra
    have e1 : y = kV ky := key_rep h1 (k.rall rb)
    subst e1
    exact ⟨p, _, rfl, DGet.k hp, look_rep r⟩
  | dT ks vs =>
    cases b with
    | tup ds =>
      simp only [getDk, Option.map_eq_some_iff] at h
      obtain ⟨ky, h1, rfl⟩ := h
      obtain ⟨p, kvs, rfl, hp, rfl, r⟩ := ra
      obtain ⟨b, us, rfl, hb, r2⟩ := k.tupAt rb
      rw [keys_rep h1 r2] at hb
      exact ⟨p, _, rfl, DGet.t hp hb, look_rep r⟩
    | _ => cases h
  | _ => cases h
/-! ### in -/
def rDIn (n : Bool) : R2 := fun y x H Q => ∃ a o, x = .ref a ∧ DGet H a y o ∧ Q (.bl (n ^^ o.isSome)) H
theorem op_dIn (hu : X.A.units + 1 < cLine) : OpR X (compareOp .In) (rDIn false) := by
  intro pins s σ H x y v u Q I rx ry ⟨a, o, e, g, q⟩
  subst e
  obtain rfl : u = Value.ref a := ry
  exact d_in hu I g rx fun s3 I3 => ⟨.bl o.isSome, H, I3, rfl, by simpa using q⟩
theorem op_dNotIn (hu : X.A.units + 1 < cLine) : OpR X (compareOp .NotIn) (rDIn true) := by
  intro pins s σ H x y v u Q I rx ry ⟨a, o, e, g, q⟩
  subst e
  obtain rfl : u = Value.ref a := ry
  exact d_notIn hu I g rx fun s3 I3 => ⟨.bl (!o.isSome), H, I3, rfl, by simpa using q⟩
def isFlatS : D → Bool
  | .non | .int _ | .str _ => true
  | _ => false
def inL (x : D) (ds : List D) : Bool := ds.any fun d => decide (toV d = toV x)
/-- x in c; none: not known -/
def inv (x c : D) : Option Bool := match c with
  | .str z => match x with
    | .str ⟨⟨[c]⟩⟩ => some (decide (c ∈ z.cps.toList))
    | _ => none
  | .lst ds => if isFlatS x = true ∧ ds.all isFlatS = true then some (inL x ds) else none
  | .tup ds => if isFlatS x = true ∧ ds.all isFlatS = true then some (inL x ds) else none
  | c => (getDk c x).map (·.isSome)
def rInA (K : PySem.W.Frag) (n : Bool) : R2 := fun x y H Q => (∃ (c : Nat) (z : Str), x = .str ⟨#[c]⟩ ∧ y = .str z ∧ Q (.bl (n ^^ decide (c ∈ z.cps.toList))) H) ∨
  (∃ p xs, y = .ref p ∧ (SqL K H p xs ∨ SqT K H p xs) ∧ flatV x = true ∧ xs.all flatV = true ∧ Q (.bl (n ^^ inV x xs)) H) ∨ rDIn n x y H Q
theorem op_inA (hu : X.A.units + 1 < cLine) : OpR X (compareOp .In) (rInA X.K false) := by
  intro pins s σ H x y v u Q I rx ry h
  rcases h with ⟨c, z, e1, e2, q⟩ | ⟨p, xs, e, hs, f1, f2, q⟩ | h
  · exact op_in_sign pins s σ H x y v u Q I rx ry ⟨c, z, e1, e2, by simpa using q⟩
  · exact op_in_seq pins s σ H x y v u Q I rx ry ⟨p, xs, e, hs, f1, f2, by simpa using q⟩
  · exact op_dIn hu pins s σ H x y v u Q I rx ry h
theorem op_notInA (hu : X.A.units + 1 < cLine) : OpR X (compareOp .NotIn) (rInA X.K true) := by
  intro pins s σ H x y v u Q I rx ry h
  rcases h with ⟨c, z, e1, e2, q⟩ | ⟨p, xs, e, hs, f1, f2, q⟩ | h
  · exact op_notIn_sign pins s σ H x y v u Q I rx ry ⟨c, z, e1, e2, by simpa using q⟩
  · exact op_notIn_seq pins s σ H x y v u Q I rx ry ⟨p, xs, e, hs, f1, f2, by simpa using q⟩
  · exact op_dNotIn hu pins s σ H x y v u Q I rx ry h
def inF (n : Bool) : D → D → Option T := fun x c => (inv x c).map fun b => .sh (.bl (n ^^ b))
end
end DD

namespace DD
open PySem PySem.Spec PyProof.Rows L2
section
variable {X : Cx} {fx : Fx}
theorem scal_flat : ∀ {d : D}, isFlatS d = true → isScal d = true
  | .non, _ => rfl
  | .int _, _ => rfl
  | .str _, _ => rfl
theorem flat_toV : ∀ {d : D}, isFlatS d = true → flatV (toV d) = true
  | .non, _ => rfl
  | .int _, _ => rfl
  | .str _, _ => rfl
theorem eqV_toV : ∀ {d x : D}, isFlatS d = true → isFlatS x = true → eqV (toV d) (toV x) = decide (toV d = toV x)
  | .non, .non, _, _ => rfl
  | .non, .int _, _, _ => rfl
  | .non, .str _, _, _ => rfl
  | .int _, .non, _, _ => rfl
  | .int i, .int j, _, _ => dec_int.symm
  | .int _, .str _, _, _ => by rw [toV, toV, decide_eq_false (fun z => nomatch z)]; rfl
  | .str _, .non, _, _ => rfl
  | .str _, .int _, _, _ => by rw [toV, toV, decide_eq_false (fun z => nomatch z)]; rfl
  | .str i, .str j, _, _ => dec_str.symm
theorem repL_toV {K : PySem.W.Frag} {H : Hp} : ∀ {ds : List D} {vs : List V}, ds.all isFlatS = true → RepL K H vs ds → vs = ds.map toV
  | [], _, _, r => by cases r; rfl
  | d :: ds, _, f, r => by
    rw [List.all_cons, Bool.and_eq_true] at f
    cases r with
    | cons h q => rw [rep_scal (scal_flat f.1) h, repL_toV f.2 q]; rfl
theorem inV_toV {x : D} (hx : isFlatS x = true) : ∀ {ds : List D}, ds.all isFlatS = true → inV (toV x) (ds.map toV) = inL x ds
  | [], _ => rfl
  | d :: ds, f => by
    rw [List.all_cons, Bool.and_eq_true] at f
    have ih := inV_toV hx f.2
    unfold inV inL at ih ⊢
    rw [List.map_cons, List.any_cons, List.any_cons, ih, eqV_toV f.1 hx]
theorem flats_toV : ∀ {ds : List D}, ds.all isFlatS = true → (ds.map toV).all flatV = true
  | [], _ => rfl
  | d :: ds, f => by
    rw [List.all_cons, Bool.and_eq_true] at f
    rw [List.map_cons, List.all_cons, flat_toV f.1, flats_toV f.2]; rfl
theorem ok_inA (n : Bool) : OkR X (rInA X.K n) (inF n) := by
  intro fx Hs H σ e B x y a b t Q k ra rb hg q
  simp only [inF, Option.map_eq_some_iff] at hg
  obtain ⟨c, hc, rfl⟩ := hg
  have fin : Q (.bl (n ^^ c)) H := q Hs _ H Le.refl ⟨k, .bl _⟩
  cases b with
  | str z =>
    unfold inv at hc
    dsimp only at hc
    split at hc
    · rename_i ch
      cases hc
      cases (show Rep X.K Hs y (.str z) from rb)
      cases (show Rep X.K Hs x (.str ⟨⟨[ch]⟩⟩) from ra)
      exact .inl ⟨ch, z, rfl, rfl, fin⟩
    · cases hc
  | lst ds =>
    simp only [inv] at hc
    split at hc
    · rename_i h
      cases hc
      obtain ⟨p, xs, rfl, hp, r⟩ := rb
      have e1 := repT_scal (scal_flat h.1) ra
      have e2 := repL_toV h.2 r
      subst e1 e2
      exact .inr (.inl ⟨p, _, rfl, .inl (.inl (.inl hp)), flat_toV h.1, flats_toV h.2, by rw [inV_toV h.1 h.2]; exact fin⟩)
    · cases hc
  | tup ds =>
    simp only [inv] at hc
    split at hc
    · rename_i h
      cases hc
      obtain ⟨p, xs, rfl, hp, r⟩ := k.tupAt rb
      have e1 := repT_scal (scal_flat h.1) ra
      have e2 := repL_toV h.2 r
      subst e1 e2
      exact .inr (.inl ⟨p, _, rfl, .inr (.inl (.inl hp)), flat_toV h.1, flats_toV h.2, by rw [inV_toV h.1 h.2]; exact fin⟩)
    · cases hc
  | dK ks vs =>
    simp only [inv, Option.map_eq_some_iff] at hc
    obtain ⟨o, h1, rfl⟩ := hc
    obtain ⟨p, r, rfl, g, w⟩ := getDk_ok k rb ra h1
    refine .inr (.inr ⟨p, r, rfl, g, ?_⟩)
    cases o with
    | none => rw [show r = none from w]; exact fin
    | some d => obtain ⟨v, e1, _⟩ := w; rw [e1]; exact fin
  | dT ks vs =>
    simp only [inv, Option.map_eq_some_iff] at hc
    obtain ⟨o, h1, rfl⟩ := hc
    obtain ⟨p, r, rfl, g, w⟩ := getDk_ok k rb ra h1
    refine .inr (.inr ⟨p, r, rfl, g, ?_⟩)
    cases o with
    | none => rw [show r = none from w]; exact fin
    | some d => obtain ⟨v, e1, _⟩ := w; rw [e1]; exact fin
  | _ => cases hc
/-! ### x[i] -/
def ixD : D → D → Option T
  | .lst ds, .int i => (atI ds i).map .sh
  | .tup ds, .int i => (atI ds i).map .sh
  | .str z, .int i => if z.length ≤ sizeLine then (atI z.cps.toList i).map fun c => .sh (.str ⟨#[c]⟩) else none
  | .scr ns, .int i => (atI ns i).map fun n => .sh (.int n)
  | c, key => match getDk c key with
    | some (some d) => some (.sh d)
    | _ => none
def rIxD : R2 := fun x y H Q => ∃ a v, x = .ref a ∧ DGet H a y (some v) ∧ Q v H
theorem ix_dict (hu : X.A.units + 1 < cLine) : IxR X rIxD := by
  intro value slice pins s σ H x y v u Q I rx ry ⟨a, w, e, g, q⟩ hs
  subst e
  obtain rfl : v = Value.ref a := rx
  have hT := dict_typeIs I g
  unfold subscriptTail
  refine wpAny_bind ?_
  rw [getitemInPython_of_ne hT.not_modules]
  refine wpAny_bind (wpAny_specialOf hT PySem.F.slot_dict_getitem.lookup ?_)
  have go : wpAny (model X.prog X.w) X.A (subscripted slice false (.ref a) u) (fun r s3 => wpAny (model X.prog X.w) X.A (letTemporaryGo value (.ref a) r >>= fun _ => pure r) (EP X pins σ Q) X.xe s3) X.xe s := by
    rw [hs]
    exact wpAny_operating (d_getItem hu I g ry fun w' s3 I3 rw' => wpAny_bind (wpAny_letTemporaryGo (wpAny_pure ⟨w, H, I3, rw', q⟩)))
  first
    | exact wpAny_pure (wpAny_bind go)
    | exact wpAny_bind (wpAny_pure (wpAny_bind go))
    | exact wpAny_bind go
def rIxA (K : PySem.W.Frag) : R2 := fun x y H Q => rIx K x y H Q ∨ rIxD x y H Q
theorem op_ixA (hu : X.A.units + 1 < cLine) : IxR X (rIxA X.K) := ix_seq.or (ix_dict hu)
theorem repL_at {K : PySem.W.Frag} {H : Hp} {ds : List D} {vs : List V} {i : Int} {d : D} (r : RepL K H vs ds) (h : atI ds i = some d) : ∃ v, atI vs i = some v ∧ Rep K H v d := by
  unfold atI at h ⊢
  rw [r.length]
  cases hj : ixN ds.length i with
  | none => rw [hj] at h; cases h
  | some j =>
    rw [hj] at h
    exact r.get h
theorem getDk_ix {fx : Fx} {Hs H : Hp} {σ : St} {e : DEnv} {B : List (V × D)} {x y : V} {a b : D} {t : T} {Q : VK} (k : Ok X.K fx Hs H σ e B) (ra : RepT X.K Hs H x a) (rb : RepT X.K Hs H y b)
    (hg : (match getDk a b with | some (some d) => some (T.sh d) | _ => none) = some t) (q : ∀ Hs' v H', Le Hs Hs' → Post X.K fx Hs' H' σ e B v t → Q v H') : rIxA X.K x y H Q := by
  split at hg
  · rename_i d h1
    cases hg
    obtain ⟨p, r, rfl, g, v, rfl, w⟩ := getDk_ok k ra rb h1
    exact .inr ⟨p, v, rfl, g, q Hs _ H Le.refl ⟨k, w⟩⟩
  · cases hg
theorem ok_ixA : OkR X (rIxA X.K) ixD := by
  intro fx Hs H σ e B x y a b t Q k ra rb hg q
  cases a with
  | lst ds =>
    cases b with
    | int i =>
      simp only [ixD, Option.map_eq_some_iff] at hg
      obtain ⟨d, h1, rfl⟩ := hg
      obtain ⟨p, xs, rfl, hp, r⟩ := ra
      cases (show Rep X.K Hs y (.int i) from rb)
      obtain ⟨v, h2, w⟩ := repL_at r h1
      exact .inl (.inl ⟨p, xs, i, v, rfl, rfl, .inl (.inl hp), h2, q Hs _ H Le.refl ⟨k, w⟩⟩)
    | _ => cases hg
  | tup ds =>
    cases b with
    | int i =>
      simp only [ixD, Option.map_eq_some_iff] at hg
      obtain ⟨d, h1, rfl⟩ := hg
      obtain ⟨p, xs, rfl, hp, r⟩ := k.tupAt ra
      cases (show Rep X.K Hs y (.int i) from rb)
      obtain ⟨v, h2, w⟩ := repL_at r h1
      exact .inl (.inr (.inl ⟨p, xs, i, v, rfl, rfl, .inl (.inl hp), h2, q Hs _ H Le.refl ⟨k, w⟩⟩))
    | _ => cases hg
  | str z =>
    cases b with
    | int i =>
      simp only [ixD] at hg
      split at hg
      · rename_i hz
        simp only [Option.map_eq_some_iff] at hg
        obtain ⟨c, h1, rfl⟩ := hg
        cases (show Rep X.K Hs x (.str z) from ra)
        cases (show Rep X.K Hs y (.int i) from rb)
        exact .inl (.inr (.inr ⟨z, i, c, rfl, rfl, hz, h1, q Hs _ H Le.refl ⟨k, .str _⟩⟩))
      · cases hg
    | _ => cases hg
  | scr ns =>
    cases b with
    | int i =>
      simp only [ixD, Option.map_eq_some_iff] at hg
      obtain ⟨n, h1, rfl⟩ := hg
      cases (show Rep X.K Hs x (.scr ns) from ra) with
      | scr hp =>
        rename_i p
        cases (show Rep X.K Hs y (.int i) from rb)
        refine .inl (.inl ⟨p, _, i, .int n, rfl, rfl, k.sub.sqL hp, ?_, q Hs _ H Le.refl ⟨k, .int _⟩⟩)
        unfold atI at h1 ⊢
        rw [List.length_map]
        cases hj : ixN ns.length i with
        | none => rw [hj] at h1; cases h1
        | some j =>
          rw [hj] at h1
          have h1 : ns[j]? = some n := h1
          show (ns.map V.int)[j]? = _
          rw [List.getElem?_map, h1]; rfl
    | _ => cases hg
  | dK ks vs => exact getDk_ix k ra rb hg q
  | dT ks vs => exact getDk_ix k ra rb hg q
  | _ => cases hg
/-! ### x[lo:hi] -/
abbrev FO := DEnv → Option (Option Int × DEnv)
def tDO (K : PySem.W.Frag) (fx : Fx) (F : FO) : TO := fun σ H Q => ∃ Hs e B t e', Ok K fx Hs H σ e B ∧ F e = some (t, e') ∧ ∀ Hs' H', Le Hs Hs' → Ok K fx Hs' H' σ e' B → Q t H'
def DO (X : Cx) (fx : Fx) (ex : Option Expr) (F : FO) : Prop := PO X ex (tDO X.K fx F)
theorem po_imp {X : Cx} {e : Option Expr} {t t' : TO} (h : PO X e t) (f : ∀ σ H Q, t' σ H Q → t σ H Q) : PO X e t' := by
  obtain ⟨h⟩ := h
  exact ⟨fun pins s σ H Q I w => h pins s σ H Q I (f σ H Q w)⟩
def fNoPart : FO := fun e => some (none, e)
def fPart (F : FE) : FO := fun e => do
  let (t, e1) ← F e
  let d ← rd t e1
  match d with
  | .int i => pure (some i, e1)
  | _ => none
theorem do_none : DO X fx none fNoPart := po_imp po_none fun σ H Q ⟨Hs, e, B, t, e', k, hf, q⟩ => by cases hf; exact q Hs H Le.refl k
theorem do_some {a : Expr} {Fa : FE} (h : DE X fx a Fa) : DO X fx (some a) (fPart Fa) := po_imp (po_some h) fun σ H Q ⟨Hs, e, B, t, e', k, hf, q⟩ => by
  unfold fPart at hf
  simp only [Option.bind_eq_bind, Option.bind_eq_some_iff] at hf
  obtain ⟨⟨ta, e1⟩, h1, d, h2, h3⟩ := hf
  refine ⟨Hs, e, B, ta, e1, k, h1, fun Hs1 v H1 l1 p1 => ?_⟩
  have r := p1.rd h2
  cases d with
  | int i =>
    cases (show Rep X.K Hs1 v (.int i) from r)
    cases h3
    exact ⟨i, rfl, q Hs1 H1 l1 p1.ok⟩
  | _ => cases h3
def cutD {α : Type} (xs : List α) (lo hi : Option Int) : List α := (xs.drop (HT.sIx xs.length 0 lo)).take (HT.sIx xs.length xs.length hi - HT.sIx xs.length 0 lo)
def slD (x : D) (lo hi : Option Int) : Option T := match x with
  | .lst ds => some (.ow (.lst (cutD ds lo hi)))
  | .tup ds => some (.sh (.tup (cutD ds lo hi)))
  | .str z => if z.length ≤ sizeLine then some (.sh (.str (cutS z lo hi))) else none
  | .scr ns => some (.ow (.lst ((cutD ns lo hi).map .int)))
  | _ => none
def fSl (F : FE) (L U : FO) : FE := fun e => do
  let (t, e1) ← F e
  let (lo, e2) ← L e1
  let (hi, e3) ← U e2
  let x ← rd t e3
  let r ← slD x lo hi
  pure (r, e3)
def rSlAny (K : PySem.W.Frag) : V → Option Int → Option Int → Hp → VK → Prop := fun x lo hi H Q => rSlL K x lo hi H Q ∨ rSlA K x lo hi H Q ∨ rSlS x lo hi H Q
theorem sl_any : SlR X (rSlAny X.K) := sl_list.or (sl_tupA.or sl_str)
theorem repL_cut {K : PySem.W.Frag} {H : Hp} {ds : List D} {vs : List V} (r : RepL K H vs ds) (lo hi : Option Int) : RepL K H (cutV vs lo hi) (cutD ds lo hi) := by
  unfold cutV cutD
  rw [r.length]
  exact (r.drop _).take _
theorem de_slice {a : Expr} {Fa : FE} {lo hi : Option Expr} {L U : FO} {p2 pos : Pos} (ha : DE X fx a Fa) (hl : DO X fx lo L) (hu : DO X fx hi U) : DE X fx (.Subscript a (.Slice lo hi none p2) pos) (fSl Fa L U) := by
  refine pe_imp (pe_slice sl_any ha hl hu) fun σ H Q ⟨Hs, e, B, t, e', k, hf, q⟩ => ?_
  unfold fSl at hf
  simp only [Option.bind_eq_bind, Option.bind_eq_some_iff] at hf
  obtain ⟨⟨ta, e1⟩, h1, ⟨lo, e2⟩, h2, ⟨hi, e3⟩, h3, x, h4, r, h5, h6⟩ := hf
  cases h6
  refine ⟨Hs, e, B, ta, e1, k, h1, fun Hs1 v H1 l1 p1 => ⟨Hs1, e1, push ta v B, lo, e2, p1.1, h2, fun Hs2 H2 l2 k2 => ⟨Hs2, e2, push ta v B, hi, e3, k2, h3, fun Hs3 H3 l3 k3 => ?_⟩⟩⟩
  have rx : RepT X.K Hs3 H3 v x := k3.rd (p1.2.mono (l2.trans l3)) (fun d z => push_mem z) h4
  have q' : ∀ Hs' w H', Le Hs3 Hs' → Post X.K fx Hs' H' σ e3 (push ta v B) w t → Q w H' := fun Hs' w H' l p => q Hs' w H' (l1.trans (l2.trans (l3.trans l))) (post_unpush p)
  show rSlAny X.K v lo hi H3 Q
  have h5 : slD x lo hi = some t := h5
  cases x with
  | lst ds =>
    cases h5
    obtain ⟨p, xs, rfl, hp, rr⟩ := rx
    exact .inl ⟨p, xs, rfl, .inl (.inl hp), fun p' hp' => q' Hs3 _ _ Le.refl (k3.lstP hp' (repL_cut rr lo hi))⟩
  | tup ds =>
    cases h5
    obtain ⟨p, xs, rfl, hp, rr⟩ := k3.tupAt rx
    refine .inr (.inl ⟨p, xs, rfl, .inl (.inl hp), fun ⟨w1, w2⟩ => ?_, fun _ p' hp' => ?_⟩)
    · refine q' Hs3 _ _ Le.refl ⟨k3, ?_⟩
      have e1 : cutD ds lo hi = ds := by
        unfold cutD
        rw [← rr.length, w1, w2]
        rw [List.drop_zero, Nat.sub_zero, rr.length, List.take_length]
      rw [e1]; exact rx
    · obtain ⟨p1, l⟩ := k3.tupP hp' (repL_cut rr lo hi)
      exact q' _ _ _ l p1
  | str z =>
    simp only [slD] at h5
    split at h5
    · rename_i hz
      cases h5
      cases (show Rep X.K Hs3 v (.str z) from rx)
      exact .inr (.inr ⟨z, rfl, hz, q' Hs3 _ _ Le.refl ⟨k3, .str _⟩⟩)
    · cases h5
  | scr ns =>
    cases h5
    cases (show Rep X.K Hs3 v (.scr ns) from rx) with
    | scr hp =>
      rename_i p
      refine .inl ⟨p, _, rfl, k3.sub.sqL hp, fun p' hp' => ?_⟩
      have e1 : cutV (ns.map V.int) lo hi = (cutD ns lo hi).map V.int := by
        unfold cutV cutD
        rw [List.length_map, List.map_take, List.map_drop]
      rw [e1]
      exact q' Hs3 _ _ Le.refl (k3.lstP hp' (repL_ints _))
  | _ => cases h5
/-! ### lists of expressions, shared at once -/
abbrev FL := DEnv → Option (List D × DEnv)
def tDA (K : PySem.W.Frag) (fx : Fx) (F : FL) : TA := fun σ H Q => ∃ Hs e B t e', Ok K fx Hs H σ e B ∧ F e = some (t, e') ∧ ∀ Hs' vs H', Le Hs Hs' → Ok K fx Hs' H' σ e' B → RepL K Hs' vs t → Q vs H'
def DA (X : Cx) (fx : Fx) (es : List Expr) (F : FL) : Prop := PA X es (tDA X.K fx F)
theorem pa_imp {X : Cx} {e : List Expr} {t t' : TA} (h : PA X e t) (f : ∀ σ H Q, t' σ H Q → t σ H Q) : PA X e t' := ⟨fun pos pins s σ H Q I w => h.run pos pins s σ H Q I (f σ H Q w)⟩
def fNil : FL := fun e => some ([], e)
def fCons (F : FE) (G : FL) : FL := fun e => do
  let (t, e1) ← F e
  let (d, e2) ← toSh t e1
  let (ds, e3) ← G e2
  pure (d :: ds, e3)
def itemsD : D → Option (List D)
  | .lst ds => some ds
  | .tup ds => some ds
  | _ => none
def fStar (F : FE) (G : FL) : FL := fun e => do
  let (t, e1) ← F e
  let d ← rd t e1
  let xs ← itemsD d
  let (ds, e3) ← G e1
  pure (xs ++ ds, e3)
theorem da_nil : DA X fx [] fNil := pa_imp pa_nil fun σ H Q ⟨Hs, e, B, t, e', k, hf, q⟩ => by cases hf; exact q Hs [] H Le.refl k .nil
theorem da_cons {a : Expr} {es : List Expr} {F : FE} {G : FL} (ha : DE X fx a F) (hr : DA X fx es G) (hs : starEach (a :: es) X.env = (false, eval a X.env) :: starEach es X.env := by rfl) : DA X fx (a :: es) (fCons F G) :=
  pa_imp (pa_cons ha hr hs) fun σ H Q ⟨Hs, e, B, t, e', k, hf, q⟩ => by
    unfold fCons at hf
    simp only [Option.bind_eq_bind, Option.bind_eq_some_iff] at hf
    obtain ⟨⟨ta, e1⟩, h1, ⟨d, e2⟩, h2, ⟨ds, e3⟩, h3, h4⟩ := hf
    cases h4
    refine ⟨Hs, e, B, ta, e1, k, h1, fun Hs1 v H1 l1 p1 => ?_⟩
    obtain ⟨Hs2, l2, k2, r2⟩ := p1.sh h2
    exact ⟨Hs2, e2, B, ds, e3, k2, h3, fun Hs3 vs H3 l3 k3 r3 => q Hs3 _ H3 (l1.trans (l2.trans l3)) k3 (.cons (r2.mono l3) r3)⟩
theorem da_star {a : Expr} {es : List Expr} {F : FE} {G : FL} {p : Pos} (ha : DE X fx a F) (hr : DA X fx es G) (hs : starEach (.Starred a p :: es) X.env = (true, eval a X.env) :: starEach es X.env := by rfl) : DA X fx (.Starred a p :: es) (fStar F G) :=
  pa_imp (StX.pa_star ha hr hs) fun σ H Q ⟨Hs, e, B, t, e', k, hf, q⟩ => by
    unfold fStar at hf
    simp only [Option.bind_eq_bind, Option.bind_eq_some_iff] at hf
    obtain ⟨⟨ta, e1⟩, h1, d, h2, xs, h3, ⟨ds, e3⟩, h4, h5⟩ := hf
    cases h5
    refine ⟨Hs, e, B, ta, e1, k, h1, fun Hs1 v H1 l1 p1 => ?_⟩
    have rx := p1.rd h2
    have fin : ∀ us, RepL X.K Hs1 us xs → ∀ Q', Q' = Q → tDA X.K fx G σ H1 fun ys H2 => Q (us ++ ys) H2 := fun us r _ _ =>
      ⟨Hs1, e1, B, ds, e3, p1.ok, h4, fun Hs3 vs H3 l3 k3 r3 => q Hs3 _ H3 (l1.trans l3) k3 ((r.mono l3).append r3)⟩
    cases d with
    | lst ys =>
      cases h3
      obtain ⟨p, us, rfl, hp, r⟩ := rx
      exact ⟨p, us, rfl, .inr (.inl (.inl hp)), fin us r Q rfl⟩
    | tup ys =>
      cases h3
      obtain ⟨p, us, rfl, hp, r⟩ := p1.ok.tupAt rx
      exact ⟨p, us, rfl, .inl (.inl (.inl hp)), fin us r Q rfl⟩
    | _ => cases h3
def fTup (F : FL) : FE := fun e => do
  let (ds, e1) ← F e
  if ds.length ≤ sizeLine then pure (.sh (.tup ds), e1) else none
def fLst (F : FL) : FE := fun e => do
  let (ds, e1) ← F e
  if ds.length ≤ sizeLine then pure (.ow (.lst ds), e1) else none
theorem de_tup {es : List Expr} {F : FL} {n : Nat} {pos : Pos} (h : DA X fx es F) : DE X fx (.Tuple es n pos) (fTup F) := pe_imp (pe_tup h) fun σ H Q ⟨Hs, e, B, t, e', k, hf, q⟩ => by
  unfold fTup at hf
  simp only [Option.bind_eq_bind, Option.bind_eq_some_iff] at hf
  obtain ⟨⟨ds, e1⟩, h1, h2⟩ := hf
  dsimp only at h2
  split at h2
  · rename_i hz
    cases h2
    refine ⟨Hs, e, B, ds, _, k, h1, fun Hs1 vs H1 l1 k1 r1 => ⟨by rw [r1.length]; exact hz, fun p hp => ?_⟩⟩
    obtain ⟨p2, l2⟩ := k1.tupP hp r1
    exact q _ _ _ (l1.trans l2) p2
  · cases h2
theorem de_lst {es : List Expr} {F : FL} {n : Nat} {pos : Pos} (h : DA X fx es F) : DE X fx (.List es pos) (fLst F) := pe_imp (pe_lst h) fun σ H Q ⟨Hs, e, B, t, e', k, hf, q⟩ => by
  unfold fLst at hf
  simp only [Option.bind_eq_bind, Option.bind_eq_some_iff] at hf
  obtain ⟨⟨ds, e1⟩, h1, h2⟩ := hf
  dsimp only at h2
  split at h2
  · rename_i hz
    cases h2
    exact ⟨Hs, e, B, ds, _, k, h1, fun Hs1 vs H1 l1 k1 r1 => ⟨by rw [r1.length]; exact hz, fun p hp => q _ _ _ l1 (k1.lstP hp r1)⟩⟩
  · cases h2
end
end DD

namespace DD
open PySem PySem.Spec PyProof.Rows L2
/-! ### what a def is: from the arguments (lent, data) to its answer (own, data) and what the lent ones are then -/
abbrev GF := List (Bool × D) → Option ((Bool × D) × List (Bool × D))
def ArgsOk (K : PySem.W.Frag) (Hs H : Hp) (L : List Addr) (vs : List V) (as : List (Bool × D)) : Prop :=
  vs.length = as.length ∧ (∀ (j : Nat) (v : V) (a : Bool × D), vs[j]? = some v → as[j]? = some a → (a.1 = true → ∃ p, v = .ref p ∧ Cell K Hs H p a.2 ∧ Hs p = none ∧ p ∈ L) ∧ (a.1 = false → Rep K Hs v a.2)) ∧
  ∀ (i j : Nat) (a b : Bool × D) (v : V), i ≠ j → as[i]? = some a → as[j]? = some b → a.1 = true → b.1 = true → vs[i]? = some v → vs[j]? ≠ some v
def OutsOk (K : PySem.W.Frag) (Hs H : Hp) (vs : List V) (as os : List (Bool × D)) : Prop :=
  ∀ (j : Nat) (v : V) (a o : Bool × D), vs[j]? = some v → as[j]? = some a → a.1 = true → os[j]? = some o → (o.1 = true → ∃ p, v = .ref p ∧ Cell K Hs H p o.2 ∧ Hs p = none) ∧ (o.1 = false → Rep K Hs v o.2)
def ResOk (K : PySem.W.Frag) (Hs H0 H : Hp) (v : V) (r : Bool × D) : Prop :=
  (r.1 = true → ∃ p, v = .ref p ∧ Cell K Hs H p r.2 ∧ Hs p = none ∧ H0 p = none) ∧ (r.1 = false → Rep K Hs v r.2)
structure Back (K : PySem.W.Frag) (Hs H : Hp) (L : List Addr) (vs : List V) (as : List (Bool × D)) (r : Bool × D) (os : List (Bool × D)) (Hs' : Hp) (v : V) (H' : Hp) : Prop where
  le : Le Hs Hs'
  sub : Le Hs' H'
  ext : ∀ b o, Hs' b = some o → Hs b = some o ∨ H b = none ∨ b ∈ L ∨ ∃ us, o = .tup us
  frame : ∀ b o, H b = some o → b ∉ L → H' b = some o
  lt : ∀ b ∈ L, ∃ o, H' b = some o
  outs : OutsOk K Hs' H' vs as os
  res : ResOk K Hs' H H' v r
def spD (K : PySem.W.Frag) (G : GF) : Sp := fun vs H Q _ => ∃ (Hs : Hp) (L : List Addr) (as : List (Bool × D)) (r : Bool × D) (os : List (Bool × D)), Le Hs H ∧ (∀ b ∈ L, ∃ o, H b = some o) ∧ ArgsOk K Hs H L vs as ∧ G as = some (r, os) ∧
  ∀ Hs' v H', Back K Hs H L vs as r os Hs' v H' → Q v H'
inductive Ar where
  | sh (d : D) | loc (i : Nat)
abbrev FAr := DEnv → Option (List Ar × DEnv)
def toAr (t : T) (e : DEnv) : Option (Ar × DEnv) := match t with
  | .loc i => some (.loc i, e)
  | t => match toSh t e with
    | some (d, e') => some (.sh d, e')
    | none => none
def ArOk (K : PySem.W.Frag) (Hs : Hp) (σ : St) (v : V) : Ar → Prop
  | .sh d => Rep K Hs v d
  | .loc i => σ[i]? = some (some v)
inductive ArsOk (K : PySem.W.Frag) (Hs : Hp) (σ : St) : List V → List Ar → Prop
  | nil : ArsOk K Hs σ [] []
  | cons {v : V} {vs : List V} {a : Ar} {as : List Ar} : ArOk K Hs σ v a → ArsOk K Hs σ vs as → ArsOk K Hs σ (v :: vs) (a :: as)
theorem ArOk.mono {K : PySem.W.Frag} {Hs Hs' : Hp} {σ : St} {v : V} (l : Le Hs Hs') : ∀ {a : Ar}, ArOk K Hs σ v a → ArOk K Hs' σ v a
  | .sh _, h => Rep.mono l h
  | .loc _, h => h
theorem ArsOk.mono {K : PySem.W.Frag} {Hs Hs' : Hp} {σ : St} (l : Le Hs Hs') : ∀ {vs : List V} {as : List Ar}, ArsOk K Hs σ vs as → ArsOk K Hs' σ vs as
  | _, _, .nil => .nil
  | _, _, .cons h t => .cons (h.mono l) (t.mono l)
theorem ArsOk.len {K : PySem.W.Frag} {Hs : Hp} {σ : St} : ∀ {vs : List V} {as : List Ar}, ArsOk K Hs σ vs as → vs.length = as.length
  | _, _, .nil => rfl
  | _, _, .cons _ t => by simp [t.len]
theorem ArsOk.get {K : PySem.W.Frag} {Hs : Hp} {σ : St} : ∀ {vs : List V} {as : List Ar} {j : Nat} {v : V} {a : Ar}, ArsOk K Hs σ vs as → vs[j]? = some v → as[j]? = some a → ArOk K Hs σ v a
  | _, _, _, _, _, .nil, h, _ => by simp at h
  | _, _, 0, _, _, .cons h t, e1, e2 => by simp at e1 e2; subst e1 e2; exact h
  | _, _, j + 1, _, _, .cons h t, e1, e2 => t.get (j := j) (by simpa using e1) (by simpa using e2)
def aNil : FAr := fun e => some ([], e)
def aCons (F : FE) (G : FAr) : FAr := fun e => do
  let (t, e1) ← F e
  let (a, e2) ← toAr t e1
  let (as, e3) ← G e2
  pure (a :: as, e3)
def argD (e : DEnv) : Ar → Option (Bool × D)
  | .sh d => some (false, d)
  | .loc i => match e[i]? with
    | some (some s) => some (s.own, s.d)
    | _ => none
def argDs (e : DEnv) : List Ar → Option (List (Bool × D))
  | [] => some []
  | a :: as => match argD e a, argDs e as with
    | some x, some xs => some (x :: xs)
    | _, _ => none
def locs : List Ar → List Nat
  | [] => []
  | .loc i :: as => i :: locs as
  | .sh _ :: as => locs as
def back : List Ar → List (Bool × D) → DEnv → DEnv
  | .loc i :: as, o :: os, e => back as os (match e[i]? with
    | some (some s) => if s.own = true then e.set i (some { s with own := o.1, d := o.2 }) else e
    | _ => e)
  | .sh _ :: as, _ :: os, e => back as os e
  | _, _, e => e
def resT : Bool × D → T
  | (true, d) => .ow d
  | (false, d) => .sh d
def fCall (G : GF) (F : FAr) : FE := fun e => do
  let (as, e1) ← F e
  let xs ← argDs e1 as
  if (locs as).Nodup then do
    let (r, os) ← G xs
    pure (resT r, back as os e1)
  else none
theorem argDs_get {e : DEnv} : ∀ {as : List Ar} {xs : List (Bool × D)}, argDs e as = some xs → as.length = xs.length ∧ ∀ (j : Nat) (a : Ar), as[j]? = some a → ∃ x, xs[j]? = some x ∧ argD e a = some x
  | [], _, h => by cases h; exact ⟨rfl, fun j a z => by simp at z⟩
  | a :: as, xs, h => by
    simp only [argDs] at h
    split at h
    · rename_i x xs' h1 h2
      cases h
      obtain ⟨l, g⟩ := argDs_get h2
      refine ⟨by simp [l], fun j b z => ?_⟩
      cases j with
      | zero => simp at z; subst z; exact ⟨x, rfl, h1⟩
      | succ j =>
        obtain ⟨y, y1, y2⟩ := g j b (by simpa using z)
        exact ⟨y, by simpa using y1, y2⟩
    · cases h
theorem mem_locs {i : Nat} : ∀ {as : List Ar} {j : Nat}, as[j]? = some (.loc i) → i ∈ locs as
  | [], _, h => by simp at h
  | .loc k :: as, 0, h => by simp at h; subst h; exact List.mem_cons_self
  | .sh d :: as, 0, h => by simp at h
  | .loc k :: as, j + 1, h => List.mem_cons_of_mem _ (mem_locs (as := as) (j := j) (by simpa using h))
  | .sh d :: as, j + 1, h => mem_locs (as := as) (j := j) (by simpa using h)
theorem locs_inj {i : Nat} : ∀ {as : List Ar} {j k : Nat}, (locs as).Nodup → as[j]? = some (.loc i) → as[k]? = some (.loc i) → j = k
  | [], _, _, _, h, _ => by simp at h
  | .sh d :: as, 0, _, _, h, _ => by simp at h
  | .sh d :: as, _ + 1, 0, _, _, h => by simp at h
  | .sh d :: as, j + 1, k + 1, n, h1, h2 => by rw [locs_inj (as := as) (j := j) (k := k) n (by simpa using h1) (by simpa using h2)]
  | .loc a :: as, 0, 0, _, _, _ => rfl
  | .loc a :: as, 0, k + 1, n, h1, h2 => by
    simp at h1; subst h1
    exact absurd (mem_locs (as := as) (j := k) (by simpa using h2)) (List.nodup_cons.mp n).1
  | .loc a :: as, j + 1, 0, n, h1, h2 => by
    simp at h2; subst h2
    exact absurd (mem_locs (as := as) (j := j) (by simpa using h1)) (List.nodup_cons.mp n).1
  | .loc a :: as, j + 1, k + 1, n, h1, h2 => by rw [locs_inj (as := as) (j := j) (k := k) (List.nodup_cons.mp n).2 (by simpa using h1) (by simpa using h2)]
/-- what stands in the slots behind a call -/
theorem back_get : ∀ {as : List Ar} {os : List (Bool × D)} {e : DEnv} {i : Nat} {s' : Slot}, (locs as).Nodup → as.length = os.length → (back as os e)[i]? = some (some s') →
    ∃ s, e[i]? = some (some s) ∧ ((s' = s ∧ (i ∉ locs as ∨ s.own = false)) ∨ ∃ (j : Nat) (o : Bool × D), as[j]? = some (.loc i) ∧ os[j]? = some o ∧ s.own = true ∧ s' = { s with own := o.1, d := o.2 })
  | [], os, e, i, s', _, _, h => ⟨s', h, .inl ⟨rfl, .inl (by simp [locs])⟩⟩
  | .sh d :: as, o :: os, e, i, s', n, l, h => by
    obtain ⟨s, h1, h2⟩ := back_get (as := as) (os := os) (e := e) n (by simpa using l) h
    refine ⟨s, h1, ?_⟩
    rcases h2 with ⟨e1, e2⟩ | ⟨j, o', a1, a2, a3, a4⟩
    · exact .inl ⟨e1, e2⟩
    · exact .inr ⟨j + 1, o', by simpa using a1, by simpa using a2, a3, a4⟩
  | .sh d :: as, [], e, i, s', n, l, h => by simp at l
  | .loc a :: as, [], e, i, s', n, l, h => by simp at l
  | .loc a :: as, o :: os, e, i, s', n, l, h => by
    have n' := List.nodup_cons.mp n
    have step : ∀ e', back (.loc a :: as) (o :: os) e = back as os e' → (∀ (s : Slot), e'[i]? = some (some s) → ∃ s0, e[i]? = some (some s0) ∧ ((s = s0 ∧ (i ≠ a ∨ s0.own = false)) ∨ (i = a ∧ s0.own = true ∧ s = { s0 with own := o.1, d := o.2 }))) →
        ∃ s, e[i]? = some (some s) ∧ ((s' = s ∧ (i ∉ locs (.loc a :: as) ∨ s.own = false)) ∨ ∃ (j : Nat) (o' : Bool × D), (Ar.loc a :: as)[j]? = some (.loc i) ∧ (o :: os)[j]? = some o' ∧ s.own = true ∧ s' = { s with own := o'.1, d := o'.2 }) := fun e' he hs => by
      rw [he] at h
      obtain ⟨s, h1, h2⟩ := back_get (as := as) (os := os) (e := e') n'.2 (by simpa using l) h
      obtain ⟨s0, g1, g2⟩ := hs s h1
      refine ⟨s0, g1, ?_⟩
      rcases h2 with ⟨e1, e2⟩ | ⟨j, o', a1, a2, a3, a4⟩
      · subst e1
        rcases g2 with ⟨f1, f2⟩ | ⟨f1, f2, f3⟩
        · subst f1
          refine .inl ⟨rfl, ?_⟩
          rcases e2 with e2 | e2
          · rcases f2 with f2 | f2
            · exact .inl fun z => by
                rcases List.mem_cons.mp z with z | z
                · exact f2 z
                · exact e2 z
            · exact .inr f2
          · exact .inr e2
        · exact .inr ⟨0, o, by rw [f1]; rfl, rfl, f2, f3⟩
      · have ia : i ≠ a := fun z => n'.1 (z ▸ mem_locs a1)
        rcases g2 with ⟨f1, f2⟩ | ⟨f1, _, _⟩
        · subst f1
          exact .inr ⟨j + 1, o', by simpa using a1, by simpa using a2, a3, a4⟩
        · exact absurd f1 ia
    cases q : e[a]? with
    | none =>
      refine step e (by simp [back, q]) fun s z => ⟨s, z, .inl ⟨rfl, .inl fun w => ?_⟩⟩
      rw [w, q] at z; cases z
    | some x =>
      cases x with
      | none =>
        refine step e (by simp [back, q]) fun s z => ⟨s, z, .inl ⟨rfl, .inl fun w => ?_⟩⟩
        rw [w, q] at z; cases z
      | some sl =>
        cases w : sl.own with
        | false =>
          refine step e (by simp [back, q, w]) fun s z => ⟨s, z, .inl ⟨rfl, ?_⟩⟩
          by_cases ia : i = a
          · rw [ia, q] at z; cases z; exact .inr w
          · exact .inl ia
        | true =>
          refine step (e.set a (some { sl with own := o.1, d := o.2 })) (by simp [back, q, w]) fun s z => ?_
          rcases get_set z with ⟨rfl, z, _⟩ | ⟨ne, z⟩
          · exact ⟨sl, q, .inr ⟨rfl, w, (Option.some.inj z).symm⟩⟩
          · exact ⟨s, z, .inl ⟨rfl, .inl ne⟩⟩
theorem back_len : ∀ {as : List Ar} {os : List (Bool × D)} {e : DEnv}, (back as os e).length = e.length
  | [], _, _ => rfl
  | .sh _ :: as, [], e => rfl
  | .loc _ :: as, [], e => rfl
  | .sh _ :: as, _ :: os, e => back_len (as := as) (os := os) (e := e)
  | .loc i :: as, o :: os, e => by
    rw [back, back_len]
    split
    · split
      · simp
      · rfl
    · rfl
def lentA (σ : St) (e : DEnv) : List Ar → List Addr
  | [] => []
  | .sh _ :: as => lentA σ e as
  | .loc i :: as => match e[i]?, σ[i]? with
    | some (some s), some (some (.ref b)) => if s.own = true then b :: lentA σ e as else lentA σ e as
    | _, _ => lentA σ e as
theorem mem_lentA {σ : St} {e : DEnv} {b : Addr} : ∀ {as : List Ar}, b ∈ lentA σ e as ↔ ∃ (j i : Nat) (s : Slot), as[j]? = some (.loc i) ∧ e[i]? = some (some s) ∧ s.own = true ∧ σ[i]? = some (some (.ref b))
  | [] => by simp [lentA]
  | .sh d :: as => by
    rw [lentA, mem_lentA (as := as)]
    constructor
    · rintro ⟨j, i, s, h⟩
      exact ⟨j + 1, i, s, by simpa using h⟩
    · rintro ⟨j, i, s, h1, h⟩
      cases j with
      | zero => simp at h1
      | succ j => exact ⟨j, i, s, by simpa using h1, h⟩
  | .loc a :: as => by
    have ih := mem_lentA (σ := σ) (e := e) (b := b) (as := as)
    have tail : b ∈ lentA σ e as → ∃ (j i : Nat) (s : Slot), (Ar.loc a :: as)[j]? = some (.loc i) ∧ e[i]? = some (some s) ∧ s.own = true ∧ σ[i]? = some (some (.ref b)) := fun h => by
      obtain ⟨j, i, s, h1, h⟩ := ih.mp h
      exact ⟨j + 1, i, s, by simpa using h1, h⟩
    have untail : (∃ (j i : Nat) (s : Slot), (Ar.loc a :: as)[j]? = some (.loc i) ∧ e[i]? = some (some s) ∧ s.own = true ∧ σ[i]? = some (some (.ref b))) → b ∈ lentA σ e as ∨ ∃ s, e[a]? = some (some s) ∧ s.own = true ∧ σ[a]? = some (some (.ref b)) := by
      rintro ⟨j, i, s, h1, h2, h3, h4⟩
      cases j with
      | zero =>
        simp at h1
        subst h1
        exact .inr ⟨s, h2, h3, h4⟩
      | succ j => exact .inl (ih.mpr ⟨j, i, s, by simpa using h1, h2, h3, h4⟩)
    rw [lentA]
    split
    · rename_i s b' h1 h2
      split
      · rename_i h3
        constructor
        · intro h
          rcases List.mem_cons.mp h with rfl | h
          · exact ⟨0, a, s, rfl, h1, h3, h2⟩
          · exact tail h
        · intro h
          rcases untail h with h | ⟨s', g1, g2, g3⟩
          · exact List.mem_cons_of_mem _ h
          · rw [h2] at g3
            cases g3
            exact List.mem_cons_self
      · rename_i h3
        refine ⟨tail, fun h => ?_⟩
        rcases untail h with h | ⟨s', g1, g2, g3⟩
        · exact h
        · rw [h1] at g1
          cases g1
          exact absurd g2 h3
    · rename_i h1
      refine ⟨tail, fun h => ?_⟩
      rcases untail h with h | ⟨s', g1, g2, g3⟩
      · exact h
      · exact absurd g3 (h1 s' b g1)
section
variable {K : PySem.W.Frag} {fx : Fx} {Hs H : Hp} {σ : St} {e : DEnv} {B : List (V × D)}
theorem Cell.notTup {K : PySem.W.Frag} {Hs H : Hp} {p : Addr} {us : List V} : ∀ {d : D}, Cell K Hs H p d → H p = some (.tup us) → False
  | .lst _, ⟨_, h, _⟩, z => by rw [h] at z; cases z
  | .dK _ _, ⟨_, h, _⟩, z => by rw [h] at z; cases z
  | .dT _ _, ⟨_, h, _⟩, z => by rw [h] at z; cases z
theorem call_args {as : List Ar} {xs : List (Bool × D)} {vs : List V} (k : Ok K fx Hs H σ e B) (ha : ArsOk K Hs σ vs as) (hx : argDs e as = some xs) (nd : (locs as).Nodup) :
    ∃ L : List Addr, (∀ b ∈ L, ∃ o, H b = some o) ∧ ArgsOk K Hs H L vs xs ∧ (∀ b ∈ L, ∃ (j i : Nat) (s : Slot), as[j]? = some (.loc i) ∧ e[i]? = some (some s) ∧ s.own = true ∧ σ[i]? = some (some (.ref b))) := by
  obtain ⟨hl, hg⟩ := argDs_get hx
  have mem : ∀ b, b ∈ lentA σ e as ↔ ∃ (j i : Nat) (s : Slot), as[j]? = some (.loc i) ∧ e[i]? = some (some s) ∧ s.own = true ∧ σ[i]? = some (some (.ref b)) := fun b => mem_lentA
  refine ⟨lentA σ e as, fun b hb => ?_, ⟨ha.len.trans hl, fun j v a h1 h2 => ?_, fun i j a b v ne h1 h2 h3 h4 h5 h6 => ?_⟩, fun b hb => (mem b).mp hb⟩
  · obtain ⟨j, i, s, h1, h2, h3, h4⟩ := (mem b).mp hb
    obtain ⟨v, g1, g2, _⟩ := k.slot i s h2
    rw [h4] at g1; cases g1
    obtain ⟨p, e1, c, _⟩ := g2 h3
    cases e1
    exact c.there
  · have hj : j < as.length := by rw [← ha.len]; exact (List.getElem?_eq_some_iff.mp h1).1
    obtain ⟨x, x1, x2⟩ := hg j _ (List.getElem?_eq_getElem hj)
    rw [h2] at x1; cases x1
    have ok := ha.get h1 (List.getElem?_eq_getElem hj)
    cases q : as[j] with
    | sh d =>
      rw [q] at x2 ok
      cases x2
      exact ⟨fun z => (by cases z), fun _ => ok⟩
    | loc i =>
      rw [q] at x2 ok
      have ok : σ[i]? = some (some v) := ok
      unfold argD at x2
      dsimp only at x2
      split at x2
      · rename_i s hs
        cases x2
        obtain ⟨u, g1, g2, g3⟩ := k.slot i s hs
        rw [ok] at g1; cases g1
        refine ⟨fun z => ?_, g3⟩
        obtain ⟨p, e1, c, n, _⟩ := g2 z
        subst e1
        exact ⟨p, rfl, c, n, (mem p).mpr ⟨j, i, s, by rw [List.getElem?_eq_getElem hj, q], hs, z, ok⟩⟩
      · cases x2
  · have look : ∀ {j : Nat} {b : Bool × D}, xs[j]? = some b → b.1 = true → vs[j]? = some v → ∃ (i : Nat) (s : Slot), as[j]? = some (.loc i) ∧ e[i]? = some (some s) ∧ s.own = true ∧ σ[i]? = some (some v) := fun {j b} y1 y2 y3 => by
      have hj : j < as.length := by rw [← ha.len]; exact (List.getElem?_eq_some_iff.mp y3).1
      obtain ⟨x, x1, x2⟩ := hg j _ (List.getElem?_eq_getElem hj)
      rw [y1] at x1; cases x1
      have ok := ha.get y3 (List.getElem?_eq_getElem hj)
      cases q : as[j] with
      | sh d => rw [q] at x2; cases x2; cases y2
      | loc i =>
        rw [q] at x2 ok
        unfold argD at x2
        dsimp only at x2
        split at x2
        · rename_i s hs
          cases x2
          exact ⟨i, s, by rw [List.getElem?_eq_getElem hj, q], hs, y2, ok⟩
        · cases x2
    obtain ⟨i1, s1, a1, a2, a3, a4⟩ := look h1 h3 h5
    obtain ⟨i2, s2, b1, b2, b3, b4⟩ := look h2 h4 h6
    by_cases z : i1 = i2
    · subst z
      exact ne (locs_inj nd a1 b1)
    · exact k.ss i1 i2 s1 s2 v z a2 b2 a3 b3 a4 b4
/-- what stands behind a call -/
theorem call_back {as : List Ar} {xs : List (Bool × D)} {vs : List V} {L : List Addr} {r : Bool × D} {os : List (Bool × D)} {Hs' H' : Hp} {v : V} (k : Ok K fx Hs H σ e B) (ha : ArsOk K Hs σ vs as) (hx : argDs e as = some xs) (nd : (locs as).Nodup)
    (hL : ∀ b ∈ L, ∃ (j i : Nat) (s : Slot), as[j]? = some (.loc i) ∧ e[i]? = some (some s) ∧ s.own = true ∧ σ[i]? = some (some (.ref b))) (hos : as.length = os.length) (bk : Back K Hs H L vs xs r os Hs' v H') :
    Post K fx Hs' H' σ (back as os e) B v (resT r) := by
  obtain ⟨hl, hg⟩ := argDs_get hx
  -- what L is to us
  have Lfx : ∀ b ∈ L, b ∈ fx.L ∨ fx.H0 b = none := fun b hb => by
    obtain ⟨j, i, s, h1, h2, h3, h4⟩ := hL b hb
    obtain ⟨u, g1, g2, _⟩ := k.slot i s h2
    rw [h4] at g1; cases g1
    obtain ⟨p, e1, _, _, g⟩ := g2 h3
    cases e1
    cases w : s.lent with
    | true => rw [w, if_pos rfl] at g; exact .inl g
    | false => rw [w, if_neg (by decide)] at g; exact .inr g
  -- an own place that is not lent
  have stay : ∀ {u : V} {l : Bool} {d : D}, OwnAt K fx Hs H u l d → (∀ b ∈ L, u ≠ .ref b) → OwnAt K fx Hs' H' u l d := fun {u l d} ⟨p, e1, c, n, g⟩ hn => by
    subst e1
    obtain ⟨o, ho⟩ := c.there
    have pL : p ∉ L := fun z => hn p z rfl
    refine ⟨p, rfl, c.at_ bk.le ((bk.frame p o ho pL).trans ho.symm), ?_, g⟩
    cases q : Hs' p with
    | none => rfl
    | some o' =>
      rcases bk.ext p o' q with z | z | z | ⟨us, z⟩
      · rw [n] at z; cases z
      · rw [ho] at z; cases z
      · exact absurd z pL
      · subst z
        have w := (bk.frame p o ho pL).symm.trans (bk.sub p _ q)
        cases w
        exact (c.notTup ho).elim
  have mem_as : ∀ {i : Nat} {s : Slot} {u : V} {b : Addr}, e[i]? = some (some s) → s.own = true → σ[i]? = some (some u) → b ∈ L → u = .ref b → i ∈ locs as := fun {i s u b} z1 z2 z3 z4 z5 => by
    obtain ⟨j, i2, s2, h1, h2, h3, h4⟩ := hL b z4
    by_cases q : i2 = i
    · subst q; exact mem_locs h1
    · exact absurd (z5 ▸ z3) (k.ss i2 i s2 s _ q h2 z1 h3 z2 h4)
  have own' : ∀ {i : Nat} {s' : Slot}, (back as os e)[i]? = some (some s') → s'.own = true → ∃ s, e[i]? = some (some s) ∧ s.own = true := fun {i s'} z1 z2 => by
    obtain ⟨s, h1, h2⟩ := back_get nd hos z1
    rcases h2 with ⟨rfl, _⟩ | ⟨j, o, _, _, h3, _⟩
    · exact ⟨s', h1, z2⟩
    · exact ⟨s, h1, h3⟩
  have tmp : ∀ x ∈ B, OwnAt K fx Hs' H' x.1 false x.2 := fun x hx' => stay (k.temp x hx') fun b hb z => by
    obtain ⟨j, i, s, h1, h2, h3, h4⟩ := hL b hb
    exact k.st i s x h2 h3 hx' (by rw [h4, z])
  have base : Ok K fx Hs' H' σ (back as os e) B := by
    refine ⟨back_len.trans k.len, bk.sub, k.grow.trans bk.le, fun b o z => ?_, fun b o z1 z2 => ?_, fun b hb => ?_, fun i s' z => ?_, tmp, fun i j s t u ne z1 z2 y1 y2 => ?_, fun i s x z1 z2 => ?_, k.tt, fun i s' z1 z2 => ?_⟩
    · rcases bk.ext b o z with z | z | z | z
      · exact k.ext b o z
      · exact .inr (.inl (k.new z))
      · rcases Lfx b z with z | z
        · exact .inr (.inr (.inl z))
        · exact .inr (.inl z)
      · exact .inr (.inr (.inr z))
    · refine bk.frame b o (k.frame b o z1 z2) fun z => ?_
      rcases Lfx b z with z | z
      · exact z2 z
      · rw [z1] at z; cases z
    · by_cases z : b ∈ L
      · exact bk.lt b z
      · obtain ⟨o, ho⟩ := k.lt b hb
        exact ⟨o, bk.frame b o ho z⟩
    · obtain ⟨s, h1, h2⟩ := back_get nd hos z
      obtain ⟨u, g1, g2, g3⟩ := k.slot i s h1
      refine ⟨u, g1, ?_⟩
      rcases h2 with ⟨rfl, h2⟩ | ⟨j, o, a1, a2, a3, rfl⟩
      · refine ⟨fun y => stay (g2 y) fun b hb w => ?_, fun y => (g3 y).mono bk.le⟩
        rcases h2 with h2 | h2
        · exact h2 (mem_as h1 y g1 hb w)
        · rw [h2] at y; cases y
      · have hj : j < vs.length := by rw [ha.len]; exact (List.getElem?_eq_some_iff.mp a1).1
        obtain ⟨x, x1, x2⟩ := hg j _ a1
        have ok := ha.get (List.getElem?_eq_getElem hj) a1
        have ok : σ[i]? = some (some vs[j]) := ok
        have e1 : u = vs[j] := by rw [g1] at ok; cases ok; rfl
        have x2 : (match e[i]? with | some (some s) => some (s.own, s.d) | _ => none) = some x := x2
        rw [h1] at x2
        cases x2
        obtain ⟨b1, b2⟩ := bk.outs j vs[j] _ o (List.getElem?_eq_getElem hj) x1 a3 a2
        obtain ⟨p, e2, c, n, g⟩ := g2 a3
        refine ⟨fun y => ?_, fun y => by rw [e1]; exact b2 y⟩
        obtain ⟨p', e3, c', n'⟩ := b1 y
        rw [e1] at e2
        rw [e3] at e2
        cases e2
        exact ⟨_, e1.trans e3, c', n', g⟩
    · obtain ⟨s1, a1, a2⟩ := own' z1 y1
      obtain ⟨s2, b1, b2⟩ := own' z2 y2
      exact k.ss i j s1 s2 u ne a1 b1 a2 b2
    · obtain ⟨s1, a1, a2⟩ := own' z1 z2
      exact k.st i s1 x a1 a2
    · obtain ⟨s, h1, h2⟩ := back_get nd hos z1
      rcases h2 with ⟨rfl, _⟩ | ⟨j, o, _, _, _, rfl⟩
      · exact k.ls i s' h1 z2
      · exact k.ls i s h1 z2
  obtain ⟨rb, rd⟩ := r
  cases rb with
  | false => exact ⟨base, bk.res.2 rfl⟩
  | true =>
    obtain ⟨p, e1, c, n, h0⟩ := bk.res.1 rfl
    subst e1
    have ne : ∀ {u : V} {l : Bool} {d : D}, OwnAt K fx Hs H u l d → u ≠ .ref p := fun w => w.ne h0
    refine ⟨⟨base.len, base.sub, base.grow, base.ext, base.frame, base.lt, base.slot, fun x hx' => ?_, base.ss, fun i s x z1 z2 z3 => ?_, List.pairwise_cons.mpr ⟨fun x hx' => ?_, base.tt⟩, base.ls⟩, trivial⟩
    · rcases List.mem_cons.mp hx' with rfl | hx'
      · exact ⟨p, rfl, c, n, by simpa using k.new h0⟩
      · exact tmp x hx'
    · rcases List.mem_cons.mp z3 with rfl | z3
      · obtain ⟨s1, a1, a2⟩ := own' z1 z2
        obtain ⟨u, g1, g2, _⟩ := k.slot i s1 a1
        intro z
        rw [g1] at z
        exact ne (g2 a2) (Option.some.inj (Option.some.inj z))
      · exact base.st i s x z1 z2 z3
    · exact fun z => ne (k.temp x hx') z.symm
end
end DD

namespace DD
open PySem PySem.Spec PyProof.Rows L2
def tDAr (K : PySem.W.Frag) (fx : Fx) (F : FAr) : TA := fun σ H Q => ∃ Hs e B t e', Ok K fx Hs H σ e B ∧ F e = some (t, e') ∧ ∀ Hs' vs H', Le Hs Hs' → Ok K fx Hs' H' σ e' B → ArsOk K Hs' σ vs t → Q vs H'
def DAr (X : Cx) (fx : Fx) (es : List Expr) (F : FAr) : Prop := PA X es (tDAr X.K fx F)
section
variable {X : Cx} {fx : Fx}
theorem Post.ar {K : PySem.W.Frag} {fx : Fx} {Hs H : Hp} {σ : St} {e e' : DEnv} {B : List (V × D)} {v : V} {t : T} {a : Ar} (k : Post K fx Hs H σ e B v t) (h : toAr t e = some (a, e')) : ∃ Hs', Le Hs Hs' ∧ Ok K fx Hs' H σ e' B ∧ ArOk K Hs' σ v a := by
  cases t with
  | loc i =>
    cases h
    exact ⟨Hs, Le.refl, k.1, k.2⟩
  | sh d =>
    simp only [toAr] at h
    split at h
    · rename_i q
      cases h
      exact k.sh q
    · cases h
  | ow d =>
    simp only [toAr] at h
    split at h
    · rename_i q
      cases h
      exact k.sh q
    · cases h
theorem dar_nil : DAr X fx [] aNil := pa_imp pa_nil fun σ H Q ⟨Hs, e, B, t, e', k, hf, q⟩ => by cases hf; exact q Hs [] H Le.refl k .nil
theorem dar_cons {a : Expr} {es : List Expr} {F : FE} {G : FAr} (ha : DE X fx a F) (hr : DAr X fx es G) (hs : starEach (a :: es) X.env = (false, eval a X.env) :: starEach es X.env := by rfl) : DAr X fx (a :: es) (aCons F G) :=
  pa_imp (pa_cons ha hr hs) fun σ H Q ⟨Hs, e, B, t, e', k, hf, q⟩ => by
    unfold aCons at hf
    simp only [Option.bind_eq_bind, Option.bind_eq_some_iff] at hf
    obtain ⟨⟨ta, e1⟩, h1, ⟨a', e2⟩, h2, ⟨as, e3⟩, h3, h4⟩ := hf
    cases h4
    refine ⟨Hs, e, B, ta, e1, k, h1, fun Hs1 v H1 l1 p1 => ?_⟩
    obtain ⟨Hs2, l2, k2, r2⟩ := p1.ar h2
    exact ⟨Hs2, e2, B, as, e3, k2, h3, fun Hs3 vs H3 l3 k3 r3 => q Hs3 _ H3 (l1.trans (l2.trans l3)) k3 (.cons (r2.mono l3) r3)⟩
/-- a def that keeps its promise, as it stands in the module -/
structure DF (P : Program) (w : World) (K : PySem.W.Frag) (mg : Str → Option Value) (base : Heap) (k : Nat) (name : Str) (ps : List Str) (G : GF) : Prop where
  ex : ∃ (f : Addr) (fd : FuncData), FnOk P w K mg base CX0 k f fd ps (spD K G) ∧ mg name = some (.ref f) ∧ PySem.W.keepIn K (.ref f) = true ∧ Binds K fd ps []
  outs : ∀ as r os, G as = some (r, os) → as.length = os.length
theorem DF.mono {P : Program} {w : World} {K : PySem.W.Frag} {mg : Str → Option Value} {base : Heap} {j k : Nat} {name : Str} {ps : List Str} {G : GF} (F : DF P w K mg base j name ps G) (h : j ≤ k) : DF P w K mg base k name ps G := by
  obtain ⟨⟨f, fd, F1, F2⟩, o⟩ := F
  exact ⟨⟨f, fd, F1.mono h, F2⟩, o⟩
/-- the promise, used -/
theorem use_def {G : GF} {F : FAr} (outs : ∀ as r os, G as = some (r, os) → as.length = os.length) : ∀ σ H Q, tD X.K fx (fCall G F) σ H Q → tDAr X.K fx F σ H fun vs H1 => spD X.K G vs H1 Q E0 := by
  rintro σ H Q ⟨Hs, e, B, t, e', k, hf, q⟩
  unfold fCall at hf
  simp only [Option.bind_eq_bind, Option.bind_eq_some_iff] at hf
  obtain ⟨⟨as, e1⟩, h1, xs, h2, h3⟩ := hf
  dsimp only at h2 h3
  split at h3
  · rename_i nd
    simp only [Option.bind_eq_some_iff] at h3
    obtain ⟨⟨r, os⟩, h4, h5⟩ := h3
    cases h5
    refine ⟨Hs, e, B, as, e1, k, h1, fun Hs1 vs H1 l1 k1 a1 => ?_⟩
    obtain ⟨L, g1, g2, g3⟩ := call_args k1 a1 h2 nd
    refine ⟨Hs1, L, xs, r, os, k1.sub, g1, g2, h4, fun Hs2 v H2 bk => q Hs2 v H2 (l1.trans bk.le) (call_back k1 a1 h2 nd g3 ?_ bk)⟩
    exact (argDs_get h2).1.trans (outs _ _ _ h4)
  · cases h3
theorem de_call {k : Nat} {x : Str} {ps : List Str} {G : GF} {a : Expr} {es : List Expr} {F : FAr} {p pos : Pos} (D : DF X.prog X.w X.K X.mg X.base k x ps G) (hr : Room k X.A) (hg : Gl X x) (ha : DAr X fx (a :: es) F)
    (hdb : (x == ("__debug__" : Str)) = false := by decide) (he : starEach (a :: es) X.env = (false, eval a X.env) :: starEach es X.env := by rfl) (hpl : (backTo pos (starEach es X.env)).any (·.1) = false := by rfl) :
    DE X fx (.Call (.Name x p) (a :: es) [] pos) (fCall G F) := by
  obtain ⟨⟨f, fd, F1, hm, hk, hb⟩, outs⟩ := D
  refine pe_imp (pe_call F1 hr hg hm hk hb .nil pass0 ha hdb he hpl) fun σ H Q h => ?_
  have z := use_def outs σ H Q h
  have e1 : (fun vs H1 => spD X.K G (vs ++ []) H1 Q E0) = fun vs H1 => spD X.K G vs H1 Q E0 := by
    funext vs H1; rw [List.append_nil]
  show tDAr X.K fx F σ H (fun vs H1 => spD X.K G (vs ++ []) H1 Q E0)
  rw [e1]; exact z
theorem de_call0 {k : Nat} {x : Str} {ps : List Str} {G : GF} {p pos : Pos} (D : DF X.prog X.w X.K X.mg X.base k x ps G) (hr : Room k X.A) (hg : Gl X x)
    (hdb : (x == ("__debug__" : Str)) = false := by decide) : DE X fx (.Call (.Name x p) [] [] pos) (fCall G aNil) := by
  obtain ⟨⟨f, fd, F1, hm, hk, hb⟩, outs⟩ := D
  refine pe_imp (pe_call0 F1 hr hg hm hk hb .nil pass0 hdb) fun σ H Q h => ?_
  have z := use_def outs σ H Q h
  obtain ⟨Hs, e, B, t, e', k, hf, q⟩ := z
  cases hf
  exact q Hs [] H Le.refl k .nil
/-! ### statements -/
inductive Out where
  | nx (e : DEnv) | rt (t : T) (e : DEnv) | bk (e : DEnv) | ct (e : DEnv)
abbrev FS := DEnv → Option Out
def EndOk (K : PySem.W.Frag) (fx : Fx) (Hs : Hp) (B : List (V × D)) (Dn : Ends) : Out → Prop
  | .nx e' => ∀ Hs' σ' H', Le Hs Hs' → Ok K fx Hs' H' σ' e' B → Dn.nx σ' H'
  | .rt t e' => ∀ Hs' σ' v H', Le Hs Hs' → Post K fx Hs' H' σ' e' B v t → Dn.rt v H'
  | .bk e' => ∀ Hs' σ' H', Le Hs Hs' → Ok K fx Hs' H' σ' e' B → Dn.bk σ' H'
  | .ct e' => ∀ Hs' σ' H', Le Hs Hs' → Ok K fx Hs' H' σ' e' B → Dn.ct σ' H'
theorem EndOk.mono {K : PySem.W.Frag} {fx : Fx} {Hs Hs1 : Hp} {B : List (V × D)} {Dn : Ends} (l : Le Hs Hs1) : ∀ {o : Out}, EndOk K fx Hs B Dn o → EndOk K fx Hs1 B Dn o
  | .nx _, h => fun Hs' σ' H' l' => h Hs' σ' H' (l.trans l')
  | .rt _ _, h => fun Hs' σ' v H' l' => h Hs' σ' v H' (l.trans l')
  | .bk _, h => fun Hs' σ' H' l' => h Hs' σ' H' (l.trans l')
  | .ct _, h => fun Hs' σ' H' l' => h Hs' σ' H' (l.trans l')
def tDS (K : PySem.W.Frag) (fx : Fx) (S : FS) : TS := fun Dn σ H => ∃ Hs e B o, Ok K fx Hs H σ e B ∧ S e = some o ∧ EndOk K fx Hs B Dn o
def DS (X : Cx) (fx : Fx) (st : Stmt) (S : FS) : Prop := PS X st (tDS X.K fx S)
def DSs (X : Cx) (fx : Fx) (sts : List Stmt) (S : FS) : Prop := PSs X sts (tDS X.K fx S)
theorem ps_imp {X : Cx} {st : Stmt} {t t' : TS} (h : PS X st t) (f : ∀ D σ H, t' D σ H → t D σ H) : PS X st t' := ⟨fun pins s σ H D I w => h.run pins s σ H D I (f D σ H w)⟩
theorem pss_imp {X : Cx} {st : List Stmt} {t t' : TS} (h : PSs X st t) (f : ∀ D σ H, t' D σ H → t D σ H) : PSs X st t' := ⟨fun pins s σ H D I w => h.run pins s σ H D I (f D σ H w)⟩
def sNil : FS := fun e => some (.nx e)
def sSeq (S1 S2 : FS) : FS := fun e => match S1 e with
  | some (.nx e1) => S2 e1
  | o => o
theorem dss_nil : DSs X fx [] sNil := pss_imp pss_nil fun Dn σ H ⟨Hs, e, B, o, k, hf, q⟩ => by
  cases hf
  exact q Hs σ H Le.refl k
theorem dss_cons {st : Stmt} {sts : List Stmt} {S1 S2 : FS} (h1 : DS X fx st S1) (h2 : DSs X fx sts S2) : DSs X fx (st :: sts) (sSeq S1 S2) := pss_imp (pss_cons h1 h2) fun Dn σ H ⟨Hs, e, B, o, k, hf, q⟩ => by
  unfold sSeq at hf
  split at hf
  · rename_i e1 h
    exact ⟨Hs, e, B, _, k, h, fun Hs' σ' H' l k' => ⟨Hs', e1, B, o, k', hf, q.mono l⟩⟩
  · rename_i o' h
    refine ⟨Hs, e, B, o, k, hf, ?_⟩
    cases o with
    | nx e1 => exact absurd hf (h e1)
    | rt t e1 => exact q
    | bk e1 => exact q
    | ct e1 => exact q
theorem dss_one {st : Stmt} {S : FS} (h : DS X fx st S) : DSs X fx [st] S := pss_one h
def sExpr (F : FE) : FS := fun e => match F e with
  | some (_, e1) => some (.nx e1)
  | none => none
theorem ds_expr {a : Expr} {F : FE} {pos : Pos} (h : DE X fx a F) (hs : swapsWith a none pos.line X.env = pure false := by rfl) : DS X fx (.Expr a pos) (sExpr F) := ps_imp (ps_expr h hs) fun Dn σ H ⟨Hs, e, B, o, k, hf, q⟩ => by
  unfold sExpr at hf
  split at hf
  · rename_i t e1 h1
    cases hf
    exact ⟨Hs, e, B, t, e1, k, h1, fun Hs1 v H1 l1 p1 => q Hs1 σ H1 l1 p1.ok⟩
  · cases hf
def sRet (F : FE) : FS := fun e => match F e with
  | some (t, e1) => some (.rt t e1)
  | none => none
theorem ds_ret {a : Expr} {F : FE} {pos : Pos} (h : DE X fx a F) : DS X fx (.Return (some a) pos) (sRet F) := ps_imp (ps_ret h) fun Dn σ H ⟨Hs, e, B, o, k, hf, q⟩ => by
  unfold sRet at hf
  split at hf
  · rename_i t e1 h1
    cases hf
    exact ⟨Hs, e, B, t, e1, k, h1, fun Hs1 v H1 l1 p1 => q Hs1 σ v H1 l1 p1⟩
  · cases hf
def sRetN : FS := fun e => some (.rt (.sh .non) e)
theorem ds_retN {pos : Pos} : DS X fx (.Return none pos) sRetN := ps_imp ps_retN fun Dn σ H ⟨Hs, e, B, o, k, hf, q⟩ => by
  cases hf
  exact q Hs σ .non H Le.refl ⟨k, .non⟩
def sPass : FS := fun e => some (.nx e)
theorem ds_pass {pos : Pos} : DS X fx (.Pass pos) sPass := ps_imp ps_pass fun Dn σ H ⟨Hs, e, B, o, k, hf, q⟩ => by
  cases hf
  exact q Hs σ H Le.refl k
def sBreak : FS := fun e => some (.bk e)
theorem ds_break {pos : Pos} : DS X fx (.Break pos) sBreak := ps_imp ps_break fun Dn σ H ⟨Hs, e, B, o, k, hf, q⟩ => by
  cases hf
  exact q Hs σ H Le.refl k
def sCont : FS := fun e => some (.ct e)
theorem ds_continue {pos : Pos} : DS X fx (.Continue pos) sCont := ps_imp ps_continue fun Dn σ H ⟨Hs, e, B, o, k, hf, q⟩ => by
  cases hf
  exact q Hs σ H Le.refl k
/-- never reached -/
def sNever : FS := fun _ => none
theorem ds_never {st : Stmt} : DS X fx st sNever := ps_imp ps_never fun Dn σ H ⟨Hs, e, B, o, k, hf, q⟩ => by cases hf
def sIf (A : FB) (S1 S2 : FS) : FS := fun e => match A e with
  | some (c, e1) => if c = true then S1 e1 else S2 e1
  | none => none
theorem ds_if {c : Expr} {a b : List Stmt} {A : FB} {S1 S2 : FS} {pos : Pos} (hc : DT X fx c A) (ha : DSs X fx a S1) (hb : DSs X fx b S2) : DS X fx (.If c a b pos) (sIf A S1 S2) := ps_imp (ps_if hc ha hb) fun Dn σ H ⟨Hs, e, B, o, k, hf, q⟩ => by
  unfold sIf at hf
  split at hf
  · rename_i c e1 h1
    refine ⟨Hs, e, B, c, e1, k, h1, fun Hs1 H1 l1 k1 => ?_⟩
    cases c with
    | true =>
      rw [if_pos rfl] at hf ⊢
      exact ⟨Hs1, e1, B, o, k1, hf, q.mono l1⟩
    | false =>
      rw [if_neg (by decide)] at hf ⊢
      exact ⟨Hs1, e1, B, o, k1, hf, q.mono l1⟩
  · cases hf
/-! ### name = value -/
def sSet (i : Nat) (F : FE) : FS := fun e => match F e with
  | some (t, e1) => match stT i t e1 with
    | some e2 => some (.nx e2)
    | none => none
  | none => none
theorem set_go {i : Nat} {F : FE} {Dn : Ends} {σ : St} {H : Hp} (h : tDS X.K fx (sSet i F) Dn σ H) : tD X.K fx F σ H fun x H1 => gName i x σ H1 Dn.nx := by
  obtain ⟨Hs, e, B, o, k, hf, q⟩ := h
  unfold sSet at hf
  split at hf
  · rename_i t e1 h1
    split at hf
    · rename_i e2 h2
      cases hf
      refine ⟨Hs, e, B, t, e1, k, h1, fun Hs1 v H1 l1 p1 => ?_⟩
      obtain ⟨Hs2, l2, k2⟩ := p1.st h2
      exact q Hs2 _ H1 (l1.trans l2) k2
    · cases hf
  · cases hf
theorem ds_set {i : Nat} {x : Str} {a : Expr} {F : FE} {pos pos' : Pos} (hN : X.N.Nodup) (hi : X.N[i]? = some x) (hx : Loc X.env.scope x) (ha : DE X fx a F) (hs : swapsWith a (some (.Name x pos')) pos.line X.env = pure false := by rfl)
    (hf : X.fn x = true ∨ X.env.scope.names.lookup x = some .local := by first | exact .inl rfl | exact .inr rfl | assumption) : DS X fx (.Assign [.Name x pos'] a pos) (sSet i F) :=
  ps_imp (ps_set hN hi hx ha hs hf) fun Dn σ H h => set_go h
/-! ### a, b, .. = values written out -/
abbrev FTs := DEnv → Option (List T × DEnv)
def noLoc (t : T) (e : DEnv) : Option (T × DEnv) := match t with
  | .loc i => match toSh (.loc i) e with
    | some (d, e') => some (.sh d, e')
    | none => none
  | t => some (t, e)
def tsNil : FTs := fun e => some ([], e)
def tsCons (F : FE) (G : FTs) : FTs := fun e => do
  let (t, e1) ← F e
  let (t', e2) ← noLoc t e1
  let (ts, e3) ← G e2
  pure (t' :: ts, e3)
def pushL : List T → List V → List (V × D) → List (V × D)
  | t :: ts, v :: vs, B => pushL ts vs (push t v B)
  | _, _, B => B
def IsS (K : PySem.W.Frag) (Hs : Hp) (v : V) : T → Prop
  | .sh d => Rep K Hs v d
  | .ow _ => True
  | .loc _ => False
inductive IsL (K : PySem.W.Frag) (Hs : Hp) : List V → List T → Prop
  | nil : IsL K Hs [] []
  | cons {v : V} {vs : List V} {t : T} {ts : List T} : IsS K Hs v t → IsL K Hs vs ts → IsL K Hs (v :: vs) (t :: ts)
theorem IsS.mono {K : PySem.W.Frag} {Hs Hs' : Hp} {v : V} (l : Le Hs Hs') : ∀ {t : T}, IsS K Hs v t → IsS K Hs' v t
  | .sh _, h => Rep.mono l h
  | .ow _, _ => trivial
theorem IsL.mono {K : PySem.W.Frag} {Hs Hs' : Hp} (l : Le Hs Hs') : ∀ {vs : List V} {ts : List T}, IsL K Hs vs ts → IsL K Hs' vs ts
  | _, _, .nil => .nil
  | _, _, .cons h t => .cons (h.mono l) (t.mono l)
theorem IsL.len {K : PySem.W.Frag} {Hs : Hp} : ∀ {vs : List V} {ts : List T}, IsL K Hs vs ts → vs.length = ts.length
  | _, _, .nil => rfl
  | _, _, .cons _ t => by simp [t.len]
def tDTs (K : PySem.W.Frag) (fx : Fx) (F : FTs) : TA := fun σ H Q => ∃ Hs e B t e', Ok K fx Hs H σ e B ∧ F e = some (t, e') ∧ ∀ Hs' vs H', Le Hs Hs' → Ok K fx Hs' H' σ e' (pushL t vs B) → IsL K Hs' vs t → Q vs H'
def DTs (X : Cx) (fx : Fx) (es : List Expr) (F : FTs) : Prop := PA X es (tDTs X.K fx F)
theorem dts_nil : DTs X fx [] tsNil := pa_imp pa_nil fun σ H Q ⟨Hs, e, B, t, e', k, hf, q⟩ => by cases hf; exact q Hs [] H Le.refl k .nil
theorem Post.noLoc {K : PySem.W.Frag} {fx : Fx} {Hs H : Hp} {σ : St} {e e' : DEnv} {B : List (V × D)} {v : V} {t t' : T} (k : Post K fx Hs H σ e B v t) (h : noLoc t e = some (t', e')) : ∃ Hs', Le Hs Hs' ∧ Ok K fx Hs' H σ e' (push t' v B) ∧ IsS K Hs' v t' := by
  cases t with
  | sh d => cases h; exact ⟨Hs, Le.refl, k.1, k.2⟩
  | ow d => cases h; exact ⟨Hs, Le.refl, k.1, trivial⟩
  | loc i =>
    simp only [DD.noLoc] at h
    split at h
    · rename_i q
      cases h
      obtain ⟨Hs', l, k', r⟩ := k.sh q
      exact ⟨Hs', l, k', r⟩
    · cases h
theorem dts_cons {a : Expr} {es : List Expr} {F : FE} {G : FTs} (ha : DE X fx a F) (hr : DTs X fx es G) (hs : starEach (a :: es) X.env = (false, eval a X.env) :: starEach es X.env := by rfl) : DTs X fx (a :: es) (tsCons F G) :=
  pa_imp (pa_cons ha hr hs) fun σ H Q ⟨Hs, e, B, t, e', k, hf, q⟩ => by
    unfold tsCons at hf
    simp only [Option.bind_eq_bind, Option.bind_eq_some_iff] at hf
    obtain ⟨⟨ta, e1⟩, h1, ⟨tb, e2⟩, h2, ⟨ts, e3⟩, h3, h4⟩ := hf
    cases h4
    refine ⟨Hs, e, B, ta, e1, k, h1, fun Hs1 v H1 l1 p1 => ?_⟩
    obtain ⟨Hs2, l2, k2, r2⟩ := p1.noLoc h2
    exact ⟨Hs2, e2, push tb v B, ts, e3, k2, h3, fun Hs3 vs H3 l3 k3 r3 => q Hs3 _ H3 (l1.trans (l2.trans l3)) k3 (.cons (r2.mono l3) r3)⟩
theorem Ok.perm {K : PySem.W.Frag} {fx : Fx} {Hs H : Hp} {σ : St} {e : DEnv} {B B' : List (V × D)} (k : Ok K fx Hs H σ e B) (h : B.Perm B') : Ok K fx Hs H σ e B' :=
  ⟨k.len, k.sub, k.grow, k.ext, k.frame, k.lt, k.slot, fun x hx => k.temp x (h.mem_iff.mpr hx), k.ss, fun i s x h1 h2 h3 => k.st i s x h1 h2 (h.mem_iff.mpr h3), (h.pairwise_iff (fun {a b} z => Ne.symm z)).mp k.tt, k.ls⟩
theorem pushL_perm : ∀ (ts : List T) (vs : List V) (t : T) (v : V) (B : List (V × D)), (pushL ts vs (push t v B)).Perm (push t v (pushL ts vs B))
  | [], vs, t, v, B => by simp [pushL]
  | a :: ts, [], t, v, B => by simp [pushL]
  | a :: ts, u :: vs, t, v, B => by
    rw [pushL, pushL]
    cases t with
    | sh _ => exact .refl _
    | loc _ => exact .refl _
    | ow d =>
      cases a with
      | sh _ => exact pushL_perm ts vs (.ow d) v B
      | loc _ => exact pushL_perm ts vs (.ow d) v B
      | ow d' =>
        refine (pushL_perm ts vs (.ow d') u _).trans ?_
        refine ((pushL_perm ts vs (.ow d) v B).cons _).trans ?_
        refine (List.Perm.swap _ _ _).trans ?_
        exact ((pushL_perm ts vs (.ow d') u B).symm).cons _
/-- stored one after another -/
def stAll : List Nat → List T → DEnv → Option DEnv
  | i :: is, t :: ts, e => match stT i t e with
    | some e1 => stAll is ts e1
    | none => none
  | [], [], e => some e
  | _, _, _ => none
def setAll : List Nat → List V → St → St
  | i :: is, v :: vs, σ => setAll is vs (σ.set i (some v))
  | _, _, σ => σ
theorem st_all {K : PySem.W.Frag} {fx : Fx} : ∀ {is : List Nat} {ts : List T} {vs : List V} {Hs H : Hp} {σ : St} {e e' : DEnv} {B : List (V × D)}, Ok K fx Hs H σ e (pushL ts vs B) → IsL K Hs vs ts → stAll is ts e = some e' → ∃ Hs', Le Hs Hs' ∧ Ok K fx Hs' H (setAll is vs σ) e' B
  | [], [], vs, Hs, H, σ, e, e', B, k, r, h => by cases h; cases r; exact ⟨Hs, Le.refl, k⟩
  | i :: is, t :: ts, vs, Hs, H, σ, e, e', B, k, r, h => by
    cases r with
    | cons r1 r2 =>
      rename_i v vs
      simp only [stAll] at h
      split at h
      · rename_i e1 h1
        have k1 : Ok K fx Hs H σ e (push t v (pushL ts vs B)) := Ok.perm k (pushL_perm ts vs t v B)
        have p1 : Post K fx Hs H σ e (pushL ts vs B) v t := ⟨k1, by cases t <;> first | exact r1 | exact r1.elim⟩
        obtain ⟨Hs1, l1, k2⟩ := p1.st h1
        obtain ⟨Hs2, l2, k3⟩ := st_all (is := is) k2 (r2.mono l1) h
        exact ⟨Hs2, l1.trans l2, k3⟩
      · cases h
  | [], _ :: _, _, _, _, _, _, _, _, _, _, h => by cases h
  | _ :: _, [], _, _, _, _, _, _, _, _, _, h => by cases h
def sPar (is : List Nat) (F : FTs) : FS := fun e => match F e with
  | some (ts, e1) => match stAll is ts e1 with
    | some e2 => some (.nx e2)
    | none => none
  | none => none
theorem stAll_len : ∀ {is : List Nat} {ts : List T} {e e' : DEnv}, stAll is ts e = some e' → is.length = ts.length
  | [], [], _, _, _ => rfl
  | i :: is, t :: ts, e, e', h => by
    simp only [stAll] at h
    split at h
    · simp [stAll_len h]
    · cases h
  | [], _ :: _, _, _, h => by cases h
  | _ :: _, [], _, _, h => by cases h
theorem par_go {is : List Nat} {F : FTs} {Dn : Ends} {σ : St} {H : Hp} (h : tDS X.K fx (sPar is F) Dn σ H) : tDTs X.K fx F σ H fun vs H1 => vs.length = is.length ∧ ∀ H2, Le H1 H2 → Dn.nx (setAll is vs σ) H2 := by
  obtain ⟨Hs, e, B, o, k, hf, q⟩ := h
  unfold sPar at hf
  split at hf
  · rename_i ts e1 h1
    split at hf
    · rename_i e2 h2
      cases hf
      refine ⟨Hs, e, B, ts, e1, k, h1, fun Hs1 vs H1 l1 k1 r1 => ⟨r1.len.trans (stAll_len h2).symm, fun H2 l2 => ?_⟩⟩
      obtain ⟨Hs2, l3, k2⟩ := st_all k1 r1 h2
      exact q Hs2 _ H2 (l1.trans l3) (k2.more l2)
    · cases hf
  · cases hf
theorem ds_par2 {i j : Nat} {x y : Str} {a b : Expr} {F : FTs} {px py pt pos : Pos} {kt k2 pt2} (hc : X.calm = true) (hN : X.N.Nodup) (hi : X.N[i]? = some x) (hj : X.N[j]? = some y) (hij : i ≠ j)
    (hx : X.env.scope.names.lookup x = some .local) (hy : X.env.scope.names.lookup y = some .local) (ha : DTs X fx [a, b] F)
    (hw : swappedStores [.Tuple [.Name x px, .Name y py] kt pt] (.Tuple [a, b] k2 pt2) X.env = pure (some [x, y]))
    (hs : swapsWithSole [.Tuple [.Name x px, .Name y py] kt pt] (.Tuple [a, b] k2 pt2) pos.line X.env = pure false := by rfl) :
    DS X fx (.Assign [.Tuple [.Name x px, .Name y py] kt pt] (.Tuple [a, b] k2 pt2) pos) (sPar [i, j] F) := ps_imp (ps_par hc hN hi hj hij hx hy ha hw hs) fun Dn σ H h => by
  obtain ⟨Hs, e, B, t, e', k, hf, q⟩ := par_go h
  refine ⟨Hs, e, B, t, e', k, hf, fun Hs' vs H' l k' r => ?_⟩
  obtain ⟨hl, z⟩ := q Hs' vs H' l k' r
  match vs, hl with
  | [v, w], _ => exact ⟨v, w, rfl, z H' Le.refl⟩
theorem ds_par3 {i j l : Nat} {x y z : Str} {a b c : Expr} {F : FTs} {px py pz pt pos : Pos} {kt k2 pt2} (hc : X.calm = true) (hN : X.N.Nodup) (hi : X.N[i]? = some x) (hj : X.N[j]? = some y) (hl : X.N[l]? = some z) (hij : i ≠ j) (hil : i ≠ l) (hjl : j ≠ l)
    (hx : X.env.scope.names.lookup x = some .local) (hy : X.env.scope.names.lookup y = some .local) (hz : X.env.scope.names.lookup z = some .local) (ha : DTs X fx [a, b, c] F)
    (hw : swappedStores [.Tuple [.Name x px, .Name y py, .Name z pz] kt pt] (.Tuple [a, b, c] k2 pt2) X.env = pure (some [x, y, z]))
    (hs : swapsWithSole [.Tuple [.Name x px, .Name y py, .Name z pz] kt pt] (.Tuple [a, b, c] k2 pt2) pos.line X.env = pure false := by rfl) :
    DS X fx (.Assign [.Tuple [.Name x px, .Name y py, .Name z pz] kt pt] (.Tuple [a, b, c] k2 pt2) pos) (sPar [i, j, l] F) := ps_imp (ps_par3 hc hN hi hj hl hij hil hjl hx hy hz ha hw hs) fun Dn σ H h => by
  obtain ⟨Hs, e, B, t, e', k, hf, q⟩ := par_go h
  refine ⟨Hs, e, B, t, e', k, hf, fun Hs' vs H' l k' r => ?_⟩
  obtain ⟨hl, z⟩ := q Hs' vs H' l k' r
  match vs, hl with
  | [u, v, w], _ => exact ⟨u, v, w, rfl, z H' Le.refl⟩
/-! ### targets, by data that is shared -/
abbrev GD := D → DEnv → Option DEnv
def tDG (K : PySem.W.Frag) (fx : Fx) (g : GD) : TG := fun v σ H Q => ∃ Hs e B d e', Ok K fx Hs H σ e B ∧ Rep K Hs v d ∧ g d e = some e' ∧ ∀ Hs' σ' H', Le Hs Hs' → Ok K fx Hs' H' σ' e' B → Q σ' H'
def DG (X : Cx) (fx : Fx) (tg : Expr) (g : GD) : Prop := PG X tg (tDG X.K fx g)
theorem pg_imp {X : Cx} {tg : Expr} {g g' : TG} (h : PG X tg g) (f : ∀ v σ H Q, g' v σ H Q → g v σ H Q) : PG X tg g' := ⟨fun pins s σ H v u Q I r w => h.run pins s σ H v u Q I r (f v σ H Q w)⟩
def gN (i : Nat) : GD := fun d e => stT i (.sh d) e
theorem dg_name {i : Nat} {x : Str} {pos : Pos} (hN : X.N.Nodup) (hi : X.N[i]? = some x) (hx : Loc X.env.scope x) (hf : X.fn x = true ∨ X.env.scope.names.lookup x = some .local := by first | exact .inl rfl | exact .inr rfl | assumption) : DG X fx (.Name x pos) (gN i) :=
  pg_imp (pg_name hN hi hx hf) fun v σ H Q ⟨Hs, e, B, d, e', k, r, hf, q⟩ => by
    have p : Post X.K fx Hs H σ e B v (.sh d) := ⟨k, r⟩
    obtain ⟨Hs', l, k'⟩ := p.st hf
    exact q Hs' _ H l k'
abbrev GDs := List D → DEnv → Option DEnv
def tDGs (K : PySem.W.Frag) (fx : Fx) (g : GDs) : TGs := fun vs σ H Q => ∃ Hs e B ds e', Ok K fx Hs H σ e B ∧ RepL K Hs vs ds ∧ g ds e = some e' ∧ ∀ Hs' σ' H', Le Hs Hs' → Ok K fx Hs' H' σ' e' B → Q σ' H'
def DGs (X : Cx) (fx : Fx) (ts : List Expr) (g : GDs) : Prop := PGs X ts (tDGs X.K fx g)
theorem pgs_imp {X : Cx} {ts : List Expr} {g g' : TGs} (h : PGs X ts g) (f : ∀ v σ H Q, g' v σ H Q → g v σ H Q) : PGs X ts g' := ⟨fun pins s σ H v u Q I r w => h.run pins s σ H v u Q I r (f v σ H Q w)⟩
def gsNil : GDs := fun ds e => match ds with
  | [] => some e
  | _ => none
def gsCons (g : GD) (h : GDs) : GDs := fun ds e => match ds with
  | d :: ds => match g d e with
    | some e1 => h ds e1
    | none => none
  | _ => none
theorem dgs_nil : DGs X fx [] gsNil := pgs_imp pgs_nil fun vs σ H Q ⟨Hs, e, B, ds, e', k, r, hf, q⟩ => by
  cases ds with
  | nil =>
    cases hf
    cases r
    exact ⟨rfl, q Hs σ H Le.refl k⟩
  | cons _ _ => cases hf
theorem dgs_cons {t : Expr} {ts : List Expr} {g : GD} {h : GDs} (h1 : DG X fx t g) (h2 : DGs X fx ts h) (hs : (assignEach (t :: ts) X.env).map (·.2) = assign t X.env :: (assignEach ts X.env).map (·.2) := by rfl) : DGs X fx (t :: ts) (gsCons g h) :=
  pgs_imp (pgs_cons h1 h2 hs) fun vs σ H Q ⟨Hs, e, B, ds, e', k, r, hf, q⟩ => by
    cases ds with
    | nil => cases hf
    | cons d ds =>
      cases r with
      | cons r1 r2 =>
        simp only [gsCons] at hf
        split at hf
        · rename_i e1 g1
          exact ⟨_, _, rfl, Hs, e, B, d, e1, k, r1, g1, fun Hs1 σ1 H1 l1 k1 => ⟨Hs1, e1, B, ds, e', k1, r2.mono l1, hf, fun Hs2 σ2 H2 l2 k2 => q Hs2 σ2 H2 (l1.trans l2) k2⟩⟩
        · cases hf
def gTupD (n : Nat) (h : GDs) : GD := fun d e => match d with
  | .tup ds => if ds.length = n then h ds e else none
  | _ => none
theorem dg_tup {es : List Expr} {n kk : Nat} {h : GDs} {pos : Pos} (hc : X.calm = true) (hs : DGs X fx es h) (hn : (assignEach es X.env).length = n := by rfl) (hst : (assignEach es X.env).findIdx? (·.1) = none := by rfl) : DG X fx (.Tuple es kk pos) (gTupD n h) :=
  pg_imp (pg_tup hc hs hn hst) fun v σ H Q ⟨Hs, e, B, d, e', k, r, hf, q⟩ => by
    cases d with
    | tup ds =>
      simp only [gTupD] at hf
      split at hf
      · rename_i hl
        cases r with
        | tup ha r =>
          exact ⟨_, _, rfl, .inl (.inl (k.sub _ _ ha)), r.length.trans hl, Hs, e, B, ds, e', k, r, hf, q⟩
      · cases hf
    | _ => cases hf
/-- target = value, the value shared -/
def sAsg (F : FE) (g : GD) : FS := fun e => match F e with
  | some (t, e1) => match toSh t e1 with
    | some (d, e2) => match g d e2 with
      | some e3 => some (.nx e3)
      | none => none
    | none => none
  | none => none
theorem ds_asg {tg a : Expr} {F : FE} {g : GD} {pos : Pos} (ha : DE X fx a F) (hg : DG X fx tg g) (hs : swapsWithSole [tg] a pos.line X.env = pure false := by rfl) (hw : swappedStores [tg] a X.env = pure none := by rfl)
    (h1 : (assignEach [tg] X.env).map (·.2) = [assign tg X.env] := by rfl) : DS X fx (.Assign [tg] a pos) (sAsg F g) := ps_imp (ps_asg ha hg hs hw h1) fun Dn σ H ⟨Hs, e, B, o, k, hf, q⟩ => by
  unfold sAsg at hf
  split at hf
  · rename_i t e1 h1
    split at hf
    · rename_i d e2 h2
      split at hf
      · rename_i e3 h3
        cases hf
        refine ⟨Hs, e, B, t, e1, k, h1, fun Hs1 v H1 l1 p1 => ?_⟩
        obtain ⟨Hs2, l2, k2, r2⟩ := p1.sh h2
        exact ⟨Hs2, e2, B, d, e3, k2, r2, h3, fun Hs3 σ3 H3 l3 k3 => q Hs3 σ3 H3 (l1.trans (l2.trans l3)) k3⟩
      · cases hf
    · cases hf
  · cases hf
end
end DD

namespace DD
open PySem PySem.Spec PyProof.Rows L2
section
variable {X : Cx} {fx : Fx}
/-! ### a, b, .. = values written out, where a name is a cell: the tuple is made -/
def namesG : List Nat → TGs
  | [] => gNil
  | i :: is => gCons (gName i) (namesG is)
theorem names_go : ∀ {is : List Nat} {vs : List V} {σ : St} {H : Hp} {Q : St → Hp → Prop}, vs.length = is.length → Q (setAll is vs σ) H → namesG is vs σ H Q
  | [], [], _, _, _, _, q => ⟨rfl, q⟩
  | i :: is, v :: vs, σ, H, Q, h, q => ⟨v, vs, rfl, names_go (is := is) (by simpa using h) q⟩
  | [], _ :: _, _, _, _, h, _ => by simp at h
  | _ :: _, [], _, _, _, h, _ => by simp at h
theorem ds_tupAsg {is : List Nat} {ts es : List Expr} {F : FTs} {pos pt p2 : Pos} {kt k2 n : Nat} (hc : X.calm = true) (ha : DTs X fx es F) (hg : PGs X ts (namesG is)) (hn : (assignEach ts X.env).length = n) (hst : (assignEach ts X.env).findIdx? (·.1) = none)
    (hl : is.length = n) (hz : n ≤ 1000)
    (hs : swapsWithSole [.Tuple ts kt pt] (.Tuple es k2 p2) pos.line X.env = pure false := by rfl) (hw : swappedStores [.Tuple ts kt pt] (.Tuple es k2 p2) X.env = pure none := by rfl)
    (h1 : (assignEach [.Tuple ts kt pt] X.env).map (·.2) = [assign (.Tuple ts kt pt) X.env] := by rfl) : DS X fx (.Assign [.Tuple ts kt pt] (.Tuple es k2 p2) pos) (sPar is F) :=
  ps_imp (ps_asg (pe_tup ha) (pg_tup hc hg hn hst) hs hw h1) fun Dn σ H h => by
    obtain ⟨Hs, e, B, t, e', k, hf, q⟩ := par_go h
    refine ⟨Hs, e, B, t, e', k, hf, fun Hs' vs H' l k' r => ?_⟩
    obtain ⟨hv, z⟩ := q Hs' vs H' l k' r
    refine ⟨Nat.le_of_lt (small1000 (by omega)), fun p hp => ⟨p, vs, rfl, .inl (.inl upd_same), by omega, names_go hv (z _ (Le.upd hp))⟩⟩
/-! ### what is walked -/
abbrev FI := DEnv → Option (List D × DEnv)
def YD (K : PySem.W.Frag) (Hs : Hp) (ds : List D) : Nat → Hp → V → Hp → Prop := fun i H x H' => ∃ d, ds[i]? = some d ∧ ((H' = H ∧ Rep K Hs x d) ∨ ∃ T vs es, x = .ref T ∧ H T = none ∧ H' = upd H T (.tup vs) ∧ RepL K Hs vs es ∧ d = .tup es)
def tDI (K : PySem.W.Frag) (fx : Fx) (F : FI) : TI := fun σ H R => ∃ Hs e B ds e', Ok K fx Hs H σ e B ∧ F e = some (ds, e') ∧ ∀ Hs' H' J, Le Hs Hs' → Ok K fx Hs' H' σ e' B → Walk J ds.length (fun H => Le Hs' H) (YD K Hs' ds) → R J H'
def DI (X : Cx) (fx : Fx) (tg iter : Expr) (F : FI) : Prop := PI X tg iter (tDI X.K fx F)
theorem pi_imp {X : Cx} {tg iter : Expr} {t t' : TI} (h : PI X tg iter t) (f : ∀ σ H R, t' σ H R → t σ H R) : PI X tg iter t' := ⟨fun pins s σ H R I w => h.run pins s σ H R I (f σ H R w)⟩
/-- a list, a tuple or a text -/
def iAny (K : PySem.W.Frag) (te : TE) : TI := fun σ H R => te σ H fun x H1 => (∃ a, x = .ref a ∧ (∃ xs, SqL K H1 a xs) ∧ R (Itl K a) H1) ∨ (∃ a, x = .ref a ∧ (∃ xs, SqT K H1 a xs) ∧ R (Itt K a) H1) ∨ ∃ z, x = .str z ∧ R (Its z) H1
theorem pi_any {tg a : Expr} {te : TE} (h : PE X a te) : PI X tg a (iAny X.K te) := by
  refine ⟨fun pins s σ H R I w => thn (h.run pins s σ H _ I w) fun v s1 ⟨x, H1, I1, r1, q1⟩ => ?_⟩
  have one : ∀ {b : Addr}, b = s1.heap.objs.size → ∀ c ∈ [b], FpOk X pins H1 c := fun {b} e c hc => by
    have : c = s1.heap.objs.size := (List.mem_singleton.mp hc).trans e
    rw [this]
    exact I1.fpOk (Nat.le_refl _) (I1.hok.fresh (Nat.le_refl _))
  rcases q1 with ⟨a, e, ⟨xs, hq⟩, q⟩ | ⟨a, e, ⟨xs, hq⟩, q⟩ | ⟨z, e, q⟩
  · subst e
    obtain rfl : v = Value.ref a := r1
    obtain ⟨its, rv, p, _⟩ := I1.list hq
    exact wpAny_pyIter_list p.isList ⟨_, _, _, _, H1, rfl, I1.kept (t' := s1.toks) fun b o w => Heap.get?_push_of_some _ w, turn_list a _, ⟨_, Heap.get?_push_size _ rfl, rfl, rfl⟩, one rfl, q⟩
  · subst e
    obtain rfl : v = Value.ref a := r1
    obtain ⟨its, rv, p, _⟩ := I1.tuple hq
    exact wpAny_pyIter_tuple (show s1.heap.IsTuple a its.toArray from p) ⟨_, _, _, _, H1, rfl, I1.kept (t' := s1.toks) fun b o w => Heap.get?_push_of_some _ w, turn_tuple a _, ⟨_, Heap.get?_push_size _ rfl, rfl, rfl⟩, one rfl, q⟩
  · subst e
    obtain ⟨t, rfl⟩ := (show ∃ t, v = Value.str z t from r1)
    by_cases hz : z.cps.all (· < 128) = true
    · exact wpAny_pyIter_ascii hz (pi_one (tk := s1.toks) I1 _ (turn_str _ z t _ (.inl rfl)) ⟨_, Heap.get?_push_size _ rfl, rfl, rfl⟩ q)
    · exact wpAny_pyIter_wide (by simpa using hz) (pi_one (tk := s1.toks) I1 _ (turn_str _ z t _ (.inr rfl)) ⟨_, Heap.get?_push_size _ rfl, rfl, rfl⟩ q)
def signsD (z : Str) : List D := z.cps.toList.map fun c => .str ⟨#[c]⟩
def seqD : D → Option (List D)
  | .lst ds => some ds
  | .tup ds => some ds
  | .str z => some (signsD z)
  | _ => none
def fIter (F : FE) : FI := fun e => do
  let (t, e1) ← F e
  let (d, e2) ← toSh t e1
  let ds ← seqD d
  pure (ds, e2)
theorem walk_lstD {K : PySem.W.Frag} {Hs : Hp} {a : Addr} {xs : List V} {ds : List D} (h : Hs a = some (.lst xs)) (r : RepL K Hs xs ds) : Walk (Itl K a) ds.length (fun H => Le Hs H) (YD K Hs ds) := by
  rw [← r.length]
  refine (walk_list (K := K) (a := a) (xs := xs)).mono (fun H l => .inl (.inl (l _ _ h))) fun i H x H' hi l ⟨e, y⟩ => ?_
  obtain ⟨d, h1, h2⟩ := r.getV y
  exact ⟨d, h1, .inl ⟨e, h2⟩⟩
theorem walk_tupD {K : PySem.W.Frag} {Hs : Hp} {a : Addr} {xs : List V} {ds : List D} (h : Hs a = some (.tup xs)) (r : RepL K Hs xs ds) : Walk (Itt K a) ds.length (fun H => Le Hs H) (YD K Hs ds) := by
  rw [← r.length]
  refine (walk_tup (K := K) (a := a) (xs := xs)).mono (fun H l => .inl (.inl (l _ _ h))) fun i H x H' hi l ⟨e, y⟩ => ?_
  obtain ⟨d, h1, h2⟩ := r.getV y
  exact ⟨d, h1, .inl ⟨e, h2⟩⟩
theorem walk_strD {K : PySem.W.Frag} {Hs : Hp} {z : Str} : Walk (Its z) (signsD z).length (fun H => Le Hs H) (YD K Hs (signsD z)) := by
  have e : (signsD z).length = z.cps.size := by unfold signsD; simp
  rw [e]
  refine (walk_str (z := z)).mono (fun H _ => trivial) fun i H x H' hi l ⟨e, c, h1, h2⟩ => ?_
  refine ⟨.str ⟨#[c]⟩, ?_, .inl ⟨e, by rw [h2]; exact .str _⟩⟩
  unfold signsD
  rw [List.getElem?_map, Array.getElem?_toList, h1]; rfl
theorem di_any {tg a : Expr} {F : FE} (h : DE X fx a F) : DI X fx tg a (fIter F) := pi_imp (pi_any h) fun σ H R ⟨Hs, e, B, ds, e', k, hf, q⟩ => by
  unfold fIter at hf
  simp only [Option.bind_eq_bind, Option.bind_eq_some_iff] at hf
  obtain ⟨⟨t, e1⟩, h1, ⟨d, e2⟩, h2, ds', h3, h4⟩ := hf
  cases h4
  refine ⟨Hs, e, B, t, e1, k, h1, fun Hs1 v H1 l1 p1 => ?_⟩
  obtain ⟨Hs2, l2, k2, r⟩ := p1.sh h2
  cases d with
  | lst ds =>
    cases h3
    cases r with
    | lst ha r => exact .inl ⟨_, rfl, ⟨_, .inl (.inl (k2.sub _ _ ha))⟩, q Hs2 H1 _ (l1.trans l2) k2 (walk_lstD ha r)⟩
  | tup ds =>
    cases h3
    cases r with
    | tup ha r => exact .inr (.inl ⟨_, rfl, ⟨_, .inl (.inl (k2.sub _ _ ha))⟩, q Hs2 H1 _ (l1.trans l2) k2 (walk_tupD ha r)⟩)
  | str z =>
    cases h3
    cases r
    exact .inr (.inr ⟨z, rfl, q Hs2 H1 _ (l1.trans l2) k2 walk_strD⟩)
  | _ => cases h3
/-! ### range -/
def rangeD (lo : Int) (n : Nat) : List D := (List.range n).map fun (i : Nat) => .int (lo + (i : Int))
def rangeC (lo c : Int) (n : Nat) : List D := (List.range n).map fun (i : Nat) => .int (lo + (i : Int) * c)
theorem walk_rangeD {K : PySem.W.Frag} {Hs : Hp} {lo : Int} {n : Nat} : Walk (Itr lo n) (rangeD lo n).length (fun H => Le Hs H) (YD K Hs (rangeD lo n)) := by
  have e : (rangeD lo n).length = n := by unfold rangeD; simp
  rw [e]
  refine (walk_range (lo := lo) (n := n)).mono (fun H _ => trivial) fun i H x H' hi l ⟨e, h2⟩ => ?_
  refine ⟨.int (lo + (i : Int)), ?_, .inl ⟨e, by rw [h2]; exact .int _⟩⟩
  unfold rangeD
  rw [List.getElem?_map, List.getElem?_range hi]; rfl
theorem walk_rangeCD {K : PySem.W.Frag} {Hs : Hp} {lo c : Int} {n : Nat} : Walk (Itc lo c n) (rangeC lo c n).length (fun H => Le Hs H) (YD K Hs (rangeC lo c n)) := by
  have e : (rangeC lo c n).length = n := by unfold rangeC; simp
  rw [e]
  refine (walk_rangeC (lo := lo) (c := c) (n := n)).mono (fun H _ => trivial) fun i H x H' hi l ⟨e, h2⟩ => ?_
  refine ⟨.int (lo + (i : Int) * c), ?_, .inl ⟨e, by rw [h2]; exact .int _⟩⟩
  unfold rangeC
  rw [List.getElem?_map, List.getElem?_range hi]; rfl
/-- bounds of a range -/
def smallI (i : Int) : Bool := decide (-(2 ^ 62) ≤ i ∧ i < 2 ^ 62)
def rng1 : List D → Option (List D)
  | [.int j] => if smallI j = true then some (rangeD 0 j.toNat) else none
  | _ => none
def rng2 : List D → Option (List D)
  | [.int i, .int j] => if smallI i = true ∧ smallI j = true then some (rangeD i (j - i).toNat) else none
  | _ => none
def rng3 : List D → Option (List D)
  | [.int i, .int j, .int c] => if smallI i = true ∧ smallI j = true ∧ c = -1 then some (rangeC i (-1) (i - j).toNat) else none
  | _ => none
/-- arguments shared, then what is walked -/
def fWalk (r : List D → Option (List D)) (F : FL) : FI := fun e => match F e with
  | some (ds, e1) => match r ds with
    | some xs => some (xs, e1)
    | none => none
  | none => none
theorem walk_go {K : PySem.W.Frag} {r : List D → Option (List D)} {F : FL} {σ : St} {H : Hp} {R : It → Hp → Prop} {I : TA → TI} {P : List V → Hp → (It → Hp → Prop) → Prop} (hI : ∀ ta σ H R, I ta σ H R = ta σ H fun vs H1 => P vs H1 R)
    (go : ∀ Hs H vs ds xs, Le Hs H → RepL K Hs vs ds → r ds = some xs → (∀ J, Walk J xs.length (fun H => Le Hs H) (YD K Hs xs) → R J H) → P vs H R) (h : tDI K fx (fWalk r F) σ H R) : I (tDA K fx F) σ H R := by
  rw [hI]
  obtain ⟨Hs, e, B, ds, e', k, hf, q⟩ := h
  unfold fWalk at hf
  split at hf
  · rename_i as e1 h1
    split at hf
    · rename_i xs h2
      cases hf
      exact ⟨Hs, e, B, as, _, k, h1, fun Hs1 vs H1 l1 k1 r1 => go Hs1 H1 vs as _ k1.sub r1 h2 fun J w => q Hs1 H1 J l1 k1 w⟩
    · cases hf
  · cases hf
theorem small_of {i : Int} (h : smallI i = true) : -(2 ^ 62) ≤ i ∧ i < 2 ^ 62 := by simpa [smallI] using h
theorem di_range1 {tg a : Expr} {F : FL} {p pos : Pos} (hg : Gl X "range") (hm : X.mg "range" = none) (ha : DA X fx [a] F) (hs : starEach [a] X.env = [(false, eval a X.env)] := by rfl) : DI X fx tg (.Call (.Name "range" p) [a] [] pos) (fWalk rng1 F) :=
  pi_imp (pi_range1 hg hm ha hs) fun σ H R => walk_go (I := iRng1) (P := fun vs H1 R => ∃ j : Int, vs = [.int j] ∧ -(2 ^ 62) ≤ j ∧ j < 2 ^ 62 ∧ R (Itr 0 j.toNat) H1) (fun _ _ _ _ => rfl) fun Hs H vs ds xs l r h q => by
    unfold rng1 at h
    split at h
    · split at h
      · rename_i j w
        cases h
        cases r with
        | cons r1 r2 =>
          cases r1; cases r2
          exact ⟨j, rfl, (small_of w).1, (small_of w).2, q _ walk_rangeD⟩
      · cases h
    · cases h
theorem di_range2 {tg a b : Expr} {F : FL} {p pos : Pos} (hg : Gl X "range") (hm : X.mg "range" = none) (ha : DA X fx [a, b] F) (hs : starEach [a, b] X.env = [(false, eval a X.env), (false, eval b X.env)] := by rfl) (hs2 : starEach [b] X.env = [(false, eval b X.env)] := by rfl) :
    DI X fx tg (.Call (.Name "range" p) [a, b] [] pos) (fWalk rng2 F) :=
  pi_imp (pi_range2 hg hm ha hs hs2) fun σ H R => walk_go (I := iRng2) (P := fun vs H1 R => ∃ i j : Int, vs = [.int i, .int j] ∧ (-(2 ^ 62) ≤ i ∧ i < 2 ^ 62 ∧ -(2 ^ 62) ≤ j ∧ j < 2 ^ 62) ∧ R (Itr i (j - i).toNat) H1) (fun _ _ _ _ => rfl) fun Hs H vs ds xs l r h q => by
    unfold rng2 at h
    split at h
    · split at h
      · rename_i i j w
        cases h
        cases r with
        | cons r1 r2 =>
          cases r2 with
          | cons r2 r3 =>
            cases r1; cases r2; cases r3
            exact ⟨i, j, rfl, ⟨(small_of w.1).1, (small_of w.1).2, (small_of w.2).1, (small_of w.2).2⟩, q _ walk_rangeD⟩
      · cases h
    · cases h
theorem di_range3 {tg a b c : Expr} {F : FL} {p pos : Pos} (hg : Gl X "range") (hm : X.mg "range" = none) (ha : DA X fx [a, b, c] F) (hs : starEach [a, b, c] X.env = (false, eval a X.env) :: starEach [b, c] X.env := by rfl) (hpl : (backTo pos (starEach [b, c] X.env)).any (·.1) = false := by rfl) :
    DI X fx tg (.Call (.Name "range" p) [a, b, c] [] pos) (fWalk rng3 F) :=
  pi_imp (pi_range3 hg hm ha hs hpl) fun σ H R => walk_go (I := iRng3) (P := fun vs H1 R => ∃ (i j c : Int) (n : Nat), vs = [.int i, .int j, .int c] ∧ RgC i j c n ∧ R (Itc i c n) H1) (fun _ _ _ _ => rfl) fun Hs H vs ds xs l r h q => by
    unfold rng3 at h
    split at h
    · split at h
      · rename_i i j c w
        cases h
        obtain ⟨w1, w2, rfl⟩ := w
        cases r with
        | cons r1 r2 =>
          cases r2 with
          | cons r2 r3 =>
            cases r3 with
            | cons r3 r4 =>
              cases r1; cases r2; cases r3; cases r4
              exact ⟨i, j, -1, _, rfl, RgC.neg (small_of w1).1 (small_of w1).2 (small_of w2).1 (small_of w2).2, q _ walk_rangeCD⟩
      · cases h
    · cases h
/-! ### zip -/
def zipD : List D → Option (List D)
  | [.lst xs, .lst ys] => some ((xs.zip ys).map fun p => .tup [p.1, p.2])
  | [.tup xs, .tup ys] => some ((xs.zip ys).map fun p => .tup [p.1, p.2])
  | _ => none
theorem zip_get {xs ys : List D} {i : Nat} {x y : D} (hx : xs[i]? = some x) (hy : ys[i]? = some y) : ((xs.zip ys).map fun p => D.tup [p.1, p.2])[i]? = some (.tup [x, y]) := by
  rw [List.getElem?_map, (List.getElem?_zip_eq_some (z := (x, y))).mpr ⟨hx, hy⟩]; rfl
theorem walk_zipD {K : PySem.W.Frag} {Hs : Hp} {a b : Addr} {xs ys : List V} {ds es : List D} (ha : Hs a = some (.lst xs)) (hb : Hs b = some (.lst ys)) (ra : RepL K Hs xs ds) (rb : RepL K Hs ys es) :
    Walk (Itz K a b) ((ds.zip es).map fun p => D.tup [p.1, p.2]).length (fun H => Le Hs H) (YD K Hs ((ds.zip es).map fun p => D.tup [p.1, p.2])) := by
  have e : ((ds.zip es).map fun p => D.tup [p.1, p.2]).length = min xs.length ys.length := by rw [List.length_map, List.length_zip, ra.length, rb.length]
  refine (walk_zip (K := K) (a := a) (b := b) (xs := xs) (ys := ys) e).mono (fun H l => ⟨.inl (.inl (l _ _ ha)), .inl (.inl (l _ _ hb))⟩) fun i H v H' hi l ⟨T, x, y, h1, h2, h3, h4, h5⟩ => ?_
  obtain ⟨d, d1, d2⟩ := ra.getV h4
  obtain ⟨d', d1', d2'⟩ := rb.getV h5
  exact ⟨_, zip_get d1 d1', .inr ⟨T, [x, y], [d, d'], h1, h2, h3, .cons d2 (.cons d2' .nil), rfl⟩⟩
theorem walk_zipTD {K : PySem.W.Frag} {Hs : Hp} {a b : Addr} {xs ys : List V} {ds es : List D} (ha : Hs a = some (.tup xs)) (hb : Hs b = some (.tup ys)) (ra : RepL K Hs xs ds) (rb : RepL K Hs ys es) :
    Walk (RZ.ItzT K a b) ((ds.zip es).map fun p => D.tup [p.1, p.2]).length (fun H => Le Hs H) (YD K Hs ((ds.zip es).map fun p => D.tup [p.1, p.2])) := by
  have e : ((ds.zip es).map fun p => D.tup [p.1, p.2]).length = min xs.length ys.length := by rw [List.length_map, List.length_zip, ra.length, rb.length]
  rw [e]
  refine ⟨fun i H hi l => ?_, fun H l => ⟨xs, ys, .inl (.inl (l _ _ ha)), .inl (.inl (l _ _ hb)), by omega⟩, fun i H v H' hi l ⟨T, x, y, h1, h2, h3, h4, h5⟩ => ?_⟩
  · have h1 : i < xs.length := by omega
    have h2 : i < ys.length := by omega
    exact ⟨xs, ys, xs[i], ys[i], .inl (.inl (l _ _ ha)), .inl (.inl (l _ _ hb)), by simp [h1], by simp [h2]⟩
  · obtain ⟨d, d1, d2⟩ := ra.getV (h4 xs (.inl (.inl (l _ _ ha))))
    obtain ⟨d', d1', d2'⟩ := rb.getV (h5 ys (.inl (.inl (l _ _ hb))))
    exact ⟨_, zip_get d1 d1', .inr ⟨T, [x, y], [d, d'], h1, h2, h3, .cons d2 (.cons d2' .nil), rfl⟩⟩
theorem di_zip {e e2 : Expr} {F : FL} {p pos tpos : Pos} {elts : List Expr} {kk : Nat} (hg : Gl X "zip") (hm : X.mg "zip" = none) (ha : DA X fx [e, e2] F)
    (hs : starEach [e, e2] X.env = (false, eval e X.env) :: starEach [e2] X.env := by rfl) (hpl : (backTo pos (starEach [e2] X.env)).any (·.1) = false := by rfl) :
    DI X fx (.Tuple elts kk tpos) (.Call (.Name "zip" p) [e, e2] [] pos) (fWalk zipD F) :=
  pi_imp (RZ.pi_zipA hg hm ha hs hpl) fun σ H R => walk_go (I := RZ.iZipA X.K) (P := fun vs H1 R => ∃ a b xs ys, vs = [.ref a, .ref b] ∧ ((SqL X.K H1 a xs ∧ SqL X.K H1 b ys ∧ R (Itz X.K a b) H1) ∨ (SqT X.K H1 a xs ∧ SqT X.K H1 b ys ∧ R (RZ.ItzT X.K a b) H1))) (fun _ _ _ _ => rfl) fun Hs H vs ds xs l r h q => by
    unfold zipD at h
    split at h
    · cases h
      cases r with
      | cons r1 r2 =>
        cases r2 with
        | cons r2 r3 =>
          cases r3
          cases r1 with
          | lst ha ra =>
            cases r2 with
            | lst hb rb => exact ⟨_, _, _, _, rfl, .inl ⟨.inl (.inl (l _ _ ha)), .inl (.inl (l _ _ hb)), q _ (walk_zipD ha hb ra rb)⟩⟩
    · cases h
      cases r with
      | cons r1 r2 =>
        cases r2 with
        | cons r2 r3 =>
          cases r3
          cases r1 with
          | tup ha ra =>
            cases r2 with
            | tup hb rb => exact ⟨_, _, _, _, rfl, .inr ⟨.inl (.inl (l _ _ ha)), .inl (.inl (l _ _ hb)), q _ (walk_zipTD ha hb ra rb)⟩⟩
    · cases h
end
end DD

namespace DD
open PySem PySem.Spec PyProof.Rows L2
section
variable {X : Cx} {fx : Fx}
/-! ### enumerate of a tuple -/
theorem enum_one {x : Value} {ob : Obj} {Hv : Heap → Prop} (Bg : Begins x ob Hv) : Meets (Builtin.«enumerate.__new__» ⟨[.type "enumerate", x], []⟩) (fun _ R s => Hv s.heap ∧
      R (.ok (.ret (.ref (s.heap.push ob).objs.size))) { s with heap := (s.heap.push ob).push { cls := .type "enumerate", data := .fields #[.none, .bool false, .ref s.heap.objs.size, rawInt 0, .none, .none] } }) :=
  .of_wp fun prog w A R st hh => by
    obtain ⟨hp, g, d, tk, os⟩ := st; obtain ⟨h1, h⟩ := hh
    have hsub := sub_enumerate
    have itx : ∀ {A2 : Around} {E : Value → Shared → Prop} {Q : Value → Shared → Prop}, Q (.ref hp.objs.size) ⟨hp.push ob, g, d, tk, os⟩ → wpAny (model prog w) A2 (pyIter x) Q E ⟨hp, g, d, tk, os⟩ :=
      fun q => Bg.iter prog w _ _ ⟨hp, g, d, tk, os⟩ _ h1 q
    wp_walk using itx
    refine wpAny_stack_any fun sk => wpAny_pure ?_
    split
    · rename_i c _ _ _ _ _
      cases (c == Value.type "enumerate")
      · wp_walk using itx
        exact ⟨_, rfl, h⟩
      · wp_walk using itx
        exact ⟨_, rfl, h⟩
    · wp_walk using itx
      exact ⟨_, rfl, h⟩
theorem call_enumT {prog : Program} {w : World} {A : Around} {E : Value → Shared → Prop} {s : Shared} {x : Value} {ob : Obj} {Hv : Heap → Prop} {Q : Value → Shared → Prop} (Bg : Begins x ob Hv) (h1 : Hv s.heap)
    (h : ∀ h2, IsEnum h2 (s.heap.objs.size + 1) s.heap.objs.size 0 .none → h2.get? s.heap.objs.size = some ob → (∀ b u, s.heap.get? b = some u → h2.get? b = some u) → Q (.ref (s.heap.objs.size + 1)) { s with heap := h2 }) :
    wpAny (model prog w) A (call (.type "enumerate") [x]) Q E s := by
  refine callType_new F.called_enumerate (by decide) (F.typeCall_enumerate_1 _) (F.newCall_enumerate_1 _) (fun obj => F.args_object_init_2 obj _) F.entry_enumerate_new (enum_one Bg) ⟨h1, ?_⟩
  have hz : (s.heap.push ob).objs.size = s.heap.objs.size + 1 := Heap.size_push ..
  generalize hy : (s.heap.push ob).push { cls := .type "enumerate", data := .fields #[.none, .bool false, .ref s.heap.objs.size, rawInt 0, .none, .none] } = hn
  have he : hn.get? (s.heap.objs.size + 1) = some { cls := .type "enumerate", data := .fields #[.none, .bool false, .ref s.heap.objs.size, rawInt 0, .none, .none] } := by
    rw [← hy, ← hz]; exact Heap.get?_push_size _ rfl
  show _ ∧ _
  rw [hz]
  exact ⟨⟨_, he, rfl⟩, h hn he (by rw [← hy]; exact Heap.get?_push_of_some _ (Heap.get?_push_size _ Bg.free)) fun b u z => by rw [← hy]; exact Heap.get?_push_of_some _ (Heap.get?_push_of_some _ z)⟩
/-- the tuple at a, each item in a new pair with its number -/
def IteT (K : PySem.W.Frag) (a : Addr) : It where
  go i H := ∃ (xs : List V) (x : V), SqT K H a xs ∧ xs[i]? = some x
  yld i H v H' := ∃ T x, v = .ref T ∧ H T = none ∧ H' = upd H T (.tup [.int (i : Nat), x]) ∧ ∀ xs, SqT K H a xs → xs[i]? = some x
  stop i H := ∃ xs : List V, SqT K H a xs ∧ xs.length ≤ i
theorem turn_enumT {P : Program} {w : World} {K : PySem.W.Frag} {elts : List Expr} {kk : Nat} {tpos : Pos} (a e it : Addr) (hei : e ≠ it) (hai : a ≠ it) (hae : a ≠ e) :
    Turn P w K (.Tuple elts kk tpos) (IteT K a) [e, it] e (fun i h => (∃ old, IsEnum h e it ((i : Nat) : Int) old) ∧ h.IsTupleIter it a i) where
  mem := by simp
  obj := fun i h st b hb => by
    obtain ⟨⟨old, he⟩, ⟨o, ho, hc, hd⟩⟩ := st
    rcases (show b = e ∨ b = it by simpa using hb) with rfl | rfl
    · exact ⟨_, he, fun v q => nomatch q⟩
    · exact ⟨o, ho, fun v q => by rw [hd] at q; cases q⟩
  keep := fun i h h' st k => let ⟨⟨old, he⟩, hi⟩ := st; ⟨⟨old, k e (by simp) _ he⟩, hi.at fun o q => k it (by simp) o q⟩
  item := by
    intro X hP hw hK hc i pins s σ H E I hf st hg
    subst hP hw hK
    obtain ⟨⟨old, he⟩, hit⟩ := st
    obtain ⟨xs, x, hq, hx⟩ := hg
    obtain ⟨its, rv, p, hz⟩ := I.tuple hq
    obtain ⟨u, hu, ru⟩ := rv.get hx
    have hel : e < s.heap.objs.size := Heap.lt_size he
    have hil : it < s.heap.objs.size := by obtain ⟨_, q, _⟩ := hit; exact Heap.lt_size q
    have hD := Draws.tuple (prog := X.prog) (w := X.w) (A := X.A.in1) (I.ok.hd hc) it a hai its.toArray
    have hi : i < its.toArray.size := by
      have := (List.getElem?_eq_some_iff.mp hu).1
      simpa using this
    refine wpAny_pyNext_enum_itemD hD he ⟨hit, show s.heap.IsTuple a its.toArray from p⟩ hi hei (by simp [hei, Ne.symm hae]) fun u' h' tk hu' ho hs' hT hsz hk => ?_
    have eu : u' = u := by
      have z : its[i]? = some u' := by simpa using hu'
      rw [hu] at z; exact (Option.some.inj z).symm
    subst eu
    refine ⟨_, rfl, wpAny_letOwnedTupleGo_enum (s := { s with heap := h', toks := tk + 1 }) ho fun h'' he' sb => ?_⟩
    have hT2 : h''.get? s.heap.objs.size = some { cls := .type "tuple", data := .seq #[.int i tk, u'] } := (sb.2 _ (Nat.ne_of_gt hel)).trans hT
    have new : ObjOk X.prog X.w (upd H s.heap.objs.size (.tup [.int (i : Nat), x])) h'' s.heap.objs.size (.tup [.int (i : Nat), x]) :=
      ⟨by show 2 ≤ sizeLine; decide, [.int i tk, u'], .cons ⟨_, rfl⟩ (.cons ru .nil), ⟨_, hT2, rfl, _, rfl⟩⟩
    have I1 : Inv X pins σ (upd H s.heap.objs.size (.tup [.int (i : Nat), x])) { s with heap := h'', toks := tk + 1 } :=
      I.turnedNew (ch := [e, it]) (fun b ob hb q => (sb.2 b (fun z => hb (by simp [z]))).trans (hk b ob (fun z => hb (by simp [z])) (fun z => hb (by simp [z])) q)) hf (Nat.le_refl _) new
    refine ⟨.ref s.heap.objs.size, _, I1, rfl, ⟨_, x, rfl, I.hok.fresh (Nat.le_refl _), rfl, fun ys hy => by rw [I.tuple_inj hy hq]; exact hx⟩, ⟨⟨u', ?_⟩, hs'.1.at fun o q => (sb.2 it (Ne.symm hei)).trans q⟩, fun b hb => ?_⟩
    · have e1 : ((i + 1 : Nat) : Int) = (i : Int) + 1 := by omega
      rw [e1]; exact he'
    · have hb' : b < s.heap.objs.size := by
        rcases (show b = e ∨ b = it by simpa using hb) with z | z
        · rw [z]; exact hel
        · rw [z]; exact hil
      rw [upd_ne (Nat.ne_of_lt hb')]
      exact (hf b hb).1
  done := by
    intro X hP hw hK hc i pins s σ H E I hf st hg
    subst hP hw hK
    obtain ⟨⟨old, he⟩, hit⟩ := st
    obtain ⟨xs, hq, hx⟩ := hg
    obtain ⟨its, rv, p, hz⟩ := I.tuple hq
    obtain ⟨f0, f1, f2, f3, f4, f5⟩ := hf it (by simp)
    have hl := rv.length
    obtain ⟨o, ho, hoc, hod⟩ := id hit
    unfold pyNext
    have hT : s.TypeIs (.ref e) "enumerate" := ⟨_, he, rfl⟩
    refine wpAny_bind (wpAny_attempt (wpAny_callSpecial?_slot (name := Str.ofString "__next__") hT F.slot_enumerate_next
      (wpAny_call_entry F.slot_enumerate_next hT F.entry_enumerate_next ?_ (F.args_enumerate_next_1 _))))
    show wpAny _ _ (field (.ref e) 2 >>= _) _ _ _
    refine wpAny_bind (wpAny_field he rfl (x := .ref it) rfl ?_)
    refine wpAny_bind (wpAny_nextOf_tuple_end (I.ok.hd hc) hit (show s.heap.IsTuple a its.toArray from p) (by simp; omega) fun h' x he' hx' => ?_)
    obtain ⟨o', ho', hc'⟩ := hx'
    refine wpAny_bind (wpAny_isInstance (T := "StopIteration") (b := true) ⟨o', ho', hc'⟩ isSubtype_stop ?_)
    exact wpAny_pure ⟨rfl, I.turned (t' := s.toks) (fun b o hb q => he' b o hb q) f0 f1 f3 f4 f5⟩
  self := fun A i s Q E st h => let ⟨⟨_, he⟩, _⟩ := st; wpAny_pyIter_enum he h
def iEnumA (K : PySem.W.Frag) (ta : TA) : TI := fun σ H R => ta σ H fun vs H1 => ∃ a xs, vs = [.ref a] ∧ ((SqL K H1 a xs ∧ R (Ite K a) H1) ∨ (SqT K H1 a xs ∧ R (IteT K a) H1))
theorem pi_enumA {e : Expr} {ta : TA} {p pos tpos : Pos} {elts : List Expr} {kk : Nat} (hg : Gl X "enumerate") (hm : X.mg "enumerate" = none) (ha : PA X [e] ta) (hs : starEach [e] X.env = [(false, eval e X.env)] := by rfl) :
    PI X (.Tuple elts kk tpos) (.Call (.Name "enumerate" p) [e] [] pos) (iEnumA X.K ta) := by
  refine ⟨fun pins s σ H R I h => ?_⟩
  refine Call_ (ld_blt I hg hm boot_enumerate (PyProof.Rows.callWith_type1 (thn (ha.run pos pins s σ H _ I h) fun us s1 ⟨vs, H1, I1, r1, q1⟩ => ?_) hs rfl))
  obtain ⟨a, xs, ex, q1⟩ := q1
  subst ex
  cases r1 with
  | cons r rr =>
    cases rr
    cases r
    have two : ∀ b ∈ [s1.heap.objs.size + 1, s1.heap.objs.size], FpOk X pins H1 b := fun b hb => by
      have hle : s1.heap.objs.size ≤ b := by
        rcases (show b = s1.heap.objs.size + 1 ∨ b = s1.heap.objs.size by simpa using hb) with z | z
        · rw [z]; exact Nat.le_add_right _ _
        · rw [z]; exact Nat.le_refl _
      exact I1.fpOk hle (I1.hok.fresh hle)
    rcases q1 with ⟨hq, q⟩ | ⟨hq, q⟩
    · obtain ⟨its, rv, p', hz⟩ := I1.list hq
      refine call_enumerate_list p'.isList fun h' he hit hsz hk => wpAny_pyIter_enum he ?_
      have I2 : Inv X pins σ H1 { s1 with heap := h' } := I1.kept (t' := s1.toks) hk
      exact ⟨s1.heap.objs.size + 1, [s1.heap.objs.size + 1, s1.heap.objs.size], _, _, H1, rfl, I2, turn_enum a (s1.heap.objs.size + 1) s1.heap.objs.size, ⟨⟨.none, he⟩, hit, Nat.succ_ne_self _⟩, two, q⟩
    · obtain ⟨its, rv, p', hz⟩ := I1.tuple hq
      obtain ⟨o, ho, _⟩ := id p'
      have la : a < s1.heap.objs.size := Heap.lt_size ho
      refine call_enumT (begins_tuple a its.toArray) (show s1.heap.IsTuple a its.toArray from p') fun h' he hit hk => wpAny_pyIter_enum he ?_
      have I2 : Inv X pins σ H1 { s1 with heap := h' } := I1.kept (t' := s1.toks) hk
      exact ⟨s1.heap.objs.size + 1, [s1.heap.objs.size + 1, s1.heap.objs.size], _, _, H1, rfl, I2, turn_enumT a (s1.heap.objs.size + 1) s1.heap.objs.size (Nat.succ_ne_self _) (Nat.ne_of_lt la) (Nat.ne_of_lt (Nat.lt_succ_of_lt la)), ⟨⟨.none, he⟩, ⟨_, hit, rfl, rfl⟩⟩, two, q⟩
def numD (n : Nat) : List D → List D
  | [] => []
  | d :: ds => .tup [.int n, d] :: numD (n + 1) ds
theorem numD_len : ∀ (ds : List D) (n : Nat), (numD n ds).length = ds.length
  | [], _ => rfl
  | d :: ds, n => by rw [numD, List.length_cons, numD_len ds]; rfl
theorem numD_get : ∀ {ds : List D} {n i : Nat} {d : D}, ds[i]? = some d → (numD n ds)[i]? = some (.tup [.int ((n + i : Nat) : Int), d])
  | [], _, _, _, h => by simp at h
  | d :: ds, n, 0, _, h => by simp at h; subst h; rfl
  | d :: ds, n, i + 1, _, h => by
    rw [numD, List.getElem?_cons_succ, numD_get (ds := ds) (n := n + 1) (i := i) (by simpa using h)]
    have z : n + 1 + i = n + (i + 1) := by omega
    rw [z]
def enumD : List D → Option (List D)
  | [.lst xs] => some (numD 0 xs)
  | [.tup xs] => some (numD 0 xs)
  | _ => none
theorem walk_enumD {K : PySem.W.Frag} {Hs : Hp} {a : Addr} {xs : List V} {ds : List D} (ha : Hs a = some (.lst xs)) (ra : RepL K Hs xs ds) : Walk (Ite K a) (numD 0 ds).length (fun H => Le Hs H) (YD K Hs (numD 0 ds)) := by
  rw [numD_len, ← ra.length]
  refine (walk_enum (K := K) (a := a) (xs := xs)).mono (fun H l => .inl (.inl (l _ _ ha))) fun i H v H' hi l ⟨T, x, y, h1, h2, h3, h4, h5⟩ => ?_
  cases h4
  obtain ⟨d, d1, d2⟩ := ra.getV h5
  have z := numD_get (n := 0) d1
  rw [Nat.zero_add] at z
  exact ⟨_, z, .inr ⟨T, [_, y], [_, d], h1, h2, h3, .cons (.int _) (.cons d2 .nil), rfl⟩⟩
theorem walk_enumTD {K : PySem.W.Frag} {Hs : Hp} {a : Addr} {xs : List V} {ds : List D} (ha : Hs a = some (.tup xs)) (ra : RepL K Hs xs ds) : Walk (IteT K a) (numD 0 ds).length (fun H => Le Hs H) (YD K Hs (numD 0 ds)) := by
  rw [numD_len, ← ra.length]
  refine ⟨fun i H hi l => ⟨xs, xs[i], .inl (.inl (l _ _ ha)), by simp [hi]⟩, fun H l => ⟨xs, .inl (.inl (l _ _ ha)), Nat.le_refl _⟩, fun i H v H' hi l ⟨T, y, h1, h2, h3, h5⟩ => ?_⟩
  obtain ⟨d, d1, d2⟩ := ra.getV (h5 xs (.inl (.inl (l _ _ ha))))
  have z := numD_get (n := 0) d1
  rw [Nat.zero_add] at z
  exact ⟨_, z, .inr ⟨T, [_, y], [_, d], h1, h2, h3, .cons (.int _) (.cons d2 .nil), rfl⟩⟩
theorem di_enum {e : Expr} {F : FL} {p pos tpos : Pos} {elts : List Expr} {kk : Nat} (hg : Gl X "enumerate") (hm : X.mg "enumerate" = none) (ha : DA X fx [e] F) (hs : starEach [e] X.env = [(false, eval e X.env)] := by rfl) :
    DI X fx (.Tuple elts kk tpos) (.Call (.Name "enumerate" p) [e] [] pos) (fWalk enumD F) :=
  pi_imp (pi_enumA hg hm ha hs) fun σ H R => walk_go (I := iEnumA X.K) (P := fun vs H1 R => ∃ a xs, vs = [.ref a] ∧ ((SqL X.K H1 a xs ∧ R (Ite X.K a) H1) ∨ (SqT X.K H1 a xs ∧ R (IteT X.K a) H1))) (fun _ _ _ _ => rfl) fun Hs H vs ds xs l r h q => by
    unfold enumD at h
    split at h
    · cases h
      cases r with
      | cons r1 r2 =>
        cases r2
        cases r1 with
        | lst ha ra => exact ⟨_, _, rfl, .inl ⟨.inl (.inl (l _ _ ha)), q _ (walk_enumD ha ra)⟩⟩
    · cases h
      cases r with
      | cons r1 r2 =>
        cases r2
        cases r1 with
        | tup ha ra => exact ⟨_, _, rfl, .inr ⟨.inl (.inl (l _ _ ha)), q _ (walk_enumTD ha ra)⟩⟩
    · cases h
end
end DD

namespace DD
open PySem PySem.Spec PyProof.Rows L2
section
variable {X : Cx} {fx : Fx}
/-! ### for -/
def loopF (g : GD) (S : FS) : List D → DEnv → Option Out
  | [], e => some (.nx e)
  | d :: ds, e => match g d e with
    | some e1 => match S e1 with
      | some (.nx e2) => loopF g S ds e2
      | some (.ct e2) => loopF g S ds e2
      | some (.bk e2) => some (.nx e2)
      | some (.rt t e2) => some (.rt t e2)
      | none => none
    | none => none
def sFor (I : FI) (g : GD) (S : FS) : FS := fun e => match I e with
  | some (ds, e1) => loopF g S ds e1
  | none => none
theorem yd_ok {K : PySem.W.Frag} {Hs0 Hs H H' : Hp} {σ : St} {e : DEnv} {B : List (V × D)} {ds : List D} {i : Nat} {x : V} (l : Le Hs0 Hs) (k : Ok K fx Hs H σ e B) (y : YD K Hs0 ds i H x H') :
    ∃ d Hs', ds[i]? = some d ∧ Le Hs Hs' ∧ Ok K fx Hs' H' σ e B ∧ Rep K Hs' x d := by
  obtain ⟨d, h1, h2⟩ := y
  rcases h2 with ⟨rfl, r⟩ | ⟨T, vs, es, rfl, n, rfl, r, rfl⟩
  · exact ⟨d, Hs, h1, Le.refl, k, r.mono l⟩
  · have q : Le Hs (upd Hs T (.tup vs)) := Le.upd (k.hsn n)
    exact ⟨_, _, h1, q, k.newSh n, .tup upd_same (r.mono (l.trans q))⟩
theorem ds_for {tg iter : Expr} {body : List Stmt} {I : FI} {g : GD} {S : FS} {pos : Pos} (hp : PassesOwn (model X.prog X.w) X.A X.env X.xe) (hc : X.calm = true) (hi : DI X fx tg iter I) (hg : DG X fx tg g) (hb : DSs X fx body S)
    (hs : ∀ x, foldedSetIterable iter X.env x = pure x := by intro _; rfl) : DS X fx (.For tg iter body [] pos) (sFor I g S) := ps_imp (ps_for hp hc hi hg hb hs) fun Dn σ H ⟨Hs, e, B, o, k, hf, q⟩ => by
  unfold sFor at hf
  split at hf
  · rename_i ds e1 h1
    refine ⟨Hs, e, B, ds, e1, k, h1, fun Hs1 H1 J l1 k1 w => ?_⟩
    refine for_it w (fun i σ' H' => ∃ Hs' e', Le Hs1 Hs' ∧ Ok X.K fx Hs' H' σ' e' B ∧ loopF g S (ds.drop i) e' = some o) ⟨Hs1, e1, Le.refl, k1, by rw [List.drop_zero]; exact hf⟩ (fun i σ' H' _ ⟨Hs', e', l', k', _⟩ => l'.trans k'.sub) ?_ ?_
    · rintro i x σ' H' H'' hi ⟨Hs', e', l', k', hl⟩ y
      obtain ⟨d, Hs2, y1, y2, y3, y4⟩ := yd_ok l' k' y
      have hd : ds.drop i = d :: ds.drop (i + 1) := by
        have z := List.getElem?_eq_some_iff.mp y1
        rw [List.drop_eq_getElem_cons hi, z.2]
      rw [hd, loopF] at hl
      split at hl
      · rename_i e2 h2
        refine ⟨Hs2, e', B, d, e2, y3, y4, h2, fun Hs3 σ3 H3 l3 k3 => ?_⟩
        have ll : Le Hs1 Hs3 := l'.trans (y2.trans l3)
        cases h3 : S e2 with
        | none => rw [h3] at hl; cases hl
        | some o2 =>
          rw [h3] at hl
          refine ⟨Hs3, e2, B, o2, k3, h3, ?_⟩
          cases o2 with
          | nx e3 => exact fun Hs4 σ4 H4 l4 k4 => ⟨Hs4, e3, ll.trans l4, k4, hl⟩
          | ct e3 => exact fun Hs4 σ4 H4 l4 k4 => ⟨Hs4, e3, ll.trans l4, k4, hl⟩
          | bk e3 =>
            cases hl
            exact fun Hs4 σ4 H4 l4 k4 => q Hs4 σ4 H4 (l1.trans (ll.trans l4)) k4
          | rt t e3 =>
            cases hl
            exact fun Hs4 σ4 v H4 l4 k4 => q Hs4 σ4 v H4 (l1.trans (ll.trans l4)) k4
      · cases hl
    · rintro σ' H' ⟨Hs', e', l', k', hl⟩
      rw [List.drop_length, loopF] at hl
      cases hl
      exact q Hs' σ' H' (l1.trans l') k'
  · cases hf
/-! ### while -/
def iterW (A : FB) (S : FS) : Nat → DEnv → Option Out
  | 0, _ => none
  | n + 1, e => match A e with
    | some (true, e1) => match S e1 with
      | some (.nx e2) => iterW A S n e2
      | some (.ct e2) => iterW A S n e2
      | some (.bk e2) => some (.nx e2)
      | some (.rt t e2) => some (.rt t e2)
      | none => none
    | some (false, e1) => some (.nx e1)
    | none => none
open Classical in
noncomputable def sWhile (A : FB) (S : FS) : FS := fun e => if h : ∃ (n : Nat) (o : Out), iterW A S n e = some o then some h.choose_spec.choose else none
theorem iterW_mono {A : FB} {S : FS} : ∀ {n m : Nat} {e : DEnv} {o : Out}, n ≤ m → iterW A S n e = some o → iterW A S m e = some o
  | 0, _, _, _, _, h => by cases h
  | n + 1, 0, _, _, l, _ => absurd l (by omega)
  | n + 1, m + 1, e, o, l, h => by
    rw [iterW] at h ⊢
    split at h
    · rename_i e1 h1
      split at h
      · rename_i e2 h2
        exact iterW_mono (by omega) h
      · rename_i e2 h2
        exact iterW_mono (by omega) h
      · exact h
      · exact h
      · cases h
    · exact h
    · cases h
theorem sWhile_of {A : FB} {S : FS} {n : Nat} {e : DEnv} {o : Out} (h : iterW A S n e = some o) : sWhile A S e = some o := by
  have hx : ∃ (n : Nat) (o : Out), iterW A S n e = some o := ⟨n, o, h⟩
  unfold sWhile
  rw [dif_pos hx]
  have h2 := hx.choose_spec.choose_spec
  have a := iterW_mono (Nat.le_max_left n hx.choose) h
  have b := iterW_mono (Nat.le_max_right n hx.choose) h2
  rw [a] at b
  exact congrArg some (Option.some.inj b).symm
theorem sWhile_get {A : FB} {S : FS} {e : DEnv} {o : Out} (h : sWhile A S e = some o) : ∃ n, iterW A S n e = some o := by
  unfold sWhile at h
  split at h
  · rename_i hx
    cases h
    exact ⟨_, hx.choose_spec.choose_spec⟩
  · cases h
theorem ds_while {c : Expr} {body : List Stmt} {A : FB} {S : FS} {pos : Pos} (hp : PassesOwn (model X.prog X.w) X.A X.env X.xe) (hc : DT X fx c A) (hb : DSs X fx body S) : DS X fx (.While c body [] pos) (sWhile A S) := ps_imp (ps_while hp hc hb) fun Dn σ H ⟨Hs, e, B, o, k, hf, q⟩ => by
  obtain ⟨n, hn⟩ := sWhile_get hf
  refine ⟨fun m σ' H' => ∃ Hs' e', Le Hs Hs' ∧ Ok X.K fx Hs' H' σ' e' B ∧ iterW A S m e' = some o, ⟨n, Hs, e, Le.refl, k, hn⟩, ?_⟩
  rintro m σ' H' ⟨Hs', e', l', k', hm⟩
  cases m with
  | zero => cases hm
  | succ m =>
    rw [iterW] at hm
    split at hm
    · rename_i e1 h1
      refine ⟨Hs', e', B, true, e1, k', h1, fun Hs2 H2 l2 k2 => ?_⟩
      show (if true = true then _ else _)
      rw [if_pos rfl]
      refine ⟨fun σ3 H3 => ∃ Hs3 e3, Le Hs Hs3 ∧ Ok X.K fx Hs3 H3 σ3 e3 B ∧ iterW A S m e3 = some o, fun σ3 H3 w => ⟨m, Nat.lt_succ_self _, w⟩, ?_⟩
      have ll := l'.trans l2
      cases h3 : S e1 with
      | none => rw [h3] at hm; cases hm
      | some o2 =>
        rw [h3] at hm
        refine ⟨Hs2, e1, B, o2, k2, h3, ?_⟩
        cases o2 with
        | nx e3 => exact fun Hs4 σ4 H4 l4 k4 => ⟨Hs4, e3, ll.trans l4, k4, hm⟩
        | ct e3 => exact fun Hs4 σ4 H4 l4 k4 => ⟨Hs4, e3, ll.trans l4, k4, hm⟩
        | bk e3 =>
          cases hm
          exact fun Hs4 σ4 H4 l4 k4 => q Hs4 σ4 H4 (ll.trans l4) k4
        | rt t e3 =>
          cases hm
          exact fun Hs4 σ4 v H4 l4 k4 => q Hs4 σ4 v H4 (ll.trans l4) k4
    · rename_i e1 h1
      cases hm
      refine ⟨Hs', e', B, false, _, k', h1, fun Hs2 H2 l2 k2 => ?_⟩
      show (if false = true then _ else _)
      rw [if_neg (by decide)]
      exact q Hs2 _ H2 (l'.trans l2) k2
    · cases hm
end
end DD

namespace DD
open PySem PySem.Spec PyProof.Rows L2
section
variable {X : Cx} {fx : Fx}
/-! ### slots forgotten, and known again -/
def wipeE (e : DEnv) : List Nat → DEnv
  | [] => e
  | v :: vs => (wipeE e vs).set v none
theorem wipeE_get {e : DEnv} {i : Nat} {s : Slot} : ∀ {vs : List Nat}, (wipeE e vs)[i]? = some (some s) → e[i]? = some (some s) ∧ i ∉ vs
  | [], h => ⟨h, by simp⟩
  | v :: vs, h => by
    rcases get_set h with ⟨_, z, _⟩ | ⟨ne, z⟩
    · cases z
    · obtain ⟨h1, h2⟩ := wipeE_get z
      exact ⟨h1, by simp [ne, h2]⟩
theorem wipeE_len {e : DEnv} : ∀ {vs : List Nat}, (wipeE e vs).length = e.length
  | [] => rfl
  | v :: vs => by rw [wipeE, List.length_set, wipeE_len]
theorem Ok.swap {K : PySem.W.Frag} {Hs H : Hp} {σ σ' : St} {e : DEnv} {B : List (V × D)} (k : Ok K fx Hs H σ e B) (hl : σ'.length = σ.length) (h : ∀ (i : Nat) (s : Slot), e[i]? = some (some s) → σ'[i]? = σ[i]?) : Ok K fx Hs H σ' e B :=
  ⟨k.len.trans hl.symm, k.sub, k.grow, k.ext, k.frame, k.lt, fun i s z => by rw [h i s z]; exact k.slot i s z, k.temp, fun i j s t v n a b c d => by rw [h i s a, h j t b]; exact k.ss i j s t v n a b c d,
    fun i s x a b c => by rw [h i s a]; exact k.st i s x a b c, k.tt, fun i s a b => by rw [h i s a]; exact k.ls i s a b⟩
theorem Ok.wipe {K : PySem.W.Frag} {Hs H : Hp} {σ : St} {e : DEnv} {B : List (V × D)} (vs : List Nat) (k : Ok K fx Hs H σ e B) : Ok K fx Hs H (wipe σ vs) (wipeE e vs) B :=
  (k.forget (wipeE e vs) wipeE_len fun i s z => (wipeE_get z).1).swap (wipe_length σ vs) fun i s z => wipe_out (wipeE_get z).2
def keepS (e : DEnv) (v : Nat) : Option Slot := match e[v]? with
  | some (some s) => if s.own = true then none else some s
  | _ => none
def unwipe (e1 e2 : DEnv) : List Nat → DEnv
  | [] => e2
  | v :: vs => (unwipe e1 e2 vs).set v (keepS e1 v)
theorem unwipe_len {e1 e2 : DEnv} : ∀ {vs : List Nat}, (unwipe e1 e2 vs).length = e2.length
  | [] => rfl
  | v :: vs => by rw [unwipe, List.length_set, unwipe_len]
theorem unwipe_get {e1 e2 : DEnv} {i : Nat} {s : Slot} : ∀ {vs : List Nat}, (unwipe e1 e2 vs)[i]? = some (some s) → (e1[i]? = some (some s) ∧ s.own = false) ∨ (i ∉ vs ∧ e2[i]? = some (some s))
  | [], h => .inr ⟨by simp, h⟩
  | v :: vs, h => by
    rcases get_set h with ⟨e, z, _⟩ | ⟨ne, z⟩
    · subst e
      unfold keepS at z
      split at z
      · rename_i t ht
        cases o : t.own with
        | true => rw [o, if_pos rfl] at z; cases z
        | false =>
          rw [o, if_neg (by decide)] at z
          cases z
          exact .inl ⟨ht, o⟩
      · cases z
    · rcases unwipe_get z with h | ⟨h1, h2⟩
      · exact .inl h
      · exact .inr ⟨by simp [ne, h1], h2⟩
theorem Ok.unwipe {K : PySem.W.Frag} {Hs0 H0 Hs1 H1 : Hp} {σ : St} {e1 e2 : DEnv} {B0 B1 : List (V × D)} {vs : List Nat} (k0 : Ok K fx Hs0 H0 σ e1 B0) (k1 : Ok K fx Hs1 H1 (L2.wipe σ vs) e2 B1) (l : Le Hs0 Hs1) : Ok K fx Hs1 H1 σ (unwipe e1 e2 vs) B1 := by
  have own : ∀ {i : Nat} {s : Slot}, (DD.unwipe e1 e2 vs)[i]? = some (some s) → s.own = true → i ∉ vs ∧ e2[i]? = some (some s) := fun {i s} z y => by
    rcases unwipe_get z with ⟨_, h⟩ | h
    · rw [h] at y; cases y
    · exact h
  refine ⟨by rw [unwipe_len, k1.len, wipe_length], k1.sub, k1.grow, k1.ext, k1.frame, k1.lt, fun i s z => ?_, k1.temp, fun i j s t v n a b c d => ?_, fun i s x a b c => ?_, k1.tt, fun i s a b => ?_⟩
  · rcases unwipe_get z with ⟨h1, h2⟩ | ⟨h1, h2⟩
    · obtain ⟨v, g1, _, g3⟩ := k0.slot i s h1
      exact ⟨v, g1, fun y => (by rw [h2] at y; cases y), fun y => (g3 y).mono l⟩
    · have := k1.slot i s h2
      rw [wipe_out h1] at this
      exact this
  · obtain ⟨a1, a2⟩ := own a c
    obtain ⟨b1, b2⟩ := own b d
    have := k1.ss i j s t v n a2 b2 c d
    rw [wipe_out a1, wipe_out b1] at this
    exact this
  · obtain ⟨a1, a2⟩ := own a b
    have := k1.st i s x a2 b c
    rw [wipe_out a1] at this
    exact this
  · rcases unwipe_get a with ⟨h1, h2⟩ | ⟨h1, h2⟩
    · exact k0.ls i s h1 b
    · have := k1.ls i s h2 b
      rw [wipe_out h1] at this
      exact this
/-- a temporary of our own is written -/
theorem Ok.tempWrite {K : PySem.W.Frag} {Hs H : Hp} {σ : St} {e : DEnv} {B : List (V × D)} {p : Addr} {d d' : D} {o : HO} (k : Ok K fx Hs H σ e ((.ref p, d) :: B)) (c' : Cell K Hs (upd H p o) p d') : Ok K fx Hs (upd H p o) σ e ((.ref p, d') :: B) := by
  obtain ⟨p', e1, c, n, g⟩ := k.temp _ List.mem_cons_self
  have e1 : V.ref p = .ref p' := e1
  cases e1
  have g : fx.H0 p = none := by simpa using g
  have own : ∀ {v : V} {b : Bool} {d : D}, v ≠ .ref p → OwnAt K fx Hs H v b d → OwnAt K fx Hs (upd H p o) v b d := fun {v b d} ne ⟨q, h1, c, h2, h3⟩ => by
    subst h1
    exact ⟨q, rfl, c.at_ Le.refl (upd_ne fun z => ne (by rw [z])), h2, h3⟩
  have tt := List.pairwise_cons.mp k.tt
  refine ⟨k.len, fun b u z => ?_, k.grow, k.ext, fun b u z1 z2 => ?_, fun b hb => ?_, fun i s z => ?_, fun x hx => ?_, k.ss, fun i s x z1 z2 z3 => ?_, List.pairwise_cons.mpr ⟨fun x hx => tt.1 x hx, tt.2⟩, k.ls⟩
  · rw [upd_ne (fun y => by subst y; rw [n] at z; cases z)]; exact k.sub b u z
  · rw [upd_ne (fun y => by subst y; rw [g] at z1; cases z1)]; exact k.frame b u z1 z2
  · by_cases hb' : b = p
    · subst hb'; exact ⟨_, upd_same⟩
    · rw [upd_ne hb']; exact k.lt b hb
  · obtain ⟨v, g1, g2, g3⟩ := k.slot i s z
    refine ⟨v, g1, fun y => own (fun w => ?_) (g2 y), g3⟩
    subst w
    exact k.st i s _ z y List.mem_cons_self g1
  · rcases List.mem_cons.mp hx with rfl | hx
    · exact ⟨p, rfl, c', n, by simpa using g⟩
    · exact own (fun w => tt.1 x hx w.symm) (k.temp x (List.mem_cons_of_mem _ hx))
  · rcases List.mem_cons.mp z3 with rfl | z3
    · exact k.st i s (.ref p, d) z1 z2 List.mem_cons_self
    · exact k.st i s x z1 z2 (List.mem_cons_of_mem _ z3)
/-! ### targets of a comprehension: they touch nothing but vs -/
def tDGw (K : PySem.W.Frag) (fx : Fx) (vs : List Nat) (g : GD) : TG := fun v σ H Q => ∃ Hs e B d e', Ok K fx Hs H σ e B ∧ Rep K Hs v d ∧ g d e = some e' ∧ ∀ Hs' σ' H', Le Hs Hs' → Ok K fx Hs' H' σ' e' B → wipe σ' vs = wipe σ vs → Q σ' H'
def DGw (X : Cx) (fx : Fx) (vs : List Nat) (tg : Expr) (g : GD) : Prop := PG X tg (tDGw X.K fx vs g)
def tDGsw (K : PySem.W.Frag) (fx : Fx) (vs : List Nat) (g : GDs) : TGs := fun us σ H Q => ∃ Hs e B ds e', Ok K fx Hs H σ e B ∧ RepL K Hs us ds ∧ g ds e = some e' ∧ ∀ Hs' σ' H', Le Hs Hs' → Ok K fx Hs' H' σ' e' B → wipe σ' vs = wipe σ vs → Q σ' H'
def DGsw (X : Cx) (fx : Fx) (vs : List Nat) (ts : List Expr) (g : GDs) : Prop := PGs X ts (tDGsw X.K fx vs g)
variable {vs : List Nat}
theorem DGw.dg {tg : Expr} {g : GD} (h : DGw X fx vs tg g) : DG X fx tg g := pg_imp h fun v σ H Q ⟨Hs, e, B, d, e', k, r, hf, q⟩ => ⟨Hs, e, B, d, e', k, r, hf, fun Hs' σ' H' l k' _ => q Hs' σ' H' l k'⟩
theorem wipe_at {σ : St} {i j : Nat} : ∀ {vs : List Nat}, (wipe σ vs)[j]? = if j ∈ vs then (if j < σ.length then some none else none) else σ[j]?
  | [] => by simp [wipe]
  | v :: vs => by
    rw [wipe, List.getElem?_set, wipe_length]
    by_cases h : v = j
    · subst h; simp
    · rw [if_neg h, wipe_at (i := i) (vs := vs)]
      simp [Ne.symm h]
theorem wipe_set {σ : St} {i : Nat} {v : Option V} (h : i ∈ vs) : wipe (σ.set i v) vs = wipe σ vs := by
  apply List.ext_getElem?
  intro j
  rw [wipe_at (i := 0), wipe_at (i := 0), List.length_set]
  by_cases hj : j ∈ vs
  · rw [if_pos hj, if_pos hj]
  · rw [if_neg hj, if_neg hj, List.getElem?_set_ne (fun (z : i = j) => hj (z ▸ h))]
theorem wipe_idem {σ : St} : wipe (wipe σ vs) vs = wipe σ vs := by
  apply List.ext_getElem?
  intro j
  rw [wipe_at (i := 0), wipe_length]
  by_cases hj : j ∈ vs
  · rw [if_pos hj, wipe_at (i := 0), if_pos hj]
  · rw [if_neg hj]
theorem dgw_name {i : Nat} {x : Str} {pos : Pos} (hN : X.N.Nodup) (hi : X.N[i]? = some x) (hx : Loc X.env.scope x) (hv : i ∈ vs) (hf : X.fn x = true ∨ X.env.scope.names.lookup x = some .local := by first | exact .inl rfl | exact .inr rfl | assumption) : DGw X fx vs (.Name x pos) (gN i) :=
  pg_imp (pg_name hN hi hx hf) fun v σ H Q ⟨Hs, e, B, d, e', k, r, hf, q⟩ => by
    have p : Post X.K fx Hs H σ e B v (.sh d) := ⟨k, r⟩
    obtain ⟨Hs', l, k'⟩ := p.st hf
    exact q Hs' _ H l k' (wipe_set hv)
theorem dgsw_nil : DGsw X fx vs [] gsNil := pgs_imp pgs_nil fun us σ H Q ⟨Hs, e, B, ds, e', k, r, hf, q⟩ => by
  cases ds with
  | nil =>
    cases hf
    cases r
    exact ⟨rfl, q Hs σ H Le.refl k rfl⟩
  | cons _ _ => cases hf
theorem dgsw_cons {t : Expr} {ts : List Expr} {g : GD} {h : GDs} (h1 : DGw X fx vs t g) (h2 : DGsw X fx vs ts h) (hs : (assignEach (t :: ts) X.env).map (·.2) = assign t X.env :: (assignEach ts X.env).map (·.2) := by rfl) : DGsw X fx vs (t :: ts) (gsCons g h) :=
  pgs_imp (pgs_cons h1 h2 hs) fun us σ H Q ⟨Hs, e, B, ds, e', k, r, hf, q⟩ => by
    cases ds with
    | nil => cases hf
    | cons d ds =>
      cases r with
      | cons r1 r2 =>
        simp only [gsCons] at hf
        split at hf
        · rename_i e1 g1
          exact ⟨_, _, rfl, Hs, e, B, d, e1, k, r1, g1, fun Hs1 σ1 H1 l1 k1 w1 => ⟨Hs1, e1, B, ds, e', k1, r2.mono l1, hf, fun Hs2 σ2 H2 l2 k2 w2 => q Hs2 σ2 H2 (l1.trans l2) k2 (w2.trans w1)⟩⟩
        · cases hf
theorem dgw_tup {es : List Expr} {n kk : Nat} {h : GDs} {pos : Pos} (hc : X.calm = true) (hs : DGsw X fx vs es h) (hn : (assignEach es X.env).length = n := by rfl) (hst : (assignEach es X.env).findIdx? (·.1) = none := by rfl) : DGw X fx vs (.Tuple es kk pos) (gTupD n h) :=
  pg_imp (pg_tup hc hs hn hst) fun v σ H Q ⟨Hs, e, B, d, e', k, r, hf, q⟩ => by
    cases d with
    | tup ds =>
      simp only [gTupD] at hf
      split at hf
      · rename_i hl
        cases r with
        | tup ha r =>
          exact ⟨_, _, rfl, .inl (.inl (k.sub _ _ ha)), r.length.trans hl, Hs, e, B, ds, e', k, r, hf, q⟩
      · cases hf
    | _ => cases hf
/-! ### tests of a clause -/
def DIfs (X : Cx) (fx : Fx) (ifs : List Expr) (A : FB) : Prop := PTs X ifs (tDT X.K fx A)
def fYes : FB := fun e => some (true, e)
theorem pts_imp {ifs : List Expr} {t t' : TT} (h : PTs X ifs t) (f : ∀ σ H Q, t' σ H Q → t σ H Q) : PTs X ifs t' := ⟨fun pins s σ H Q I w => h.run pins s σ H Q I (f σ H Q w)⟩
theorem difs_nil : DIfs X fx [] fYes := pts_imp pts_nil fun σ H Q ⟨Hs, e, B, t, e', k, hf, q⟩ => by
  cases hf
  exact q Hs H Le.refl k
theorem difs_one {c : Expr} {A : FB} (h : DT X fx c A) : DIfs X fx [c] A := pts_one h
/-! ### [elt for tg in iter if ..] -/
def lcF (vs : List Nat) (g : GD) (A : FB) (F : FE) : List D → List D → DEnv → Option (List D × DEnv)
  | [], acc, e => some (acc, e)
  | d :: ds, acc, e => match g d e with
    | some e1 => match A e1 with
      | some (true, e2) => match F e2 with
        | some (t, e3) => match toSh t e3 with
          | some (y, e4) => if acc.length < sizeLine then lcF vs g A F ds (acc ++ [y]) (wipeE e4 vs) else none
          | none => none
        | none => none
      | some (false, e2) => lcF vs g A F ds acc (wipeE e2 vs)
      | none => none
    | none => none
def fLc (I : FI) (vs : List Nat) (g : GD) (A : FB) (F : FE) : FE := fun e => match I e with
  | some (ds, e1) => match lcF vs g A F ds [] (wipeE e1 vs) with
    | some (acc, e2) => some (.ow (.lst acc), unwipe e1 e2 vs)
    | none => none
  | none => none
theorem lc_go {I : FI} {g : GD} {A : FB} {F : FE} {σ : St} {H : Hp} {Q : VK} (h : tD X.K fx (fLc I vs g A F) σ H Q) : tLc (tDI X.K fx I) (tDGw X.K fx vs g) (tDT X.K fx A) (tD X.K fx F) vs σ H Q := by
  obtain ⟨Hs, e, B, t, e', k, hf, q⟩ := h
  unfold fLc at hf
  split at hf
  · rename_i ds e1 h1
    split at hf
    · rename_i accF eF h2
      cases hf
      refine ⟨Hs, e, B, ds, e1, k, h1, fun Hs1 H1 J l1 k1 w => fun Dn hD => ?_⟩
      refine lc_it w (fun i H' => ∃ Hs' e' acc, Le Hs1 Hs' ∧ Ok X.K fx Hs' H' (wipe σ vs) e' ((.ref Dn, .lst acc) :: B) ∧ lcF vs g A F (ds.drop i) acc e' = some (accF, eF)) ⟨Hs1, _, [], Le.refl, (k1.wipe vs).newOw hD ⟨[], upd_same, .nil⟩, by rw [List.drop_zero]; exact h2⟩
        (fun i H' _ ⟨Hs', e', acc, l', k', _⟩ => l'.trans k'.sub) ?_ ?_
      · rintro i x H' H'' hi ⟨Hs', e', acc, l', k', hl⟩ y
        obtain ⟨d, Hs2, y1, y2, y3, y4⟩ := yd_ok l' k' y
        have hd : ds.drop i = d :: ds.drop (i + 1) := by
          have z := List.getElem?_eq_some_iff.mp y1
          rw [List.drop_eq_getElem_cons hi, z.2]
        rw [hd, lcF] at hl
        split at hl
        · rename_i e2 g2
          refine ⟨Hs2, e', _, d, e2, y3, y4, g2, fun Hs3 σ3 H3 l3 k3 w3 => ⟨w3.trans wipe_idem, ?_⟩⟩
          have ws : wipe σ3 vs = wipe σ vs := w3.trans wipe_idem
          have ll : Le Hs1 Hs3 := l'.trans (y2.trans l3)
          split at hl
          · rename_i e3 g3
            refine ⟨Hs3, e2, _, true, e3, k3, g3, fun Hs4 H4 l4 k4 => ?_⟩
            show (if true = true then _ else _)
            rw [if_pos rfl]
            split at hl
            · rename_i t e4 g4
              refine ⟨Hs4, e3, _, t, e4, k4, g4, fun Hs5 u H5 l5 p5 => ?_⟩
              split at hl
              · rename_i yv e5 g5
                split at hl
                · rename_i hz
                  obtain ⟨Hs6, l6, k6, r6⟩ := p5.sh g5
                  obtain ⟨p, e6, c6, n6, _⟩ := k6.temp _ List.mem_cons_self
                  have e6 : V.ref Dn = .ref p := e6
                  cases e6
                  obtain ⟨xs, hx, rx⟩ := c6
                  refine ⟨xs, hx, by rw [rx.length]; exact hz, Hs6, _, acc ++ [yv], ll.trans (l4.trans (l5.trans l6)), ?_, hl⟩
                  have k7 := (k6.tempWrite (o := .lst (xs ++ [u])) (d' := .lst (acc ++ [yv])) ⟨_, upd_same, rx.append (.cons r6 .nil)⟩).wipe vs
                  rw [ws] at k7
                  exact k7
                · cases hl
              · cases hl
            · cases hl
          · rename_i e3 g3
            refine ⟨Hs3, e2, _, false, e3, k3, g3, fun Hs4 H4 l4 k4 => ?_⟩
            show (if false = true then _ else _)
            rw [if_neg (by decide)]
            have k7 := k4.wipe vs
            rw [ws] at k7
            exact ⟨Hs4, _, acc, ll.trans l4, k7, hl⟩
          · cases hl
        · cases hl
      · rintro H' ⟨Hs', e', acc, l', k', hl⟩
        rw [List.drop_length, lcF] at hl
        cases hl
        exact q Hs' _ H' (l1.trans l') ⟨k1.unwipe k' l', trivial⟩
    · cases hf
  · cases hf
theorem de_lc {elt tg iter : Expr} {ifs : List Expr} {scope : Scope} {own : List (Str × Nat)} {pos : Pos} {I : FI} {g : GD} {A : FB} {F : FE} (hc : X.calm = true) (hN : X.N.Nodup) (hi : DI X fx tg iter I) (ok : BlkOk X.N X.env.scope scope own)
    (hg : ∀ (s : Shared) (H : Hp) (C : Addr) (cl : List (Str × Addr)) (fp : List Addr), DGw (X.blk s H scope (compEnvC scope cl C X.env) fp) fx (own.map (·.2)) tg g) (ht : ∀ (s : Shared) (H : Hp) (C : Addr) (cl : List (Str × Addr)) (fp : List Addr), DIfs (X.blk s H scope (compEnvC scope cl C X.env) fp) fx ifs A)
    (he : ∀ (s : Shared) (H : Hp) (C : Addr) (cl : List (Str × Addr)) (fp : List Addr), DE (X.blk s H scope (compEnvC scope cl C X.env) fp) fx elt F) (hs : ∀ x, foldedSetIterable iter X.env x = pure x := by intro _; rfl) :
    DE X fx (.ListComp elt [⟨tg, iter, ifs, 0⟩] scope pos) (fLc I (own.map (·.2)) g A F) :=
  pe_imp (pe_lc (own := own) (g := tDGw X.K fx (own.map Prod.snd) g) (tt := tDT X.K fx A) (te := tD X.K fx F) hc hN hi ok (fun s H C cl fp => hg s H C cl fp) (fun s H C cl fp => ht s H C cl fp) (fun s H C cl fp => he s H C cl fp) hs) fun σ H Q h => lc_go h
theorem ds_setLc {i : Nat} {y : Str} {py : Pos} {elt tg iter : Expr} {ifs : List Expr} {scope : Scope} {own : List (Str × Nat)} {pos spos : Pos} {I : FI} {g : GD} {A : FB} {F : FE} (hc : X.calm = true) (hN : X.N.Nodup) (hy : X.N[i]? = some y) (hyl : X.env.scope.names.lookup y = some .local)
    (hsw : swapsWith (.ListComp elt [⟨tg, iter, ifs, 0⟩] scope pos) (some (.Name y py)) spos.line X.env = pure true) (hi : DI X fx tg iter I) (ok : BlkOk X.N X.env.scope scope own)
    (hg : ∀ (s : Shared) (H : Hp) (C : Addr) (cl : List (Str × Addr)) (fp : List Addr), DGw (X.blk s H scope (compEnvC scope cl C X.env) fp) fx (own.map (·.2)) tg g) (ht : ∀ (s : Shared) (H : Hp) (C : Addr) (cl : List (Str × Addr)) (fp : List Addr), DIfs (X.blk s H scope (compEnvC scope cl C X.env) fp) fx ifs A)
    (he : ∀ (s : Shared) (H : Hp) (C : Addr) (cl : List (Str × Addr)) (fp : List Addr), DE (X.blk s H scope (compEnvC scope cl C X.env) fp) fx elt F) (hs : ∀ x, foldedSetIterable iter X.env x = pure x := by intro _; rfl) :
    DS X fx (.Assign [.Name y py] (.ListComp elt [⟨tg, iter, ifs, 0⟩] scope pos) spos) (sSet i (fLc I (own.map (·.2)) g A F)) :=
  ps_imp (ps_setLc (own := own) (g := tDGw X.K fx (own.map Prod.snd) g) (tt := tDT X.K fx A) (te := tD X.K fx F) hc hN hy hyl hsw hi ok (fun s H C cl fp => hg s H C cl fp) (fun s H C cl fp => ht s H C cl fp) (fun s H C cl fp => he s H C cl fp) hs) fun Dn σ H h => lc_go (set_go (X := X) h)
end
end DD

namespace DD
open PySem PySem.Spec PyProof.Rows L2
section
variable {X : Cx} {fx : Fx}
/-! ### x[i] = v -/
section
variable {κ : Type} [DecidableEq κ]
def putVs : List κ → List D → κ → D → List D
  | k :: ks, d :: ds, x, v => (if k = x then v else d) :: putVs ks ds x v
  | _, ds, _, _ => ds
def putD (ks : List κ) (ds : List D) (x : κ) (v : D) : List κ × List D := if (ks.any fun k => decide (k = x)) = true then (ks, putVs ks ds x v) else (ks ++ [x], ds ++ [v])
theorem putVs_rep {K : PySem.W.Frag} {H : Hp} {x : κ} {v : V} {d : D} (r : Rep K H v d) : ∀ {kvs : List (κ × V)} {ds : List D}, RepL K H (kvs.map (·.2)) ds → RepL K H ((kvs.map fun kv => if kv.1 = x then (kv.1, v) else kv).map (·.2)) (putVs (kvs.map (·.1)) ds x d)
  | [], ds, h => h
  | (k, u) :: kvs, ds, h => by
    cases h with
    | cons h1 h2 =>
      have ih := putVs_rep (x := x) r h2
      show RepL K H (((if k = x then (k, v) else (k, u)) :: _).map (·.2)) _
      by_cases e : k = x
      · rw [if_pos e]
        show RepL K H (v :: _) ((if k = x then d else _) :: _)
        rw [if_pos e]
        exact .cons r ih
      · rw [if_neg e]
        show RepL K H (u :: _) ((if k = x then d else _) :: _)
        rw [if_neg e]
        exact .cons h1 ih
theorem put_rep {K : PySem.W.Frag} {H : Hp} {x : κ} {v : V} {d : D} {kvs : List (κ × V)} {ds : List D} (r : Rep K H v d) (h : RepL K H (kvs.map (·.2)) ds) :
    (putK kvs x v).map (·.1) = (putD (kvs.map (·.1)) ds x d).1 ∧ RepL K H ((putK kvs x v).map (·.2)) (putD (kvs.map (·.1)) ds x d).2 := by
  have e : (kvs.map (·.1)).any (fun k => decide (k = x)) = kvs.any fun kv => decide (kv.1 = x) := by rw [List.any_map]; rfl
  unfold putK putD
  rw [e]
  by_cases q : (kvs.any fun kv => decide (kv.1 = x)) = true
  · rw [if_pos q, if_pos q]
    refine ⟨?_, putVs_rep r h⟩
    rw [List.map_map]
    refine List.map_congr_left fun kv _ => ?_
    show (if kv.1 = x then (kv.1, v) else kv).1 = kv.1
    split <;> rfl
  · rw [if_neg q, if_neg q]
    rw [List.map_append, List.map_append]
    exact ⟨rfl, h.append (.cons r .nil)⟩
end
def putDat : D → D → D → Option D
  | .lst ds, .int k, v => (ixN ds.length k).map fun j => .lst (ds.set j v)
  | .dK ks vs, key, v => (keyOf key).bind fun k => if ks.length < sizeLine then some (.dK (putD ks vs k v).1 (putD ks vs k v).2) else none
  | .dT ks vs, .tup xs, v => (keysOf xs).bind fun k => if ks.length < sizeLine then some (.dT (putD ks vs k v).1 (putD ks vs k v).2) else none
  | _, _, _ => none
def rPutA : TSet := fun o i v H Q => rSetL o i v H Q ∨ rSetD o i v H Q
theorem set_any (hu : X.A.units + 1 < cLine) : PSet X rPutA := by
  intro pins s σ H o i v ov iv u Q I ro ri rv h
  rcases h with h | h
  · exact set_list pins s σ H o i v ov iv u Q I ro ri rv h
  · exact set_dict hu pins s σ H o i v ov iv u Q I ro ri rv h
theorem put_cell {K : PySem.W.Frag} {fx : Fx} {Hs H : Hp} {σ : St} {e : DEnv} {B : List (V × D)} {p : Addr} {d d' key v : D} {y u : V} {Q : Hp → Prop} (k : Ok K fx Hs H σ e B) (c : Cell K Hs H p d) (ry : RepT K Hs H y key) (ru : Rep K Hs u v) (h : putDat d key v = some d')
    (q : ∀ o, Cell K Hs (upd H p o) p d' → Q (upd H p o)) : rPutA (.ref p) y u H Q := by
  cases d with
  | lst ds =>
    cases key with
    | int i =>
      simp only [putDat, Option.map_eq_some_iff] at h
      obtain ⟨j, h1, rfl⟩ := h
      obtain ⟨xs, hp, r⟩ := c
      cases (show Rep K Hs y (.int i) from ry)
      exact .inl ⟨p, xs, i, j, rfl, rfl, hp, by rw [r.length]; exact h1, q _ ⟨_, upd_same, r.set j ru⟩⟩
    | _ => cases h
  | dK ks vs =>
    simp only [putDat, Option.bind_eq_some_iff] at h
    obtain ⟨ky, h1, h2⟩ := h
    split at h2
    · rename_i hz
      cases h2
      obtain ⟨kvs, hp, rfl, r⟩ := c
      have e1 : y = kV ky := key_rep h1 (k.rall ry)
      subst e1
      obtain ⟨w1, w2⟩ := put_rep (x := ky) ru r
      exact .inr ⟨p, _, rfl, DPut.k hp (by simpa using hz), q _ ⟨_, upd_same, w1, w2⟩⟩
    · cases h2
  | dT ks vs =>
    cases key with
    | tup xs =>
      simp only [putDat, Option.bind_eq_some_iff] at h
      obtain ⟨ky, h1, h2⟩ := h
      split at h2
      · rename_i hz
        cases h2
        obtain ⟨kvs, hp, rfl, r⟩ := c
        obtain ⟨b, us, rfl, hb, r2⟩ := k.tupAt ry
        rw [keys_rep h1 r2] at hb
        obtain ⟨w1, w2⟩ := put_rep (x := ky) ru r
        exact .inr ⟨p, _, rfl, DPut.t hp hb (by simpa using hz), q _ ⟨_, upd_same, w1, w2⟩⟩
      · cases h2
    | _ => cases h
  | _ => exact c.elim
/-- the slot's own object -/
def ownD (e : DEnv) (i : Nat) : Option D := match e[i]? with
  | some (some s) => if s.own = true then some s.d else none
  | _ => none
def setD (e : DEnv) (i : Nat) (d : D) : DEnv := match e[i]? with
  | some (some s) => e.set i (some { s with d := d })
  | _ => e
theorem ownD_get {e : DEnv} {i : Nat} {d : D} (h : ownD e i = some d) : ∃ s, e[i]? = some (some s) ∧ s.own = true ∧ s.d = d := by
  unfold ownD at h
  split at h
  · rename_i s hs
    split at h
    · cases h; exact ⟨s, hs, by assumption, rfl⟩
    · cases h
  · cases h
theorem Ok.at_own {K : PySem.W.Frag} {Hs H : Hp} {σ : St} {e : DEnv} {B : List (V × D)} {i : Nat} {d : D} {v : V} (k : Ok K fx Hs H σ e B) (hi : σ[i]? = some (some v)) (h : ownD e i = some d) :
    ∃ p, v = .ref p ∧ Cell K Hs H p d ∧ ∀ o d', Cell K Hs (upd H p o) p d' → Ok K fx Hs (upd H p o) σ (setD e i d') B := by
  obtain ⟨s, h1, h2, rfl⟩ := ownD_get h
  obtain ⟨u, g1, g2, _⟩ := k.slot i s h1
  rw [hi] at g1; cases g1
  obtain ⟨p, rfl, c, _⟩ := g2 h2
  refine ⟨p, rfl, c, fun o d' c' => ?_⟩
  unfold setD
  rw [h1]
  exact k.write h1 h2 hi c'
def sPut (F O I : FE) : FS := fun e => do
  let (t, e1) ← F e
  let (d, e2) ← toSh t e1
  let (o, e3) ← O e2
  let (ti, e4) ← I e3
  let key ← rd ti e4
  match o with
  | .loc i => do
    let x ← ownD e4 i
    let x' ← putDat x key d
    pure (.nx (setD e4 i x'))
  | _ => none
theorem ds_put {a o i : Expr} {F O I : FE} {p pos : Pos} (hu : X.A.units + 1 < cLine) (ha : DE X fx a F) (ho : DE X fx o O) (hi : DE X fx i I)
    (hs : swapsWithSole [.Subscript o i p] a pos.line X.env = pure false := by rfl) (hw : swappedStores [.Subscript o i p] a X.env = pure none := by rfl)
    (h1 : (assignEach [.Subscript o i p] X.env).map (·.2) = [assign (.Subscript o i p) X.env] := by rfl)
    (hx : ∀ v, assign (.Subscript o i p) X.env v = (do
      let ov ← holding [v] (eval o X.env)
      let iv ← holding [v, ov] (eval i X.env)
      standAt p
      holding [v, ov, iv] (setItem ov iv v)
      release [v, ov, iv] []) := by intro _; rfl) : DS X fx (.Assign [.Subscript o i p] a pos) (sPut F O I) :=
  ps_imp (ps_asg ha (pg_sub ho hi (set_any hu) hx) hs hw h1) fun Dn σ H ⟨Hs, e, B, out, k, hf, q⟩ => by
    unfold sPut at hf
    simp only [Option.bind_eq_bind, Option.bind_eq_some_iff] at hf
    obtain ⟨⟨t, e1⟩, h1, ⟨d, e2⟩, h2, ⟨to, e3⟩, h3, ⟨ti, e4⟩, h4, key, h5, h6⟩ := hf
    refine ⟨Hs, e, B, t, e1, k, h1, fun Hs1 u H1 l1 p1 => ?_⟩
    obtain ⟨Hs2, l2, k2, r2⟩ := p1.sh h2
    refine ⟨Hs2, e2, B, to, e3, k2, h3, fun Hs3 ov H3 l3 p3 => ?_⟩
    refine ⟨Hs3, e3, push to ov B, ti, e4, p3.1, h4, fun Hs4 iv H4 l4 p4 => ?_⟩
    dsimp only at h5 h6
    split at h6
    · rename_i i
      simp only [Option.bind_eq_some_iff] at h6
      obtain ⟨x, g1, x', g2, g3⟩ := h6
      cases g3
      have k4 : Ok X.K fx Hs4 H4 σ e4 B := p4.ok
      obtain ⟨p, rfl, c, w⟩ := k4.at_own (p3.2 : σ[i]? = some (some ov)) g1
      exact put_cell k4 c (p4.rd h5) (r2.mono (l3.trans l4)) g2 fun o c' => q Hs4 σ _ (l1.trans (l2.trans (l3.trans l4))) (w o x' c')
    · cases h6
/-! ### methods of an own object -/
abbrev MD := D → List D → Option (D × D)
def OkM (X : Cx) (T : String) (r : V → List V → Hp → VK → Prop) (m : MD) : Prop := ∀ {Hs H H2 : Hp} {p : Addr} {d d2 : D} {xs : List V} {ds : List D} {ans d' : D} {Q : VK}, Cell X.K Hs H p d → Cell X.K Hs H2 p d2 → Le Hs H2 → RepL X.K Hs xs ds → m d2 ds = some (ans, d') →
  (∀ o v, Cell X.K Hs (upd H2 p o) p d' → Rep X.K Hs v ans → Q v (upd H2 p o)) → r (.ref p) xs H2 Q
def tyD (T : String) : D → Bool
  | .lst _ => T == "list"
  | .dK _ _ => T == "dict"
  | .dT _ _ => T == "dict"
  | _ => false
theorem tyD_is {K : PySem.W.Frag} {Hs H : Hp} {p : Addr} {T : String} {d : D} (c : Cell K Hs H p d) (h : tyD T d = true) : tyV K T (.ref p) H := by
  cases d with
  | lst ds =>
    obtain ⟨xs, hp, _⟩ := c
    have h : T = "list" := by simpa [tyD] using h
    exact .inl ⟨h, xs, .inl (.inl hp)⟩
  | dK ks vs =>
    obtain ⟨kvs, hp, _⟩ := c
    have h : T = "dict" := by simpa [tyD] using h
    exact .inr (.inr (.inl ⟨h, .inl ⟨kvs, hp⟩⟩))
  | dT ks vs =>
    obtain ⟨kvs, hp, _⟩ := c
    have h : T = "dict" := by simpa [tyD] using h
    exact .inr (.inr (.inl ⟨h, .inr ⟨kvs, hp⟩⟩))
  | _ => exact c.elim
def fMeth (T : String) (m : MD) (F : FE) (G : FL) : FE := fun e => do
  let (t, e1) ← F e
  match t with
  | .loc i => do
    let x0 ← ownD e1 i
    if tyD T x0 = true then do
      let (ds, e2) ← G e1
      let x ← ownD e2 i
      let (ans, x') ← m x ds
      pure (.sh ans, setD e2 i x')
    else none
  | _ => none
theorem meth_go {T : String} {r : V → List V → Hp → VK → Prop} {m : MD} {F : FE} {G : FL} (hm : OkM X T r m) : ∀ σ H Q, tD X.K fx (fMeth T m F G) σ H Q → tBM X.K T r (tD X.K fx F) (tDA X.K fx G) σ H Q := by
  rintro σ H Q ⟨Hs, e, B, t, e', k, hf, q⟩
  unfold fMeth at hf
  simp only [Option.bind_eq_bind, Option.bind_eq_some_iff] at hf
  obtain ⟨⟨t1, e1⟩, h1, h2⟩ := hf
  dsimp only at h2
  split at h2
  · rename_i i
    simp only [Option.bind_eq_some_iff] at h2
    obtain ⟨x0, g0, h2⟩ := h2
    split at h2
    · rename_i hty
      simp only [Option.bind_eq_some_iff] at h2
      obtain ⟨⟨ds, e2⟩, h3, x, h4, ⟨ans, x'⟩, h5, h6⟩ := h2
      cases h6
      refine ⟨Hs, e, B, .loc i, e1, k, h1, fun Hs1 v H1 l1 p1 => ?_⟩
      have k1 : Ok X.K fx Hs1 H1 σ e1 B := p1.1
      have hv : σ[i]? = some (some v) := p1.2
      obtain ⟨p, rfl, c, _⟩ := k1.at_own hv g0
      refine ⟨tyD_is c hty, Hs1, e1, B, ds, e2, k1, h3, fun Hs2 vs H2 l2 k2 r2 => ?_⟩
      obtain ⟨p', e3, c2, w⟩ := k2.at_own hv h4
      cases e3
      exact hm (d := x) c2 c2 k2.sub r2 h5 fun o u c' ru => q Hs2 u _ (l1.trans l2) ⟨w o x' c', ru⟩
    · cases h2
  · cases h2
theorem de_meth {o a : Expr} {es : List Expr} {T id : String} {name : Str} {r : V → List V → Hp → VK → Prop} {m : MD} {F : FE} {G : FL} {apos cpos : Pos} (pa : PlainAttrs T) (slot : PySem.Slot T name id) (hty : typeOf (.builtin id) = pure (.type "method_descriptor")) (hm : MtR X id r) (hok : OkM X T r m) (ho : DE X fx o F) (ha : DA X fx (a :: es) G)
    (hbase : attributeBase o name X.env (eval o X.env) = eval o X.env := by rfl)
    (hfew : ((backTo cpos (starEach (a :: es) X.env)).all (fun x => !x.1) && (backToKw cpos (keywordEach [] X.env)).all (fun x => x.1.isSome)
      && decide ((a :: es).length + ([] : List Keyword).length + (if ([] : List Keyword).isEmpty then 0 else 1) < 30)) = true := by rfl)
    (hline : (apos.endLine == cpos.line) = true := by rfl) (hs : starEach (a :: es) X.env = (false, eval a X.env) :: starEach es X.env := by rfl) (hplain : (backTo cpos (starEach es X.env)).any (·.1) = false := by rfl) :
    DE X fx (.Call (.Attribute o name apos) (a :: es) [] cpos) (fMeth T m F G) := pe_imp (pe_bm pa slot hty hm ho ha hbase hfew hline hs hplain) (meth_go hok)
theorem de_meth0 {o : Expr} {T id : String} {name : Str} {r : V → List V → Hp → VK → Prop} {m : MD} {F : FE} {apos cpos : Pos} (pa : PlainAttrs T) (slot : PySem.Slot T name id) (hty : typeOf (.builtin id) = pure (.type "method_descriptor")) (hm : MtR X id r) (hok : OkM X T r m) (ho : DE X fx o F)
    (hbase : attributeBase o name X.env (eval o X.env) = eval o X.env := by rfl) (hline : (apos.endLine == cpos.line) = true := by rfl) : DE X fx (.Call (.Attribute o name apos) [] [] cpos) (fMeth T m F fNil) :=
  pe_imp (pe_bm0 pa slot hty hm ho hbase hline) fun σ H Q h => by
    obtain ⟨Hs, e, B, t, e', k, hf, q⟩ := meth_go (r := r) hok σ H Q h
    refine ⟨Hs, e, B, t, e', k, hf, fun Hs1 v H1 l1 p1 => ?_⟩
    obtain ⟨ty, Hs2, e2, B2, ds, e3, k2, hn, q2⟩ := q Hs1 v H1 l1 p1
    cases hn
    exact ⟨ty, q2 Hs2 [] H1 Le.refl k2 .nil⟩
def mAppend : MD
  | .lst ds, [d] => if ds.length < sizeLine then some (.non, .lst (ds ++ [d])) else none
  | _, _ => none
theorem okm_append : OkM X "list" rAppend mAppend := by
  intro Hs H H2 p d d2 xs ds ans d' Q _ c l r h q
  unfold mAppend at h
  split at h
  · rename_i zs z
    split at h
    · rename_i hz
      cases h
      obtain ⟨us, hp, ru⟩ := c
      cases r with
      | cons r1 r2 =>
        cases r2
        exact ⟨p, us, _, rfl, rfl, hp, by rw [ru.length]; exact hz, q _ _ ⟨_, upd_same, ru.append (.cons r1 .nil)⟩ .non⟩
    · cases h
  · cases h
def mExtend : MD
  | .lst ds, [.lst es] => if ds.length + es.length ≤ sizeLine then some (.non, .lst (ds ++ es)) else none
  | _, _ => none
theorem okm_extend : OkM X "list" rExtend mExtend := by
  intro Hs H H2 p d d2 xs ds ans d' Q _ c l r h q
  unfold mExtend at h
  split at h
  · rename_i zs z
    split at h
    · rename_i hz
      cases h
      obtain ⟨us, hp, ru⟩ := c
      cases r with
      | cons r1 r2 =>
        cases r2
        cases r1 with
        | lst hb rb =>
          exact ⟨p, _, us, _, rfl, rfl, hp, l _ _ hb, by rw [ru.length, rb.length]; exact hz, q _ _ ⟨_, upd_same, ru.append rb⟩ .non⟩
    · cases h
  · cases h
def mPop : MD
  | .lst ds, [] => (ds[ds.length - 1]?).map fun d => (d, .lst ds.dropLast)
  | _, _ => none
theorem okm_pop : OkM X "list" rPop mPop := by
  intro Hs H H2 p d d2 xs ds ans d' Q _ c l r h q
  unfold mPop at h
  split at h
  · rename_i zs
    simp only [Option.map_eq_some_iff] at h
    obtain ⟨y, h1, h2⟩ := h
    cases h2
    obtain ⟨us, hp, ru⟩ := c
    cases r
    obtain ⟨v, v1, v2⟩ := ru.get h1
    exact ⟨p, us, v, rfl, rfl, hp, by rw [ru.length]; exact v1, q _ _ ⟨_, upd_same, ru.dropLast⟩ v2⟩
  · cases h
/-! ### methods that only read -/
def tyR (Ty : String) : D → Bool
  | .str _ => Ty == "str"
  | .lst _ => Ty == "list"
  | .dK _ _ => Ty == "dict"
  | .dT _ _ => Ty == "dict"
  | _ => false
theorem tyR_is {K : PySem.W.Frag} {Hs H : Hp} {v : V} {Ty : String} {d : D} (c : RepT K Hs H v d) (h : tyR Ty d = true) : tyV K Ty v H := by
  cases d with
  | str z =>
    cases (show Rep K Hs v (.str z) from c)
    exact (by simpa [tyR] using h : Ty = "str")
  | lst ds =>
    obtain ⟨a, xs, rfl, hp, _⟩ := c
    have h : Ty = "list" := by simpa [tyR] using h
    exact .inl ⟨h, xs, .inl (.inl hp)⟩
  | dK ks vs =>
    obtain ⟨a, kvs, rfl, hp, _⟩ := c
    have h : Ty = "dict" := by simpa [tyR] using h
    exact .inr (.inr (.inl ⟨h, .inl ⟨kvs, hp⟩⟩))
  | dT ks vs =>
    obtain ⟨a, kvs, rfl, hp, _⟩ := c
    have h : Ty = "dict" := by simpa [tyR] using h
    exact .inr (.inr (.inl ⟨h, .inr ⟨kvs, hp⟩⟩))
  | _ => cases h
abbrev RD := D → List D → Option T
def OkRd (X : Cx) (r : V → List V → Hp → VK → Prop) (m : RD) : Prop := ∀ {fx : Fx} {Hs H : Hp} {σ : St} {e : DEnv} {B : List (V × D)} {x : V} {xs : List V} {d : D} {ds : List D} {t : T} {Q : VK}, Ok X.K fx Hs H σ e B → RepT X.K Hs H x d → RepL X.K Hs xs ds → m d ds = some t →
  (∀ Hs' v H', Le Hs Hs' → Post X.K fx Hs' H' σ e B v t → Q v H') → r x xs H Q
def fRead (Ty : String) (m : RD) (F : FE) (G : FL) : FE := fun e => do
  let (t, e1) ← F e
  let x0 ← rd t e1
  if tyR Ty x0 = true then do
    let (ds, e2) ← G e1
    let x ← rd t e2
    let r ← m x ds
    pure (r, e2)
  else none
theorem read_go {Ty : String} {r : V → List V → Hp → VK → Prop} {m : RD} {F : FE} {G : FL} (hm : OkRd X r m) : ∀ σ H Q, tD X.K fx (fRead Ty m F G) σ H Q → tBM X.K Ty r (tD X.K fx F) (tDA X.K fx G) σ H Q := by
  rintro σ H Q ⟨Hs, e, B, t, e', k, hf, q⟩
  unfold fRead at hf
  simp only [Option.bind_eq_bind, Option.bind_eq_some_iff] at hf
  obtain ⟨⟨t1, e1⟩, h1, x0, h2, h3⟩ := hf
  split at h3
  · rename_i hty
    simp only [Option.bind_eq_some_iff] at h3
    obtain ⟨⟨ds, e2⟩, h4, x, h5, t2, h6, h7⟩ := h3
    cases h7
    refine ⟨Hs, e, B, t1, e1, k, h1, fun Hs1 v H1 l1 p1 => ⟨tyR_is (p1.rd h2) hty, Hs1, e1, push t1 v B, ds, e2, p1.1, h4, fun Hs2 vs H2 l2 k2 r2 => ?_⟩⟩
    have rx : RepT X.K Hs2 H2 v x := k2.rd (p1.2.mono l2) (fun d z => push_mem z) h5
    exact hm k2 rx r2 h6 fun Hs3 u H3 l3 p3 => q Hs3 u H3 (l1.trans (l2.trans l3)) (post_unpush p3)
  · cases h3
theorem de_read {o a : Expr} {es : List Expr} {Ty id : String} {name : Str} {r : V → List V → Hp → VK → Prop} {m : RD} {F : FE} {G : FL} {apos cpos : Pos} (pa : PlainAttrs Ty) (slot : PySem.Slot Ty name id) (hty : typeOf (.builtin id) = pure (.type "method_descriptor")) (hm : MtR X id r) (hok : OkRd X r m) (ho : DE X fx o F) (ha : DA X fx (a :: es) G)
    (hbase : attributeBase o name X.env (eval o X.env) = eval o X.env := by rfl)
    (hfew : ((backTo cpos (starEach (a :: es) X.env)).all (fun x => !x.1) && (backToKw cpos (keywordEach [] X.env)).all (fun x => x.1.isSome)
      && decide ((a :: es).length + ([] : List Keyword).length + (if ([] : List Keyword).isEmpty then 0 else 1) < 30)) = true := by rfl)
    (hline : (apos.endLine == cpos.line) = true := by rfl) (hs : starEach (a :: es) X.env = (false, eval a X.env) :: starEach es X.env := by rfl) (hplain : (backTo cpos (starEach es X.env)).any (·.1) = false := by rfl) :
    DE X fx (.Call (.Attribute o name apos) (a :: es) [] cpos) (fRead Ty m F G) := pe_imp (pe_bm pa slot hty hm ho ha hbase hfew hline hs hplain) (read_go hok)
theorem de_read0 {o : Expr} {Ty id : String} {name : Str} {r : V → List V → Hp → VK → Prop} {m : RD} {F : FE} {apos cpos : Pos} (pa : PlainAttrs Ty) (slot : PySem.Slot Ty name id) (hty : typeOf (.builtin id) = pure (.type "method_descriptor")) (hm : MtR X id r) (hok : OkRd X r m) (ho : DE X fx o F)
    (hbase : attributeBase o name X.env (eval o X.env) = eval o X.env := by rfl) (hline : (apos.endLine == cpos.line) = true := by rfl) : DE X fx (.Call (.Attribute o name apos) [] [] cpos) (fRead Ty m F fNil) :=
  pe_imp (pe_bm0 pa slot hty hm ho hbase hline) fun σ H Q h => by
    obtain ⟨Hs, e, B, t, e', k, hf, q⟩ := read_go (r := r) hok σ H Q h
    refine ⟨Hs, e, B, t, e', k, hf, fun Hs1 v H1 l1 p1 => ?_⟩
    obtain ⟨ty, Hs2, e2, B2, ds, e3, k2, hn, q2⟩ := q Hs1 v H1 l1 p1
    cases hn
    exact ⟨ty, q2 Hs2 [] H1 Le.refl k2 .nil⟩
def strsOf : List D → Option (List Str)
  | [] => some []
  | .str z :: ds => (strsOf ds).map (z :: ·)
  | _ => none
theorem strsOf_eq : ∀ {ds : List D} {zs : List Str}, strsOf ds = some zs → ds = zs.map .str
  | [], _, h => by cases h; rfl
  | .str z :: ds, _, h => by
    simp only [strsOf, Option.map_eq_some_iff] at h
    obtain ⟨r, h1, rfl⟩ := h
    rw [strsOf_eq h1]; rfl
  | .non :: _, _, h => by cases h
  | .bl _ :: _, _, h => by cases h
  | .int _ :: _, _, h => by cases h
  | .lst _ :: _, _, h => by cases h
  | .tup _ :: _, _, h => by cases h
  | .dK _ _ :: _, _, h => by cases h
  | .dT _ _ :: _, _, h => by cases h
  | .scr _ :: _, _, h => by cases h
  | .opq :: _, _, h => by cases h
def joinD : RD
  | .str a, [.lst ds] => (strsOf ds).bind fun zs => if (zs.map (·.length)).sum + zs.length * a.length ≤ 16777216 then some (.sh (.str (Txt.join a zs))) else none
  | .str a, [.tup ds] => (strsOf ds).bind fun zs => if (zs.map (·.length)).sum + zs.length * a.length ≤ 16777216 then some (.sh (.str (Txt.join a zs))) else none
  | _, _ => none
def rJoin (K : PySem.W.Frag) : V → List V → Hp → VK → Prop := fun x xs H Q => ∃ a p, ∃ ys : List Str, x = .str a ∧ xs = [.ref p] ∧ (SqL K H p (ys.map V.str) ∨ SqT K H p (ys.map V.str)) ∧ (ys.map (·.length)).sum + ys.length * a.length ≤ 16777216 ∧ Q (.str (Txt.join a ys)) H
theorem mt_joinD : MtR X "str.join" (rJoin X.K) := mt_join
theorem okr_join : OkRd X (rJoin X.K) joinD := by
  intro fx Hs H σ e B x xs d ds t Q k rx r h q
  unfold joinD at h
  split at h
  · simp only [Option.bind_eq_some_iff] at h
    obtain ⟨zs, h1, h2⟩ := h
    split at h2
    · rename_i hz
      cases h2
      have e1 := strsOf_eq h1
      subst e1
      cases (show Rep X.K Hs x (.str _) from rx)
      cases r with
      | cons r1 r2 =>
        cases r2
        cases r1 with
        | lst hp r =>
          rw [r.strs] at hp
          exact ⟨_, _, zs, rfl, rfl, .inl (.inl (.inl (k.sub _ _ hp))), hz, q Hs _ H Le.refl ⟨k, .str _⟩⟩
    · cases h2
  · simp only [Option.bind_eq_some_iff] at h
    obtain ⟨zs, h1, h2⟩ := h
    split at h2
    · rename_i hz
      cases h2
      have e1 := strsOf_eq h1
      subst e1
      cases (show Rep X.K Hs x (.str _) from rx)
      cases r with
      | cons r1 r2 =>
        cases r2
        cases r1 with
        | tup hp r =>
          rw [r.strs] at hp
          exact ⟨_, _, zs, rfl, rfl, .inr (.inl (.inl (k.sub _ _ hp))), hz, q Hs _ H Le.refl ⟨k, .str _⟩⟩
    · cases h2
  · cases h
/-- text methods of a text, and of a text and an int -/
def m1S (g : Str → Str → D) : RD
  | .str a, [.str b] => some (.sh (g a b))
  | _, _ => none
def m2S (g : Str → Str → Int → D) : RD
  | .str a, [.str b, .int i] => some (.sh (g a b i))
  | _, _ => none
theorem okr_m1 {f : Str → Str → V} {g : Str → Str → D} (hr : ∀ Hs a b, Rep X.K Hs (f a b) (g a b)) : OkRd X (fun x xs H Q => ∃ a b, x = .str a ∧ xs = [.str b] ∧ Q (f a b) H) (m1S g) := by
  intro fx Hs H σ e B x xs d ds t Q k rx r h q
  unfold m1S at h
  split at h
  · cases h
    cases (show Rep X.K Hs x (.str _) from rx)
    cases r with
    | cons r1 r2 =>
      cases r2
      cases r1
      exact ⟨_, _, rfl, rfl, q Hs _ H Le.refl ⟨k, hr _ _ _⟩⟩
  · cases h
theorem okr_m2 {f : Str → Str → Int → V} {g : Str → Str → Int → D} (hr : ∀ Hs a b i, Rep X.K Hs (f a b i) (g a b i)) : OkRd X (fun x xs H Q => ∃ (a b : Str) (i : Int), x = .str a ∧ xs = [.str b, .int i] ∧ Q (f a b i) H) (m2S g) := by
  intro fx Hs H σ e B x xs d ds t Q k rx r h q
  unfold m2S at h
  split at h
  · cases h
    cases (show Rep X.K Hs x (.str _) from rx)
    cases r with
    | cons r1 r2 =>
      cases r2 with
      | cons r2 r3 =>
        cases r3
        cases r1
        cases r2
        exact ⟨_, _, _, rfl, rfl, q Hs _ H Le.refl ⟨k, hr _ _ _ _⟩⟩
  · cases h
end
end DD

namespace DD
open PySem PySem.Spec PyProof.Rows L2
section
variable {X : Cx} {fx : Fx}
/-! ### arguments that are only read -/
abbrev FQs := DEnv → Option (List T × DEnv)
inductive IsQ (K : PySem.W.Frag) (Hs : Hp) (σ : St) : List V → List T → Prop
  | nil : IsQ K Hs σ [] []
  | cons {v : V} {vs : List V} {t : T} {ts : List T} : Is K Hs σ v t → IsQ K Hs σ vs ts → IsQ K Hs σ (v :: vs) (t :: ts)
theorem IsQ.mono {K : PySem.W.Frag} {Hs Hs' : Hp} {σ : St} (l : Le Hs Hs') : ∀ {vs : List V} {ts : List T}, IsQ K Hs σ vs ts → IsQ K Hs' σ vs ts
  | _, _, .nil => .nil
  | _, _, .cons h t => .cons (h.mono l) (t.mono l)
def tDQ (K : PySem.W.Frag) (fx : Fx) (F : FQs) : TA := fun σ H Q => ∃ Hs e B t e', Ok K fx Hs H σ e B ∧ F e = some (t, e') ∧ ∀ Hs' vs H', Le Hs Hs' → Ok K fx Hs' H' σ e' (pushL t vs B) → IsQ K Hs' σ vs t → Q vs H'
def DQ (X : Cx) (fx : Fx) (es : List Expr) (F : FQs) : Prop := PA X es (tDQ X.K fx F)
def qNil : FQs := fun e => some ([], e)
def qCons (F : FE) (G : FQs) : FQs := fun e => do
  let (t, e1) ← F e
  let (ts, e3) ← G e1
  pure (t :: ts, e3)
theorem dq_nil : DQ X fx [] qNil := pa_imp pa_nil fun σ H Q ⟨Hs, e, B, t, e', k, hf, q⟩ => by cases hf; exact q Hs [] H Le.refl k .nil
theorem dq_cons {a : Expr} {es : List Expr} {F : FE} {G : FQs} (ha : DE X fx a F) (hr : DQ X fx es G) (hs : starEach (a :: es) X.env = (false, eval a X.env) :: starEach es X.env := by rfl) : DQ X fx (a :: es) (qCons F G) :=
  pa_imp (pa_cons ha hr hs) fun σ H Q ⟨Hs, e, B, t, e', k, hf, q⟩ => by
    unfold qCons at hf
    simp only [Option.bind_eq_bind, Option.bind_eq_some_iff] at hf
    obtain ⟨⟨ta, e1⟩, h1, ⟨ts, e3⟩, h3, h4⟩ := hf
    cases h4
    exact ⟨Hs, e, B, ta, e1, k, h1, fun Hs1 v H1 l1 p1 => ⟨Hs1, e1, push ta v B, ts, e3, p1.1, h3, fun Hs3 vs H3 l3 k3 r3 => q Hs3 _ H3 (l1.trans l3) k3 (.cons (p1.2.mono l3) r3)⟩⟩
def rds (e : DEnv) : List T → Option (List D)
  | [] => some []
  | t :: ts => match rd t e, rds e ts with
    | some d, some ds => some (d :: ds)
    | _, _ => none
inductive RepTL (K : PySem.W.Frag) (Hs H : Hp) : List V → List D → Prop
  | nil : RepTL K Hs H [] []
  | cons {v : V} {vs : List V} {d : D} {ds : List D} : RepT K Hs H v d → RepTL K Hs H vs ds → RepTL K Hs H (v :: vs) (d :: ds)
theorem pushL_old {x : V × D} : ∀ {ts : List T} {vs : List V} {B : List (V × D)}, x ∈ B → x ∈ pushL ts vs B
  | [], _, _, h => by simpa [pushL] using h
  | _ :: _, [], _, h => by simpa [pushL] using h
  | t :: ts, v :: vs, B, h => by rw [pushL]; exact pushL_old (push_old h)
theorem rds_ok {K : PySem.W.Frag} {Hs H : Hp} {σ : St} {e : DEnv} {B : List (V × D)} (k : Ok K fx Hs H σ e B) : ∀ {ts : List T} {vs : List V} {B0 : List (V × D)} {ds : List D}, (∀ x ∈ pushL ts vs B0, x ∈ B) → IsQ K Hs σ vs ts → rds e ts = some ds → RepTL K Hs H vs ds
  | [], _, _, _, _, i, h => by cases i; cases h; exact .nil
  | t :: ts, _, B0, _, hb, i, h => by
    cases i with
    | cons i1 i2 =>
      rename_i v vs
      simp only [rds] at h
      split at h
      · rename_i d ds h1 h2
        cases h
        refine .cons (k.rd i1 (fun d z => ?_) h1) (rds_ok k (B0 := push t v B0) (fun x hx => hb x (by rw [pushL]; exact hx)) i2 h2)
        subst z
        exact hb _ (by rw [pushL]; exact pushL_old (push_mem rfl))
      · cases h
theorem post_unpushL {K : PySem.W.Frag} {Hs H : Hp} {σ : St} {e : DEnv} {v : V} {t : T} : ∀ {ts : List T} {vs : List V} {B : List (V × D)}, Post K fx Hs H σ e (pushL ts vs B) v t → Post K fx Hs H σ e B v t
  | [], _, _, h => by simpa [pushL] using h
  | _ :: _, [], _, h => by simpa [pushL] using h
  | t :: ts, v :: vs, B, h => by
    rw [pushL] at h
    exact post_unpush (post_unpushL h)
abbrev BD := List D → Option T
def OkC (X : Cx) (r : List V → Hp → VK → Prop) (m : BD) : Prop := ∀ {fx : Fx} {Hs H : Hp} {σ : St} {e : DEnv} {B : List (V × D)} {vs : List V} {ds : List D} {t : T} {Q : VK}, Ok X.K fx Hs H σ e B → RepTL X.K Hs H vs ds → m ds = some t →
  (∀ Hs' v H', Le Hs Hs' → Post X.K fx Hs' H' σ e B v t → Q v H') → r vs H Q
def fBlt (m : BD) (F : FQs) : FE := fun e => do
  let (ts, e1) ← F e
  let ds ← rds e1 ts
  let t ← m ds
  pure (t, e1)
theorem blt_go {r : List V → Hp → VK → Prop} {m : BD} {F : FQs} (hm : OkC X r m) : ∀ σ H Q, tD X.K fx (fBlt m F) σ H Q → tCB r (tDQ X.K fx F) σ H Q := by
  rintro σ H Q ⟨Hs, e, B, t, e', k, hf, q⟩
  unfold fBlt at hf
  simp only [Option.bind_eq_bind, Option.bind_eq_some_iff] at hf
  obtain ⟨⟨ts, e1⟩, h1, ds, h2, t', h3, h4⟩ := hf
  cases h4
  exact ⟨Hs, e, B, ts, e1, k, h1, fun Hs1 vs H1 l1 k1 i1 => hm k1 (rds_ok k1 (fun x hx => hx) i1 h2) h3 fun Hs2 v H2 l2 p2 => q Hs2 v H2 (l1.trans l2) (post_unpushL p2)⟩
theorem de_blt {x : Str} {p pos : Pos} {a : Expr} {es : List Expr} {id : String} {r : List V → Hp → VK → Prop} {m : BD} {F : FQs} (hc : CallR X (.builtin id) r) (ho : OkC X r m) (hg : Gl X x) (hm : X.mg x = none) (hv : bootBuiltins x = some (.builtin id)) (ha : DQ X fx (a :: es) F) (hn : x ≠ "__name__" := by decide) (hdb : (x == ("__debug__" : Str)) = false := by decide)
    (he : starEach (a :: es) X.env = (false, eval a X.env) :: starEach es X.env := by rfl) (hpl : (backTo pos (starEach es X.env)).any (·.1) = false := by rfl) : DE X fx (.Call (.Name x p) (a :: es) [] pos) (fBlt m F) :=
  pe_imp (pe_callB hc hg hm hv ha hn hdb he hpl) (blt_go ho)
theorem de_bty {x : Str} {p pos : Pos} {a : Expr} {es : List Expr} {id : String} {r : List V → Hp → VK → Prop} {m : BD} {F : FQs} (hc : CallR X (.type id) r) (ho : OkC X r m) (hg : Gl X x) (hm : X.mg x = none) (hv : bootBuiltins x = some (.type id)) (ha : DQ X fx (a :: es) F) (hn : x ≠ "__name__" := by decide) (hdb : (x == ("__debug__" : Str)) = false := by decide)
    (he : starEach (a :: es) X.env = (false, eval a X.env) :: starEach es X.env := by rfl) (hpl : (backTo pos (starEach es X.env)).any (·.1) = false := by rfl) : DE X fx (.Call (.Name x p) (a :: es) [] pos) (fBlt m F) :=
  pe_imp (pe_callTy hc hg hm hv ha hn hdb he hpl) (blt_go ho)
/-! ### len -/
def lenD : BD
  | [.str z] => if z.length ≤ sizeLine then some (.sh (.int (z.length : Nat))) else none
  | [.lst ds] => some (.sh (.int (ds.length : Nat)))
  | [.tup ds] => some (.sh (.int (ds.length : Nat)))
  | [.scr ns] => some (.sh (.int (ns.length : Nat)))
  | [.dK ks _] => some (.sh (.int (ks.length : Nat)))
  | [.dT ks _] => some (.sh (.int (ks.length : Nat)))
  | _ => none
def rLenA (K : PySem.W.Frag) : List V → Hp → VK → Prop := fun xs H Q => (∃ x n, xs = [x] ∧ LenV K x H n ∧ Q (.int (n : Nat)) H) ∨ (∃ a kvs, xs = [V.ref a] ∧ H a = some (.dK kvs) ∧ Q (.int (kvs.length : Nat)) H) ∨ ∃ (p : Addr) (kvs : List (List Key × V)), xs = [.ref p] ∧ H p = some (.dT kvs) ∧ Q (.int ((kvs.length : Nat) : Int)) H
theorem cr_lenA : CallR X (.builtin "len") (rLenA X.K) := by
  intro pins s σ H xs us Q I r h
  rcases h with h | h | h
  · exact call_len pins s σ H xs us Q I r h
  · exact call_lenD pins s σ H xs us Q I r h
  · exact call_len_dT pins s σ H xs us Q I r h
theorem ok_len : OkC X (rLenA X.K) lenD := by
  intro fx Hs H σ e B vs ds t Q k r h q
  unfold lenD at h
  split at h
  · split at h
    · rename_i hz
      cases h
      cases r with
      | cons r1 r2 =>
        cases r2
        cases (show Rep X.K Hs _ (.str _) from r1)
        exact .inl ⟨_, _, rfl, ⟨hz, rfl⟩, q Hs _ H Le.refl ⟨k, .int _⟩⟩
    · cases h
  · cases h
    cases r with
    | cons r1 r2 =>
      cases r2
      obtain ⟨a, xs, rfl, hp, rr⟩ := r1
      refine .inl ⟨_, xs.length, rfl, .inl ⟨xs, .inl (.inl hp), rfl⟩, ?_⟩
      rw [rr.length]
      exact q Hs _ H Le.refl ⟨k, .int _⟩
  · cases h
    cases r with
    | cons r1 r2 =>
      cases r2
      obtain ⟨a, xs, rfl, hp, rr⟩ := k.tupAt r1
      refine .inl ⟨_, xs.length, rfl, .inr ⟨xs, .inl (.inl hp), rfl⟩, ?_⟩
      rw [rr.length]
      exact q Hs _ H Le.refl ⟨k, .int _⟩
  · cases h
    cases r with
    | cons r1 r2 =>
      cases r2
      cases (show Rep X.K Hs _ (.scr _) from r1) with
      | scr hp =>
        refine .inl ⟨_, _, rfl, .inl ⟨_, k.sub.sqL hp, rfl⟩, ?_⟩
        rw [List.length_map]
        exact q Hs _ H Le.refl ⟨k, .int _⟩
  · cases h
    cases r with
    | cons r1 r2 =>
      cases r2
      obtain ⟨a, kvs, rfl, hp, rfl, rr⟩ := r1
      refine .inr (.inl ⟨a, kvs, rfl, hp, ?_⟩)
      have z := q Hs _ H Le.refl ⟨k, .int _⟩
      rw [List.length_map] at z
      exact z
  · cases h
    cases r with
    | cons r1 r2 =>
      cases r2
      obtain ⟨a, kvs, rfl, hp, rfl, rr⟩ := r1
      refine .inr (.inr ⟨a, kvs, rfl, hp, ?_⟩)
      have z := q Hs _ H Le.refl ⟨k, .int _⟩
      rw [List.length_map] at z
      exact z
  · cases h
/-! ### abs, int, min and max of two ints -/
def absD : BD
  | [.int i] => some (.sh (.int (if i < 0 then -i else i)))
  | _ => none
theorem ok_abs : OkC X (fun xs H Q => ∃ i, xs = [.int i] ∧ Q (.int (if i < 0 then -i else i)) H) absD := by
  intro fx Hs H σ e B vs ds t Q k r h q
  unfold absD at h
  split at h
  · cases h
    cases r with
    | cons r1 r2 =>
      cases r2
      cases (show Rep X.K Hs _ (.int _) from r1)
      exact ⟨_, rfl, q Hs _ H Le.refl ⟨k, .int _⟩⟩
  · cases h
def intD : BD
  | [.int i] => some (.sh (.int i))
  | [.bl c] => some (.sh (.int (if c = true then 1 else 0)))
  | _ => none
theorem ok_int : OkC X (fun xs H Q => (∃ i, xs = [.int i] ∧ Q (.int i) H) ∨ ∃ k, xs = [.bl k] ∧ Q (.int (if k then 1 else 0)) H) intD := by
  intro fx Hs H σ e B vs ds t Q k r h q
  unfold intD at h
  split at h
  · cases h
    cases r with
    | cons r1 r2 =>
      cases r2
      cases (show Rep X.K Hs _ (.int _) from r1)
      exact .inl ⟨_, rfl, q Hs _ H Le.refl ⟨k, .int _⟩⟩
  · cases h
    cases r with
    | cons r1 r2 =>
      cases r2
      cases (show Rep X.K Hs _ (.bl _) from r1)
      exact .inr ⟨_, rfl, q Hs _ H Le.refl ⟨k, .int _⟩⟩
  · cases h
/-! ### sum, all, any -/
def intsOf : List D → Option (List Int)
  | [] => some []
  | .int z :: ds => (intsOf ds).map (z :: ·)
  | _ => none
theorem intsOf_eq : ∀ {ds : List D} {zs : List Int}, intsOf ds = some zs → ds = zs.map .int
  | [], _, h => by cases h; rfl
  | .int z :: ds, _, h => by
    simp only [intsOf, Option.map_eq_some_iff] at h
    obtain ⟨r, h1, rfl⟩ := h
    rw [intsOf_eq h1]; rfl
  | .non :: _, _, h => by cases h
  | .bl _ :: _, _, h => by cases h
  | .str _ :: _, _, h => by cases h
  | .lst _ :: _, _, h => by cases h
  | .tup _ :: _, _, h => by cases h
  | .dK _ _ :: _, _, h => by cases h
  | .dT _ _ :: _, _, h => by cases h
  | .scr _ :: _, _, h => by cases h
  | .opq :: _, _, h => by cases h
def blsOf : List D → Option (List Bool)
  | [] => some []
  | .bl z :: ds => (blsOf ds).map (z :: ·)
  | _ => none
theorem blsOf_eq : ∀ {ds : List D} {zs : List Bool}, blsOf ds = some zs → ds = zs.map .bl
  | [], _, h => by cases h; rfl
  | .bl z :: ds, _, h => by
    simp only [blsOf, Option.map_eq_some_iff] at h
    obtain ⟨r, h1, rfl⟩ := h
    rw [blsOf_eq h1]; rfl
  | .non :: _, _, h => by cases h
  | .int _ :: _, _, h => by cases h
  | .str _ :: _, _, h => by cases h
  | .lst _ :: _, _, h => by cases h
  | .tup _ :: _, _, h => by cases h
  | .dK _ _ :: _, _, h => by cases h
  | .dT _ _ :: _, _, h => by cases h
  | .scr _ :: _, _, h => by cases h
  | .opq :: _, _, h => by cases h
def sumD : BD
  | [.lst ds] => (intsOf ds).map fun ns => .sh (.int ns.sum)
  | [.scr ns] => some (.sh (.int ns.sum))
  | _ => none
theorem ok_sum : OkC X (rSum X.K) sumD := by
  intro fx Hs H σ e B vs ds t Q k r h q
  unfold sumD at h
  split at h
  · simp only [Option.map_eq_some_iff] at h
    obtain ⟨ns, h1, rfl⟩ := h
    cases r with
    | cons r1 r2 =>
      cases r2
      obtain ⟨a, xs, rfl, hp, rr⟩ := r1
      rw [intsOf_eq h1] at rr
      rw [rr.ints] at hp
      exact ⟨a, ns, rfl, .inl (.inl hp), q Hs _ H Le.refl ⟨k, .int _⟩⟩
  · cases h
    cases r with
    | cons r1 r2 =>
      cases r2
      cases (show Rep X.K Hs _ (.scr _) from r1) with
      | scr hp => exact ⟨_, _, rfl, k.sub.sqL hp, q Hs _ H Le.refl ⟨k, .int _⟩⟩
  · cases h
def allD : BD
  | [.lst ds] => (blsOf ds).map fun ns => .sh (.bl (ns.all id))
  | _ => none
theorem ok_all : OkC X (rAll X.K) allD := by
  intro fx Hs H σ e B vs ds t Q k r h q
  unfold allD at h
  split at h
  · simp only [Option.map_eq_some_iff] at h
    obtain ⟨ns, h1, rfl⟩ := h
    cases r with
    | cons r1 r2 =>
      cases r2
      obtain ⟨a, xs, rfl, hp, rr⟩ := r1
      rw [blsOf_eq h1] at rr
      rw [rr.bls] at hp
      exact ⟨a, ns, rfl, .inl (.inl hp), q Hs _ H Le.refl ⟨k, .bl _⟩⟩
  · cases h
def anyD : BD
  | [.lst ds] => (blsOf ds).map fun ns => .sh (.bl (ns.any id))
  | _ => none
theorem ok_any : OkC X (rAny X.K) anyD := by
  intro fx Hs H σ e B vs ds t Q k r h q
  unfold anyD at h
  split at h
  · simp only [Option.map_eq_some_iff] at h
    obtain ⟨ns, h1, rfl⟩ := h
    cases r with
    | cons r1 r2 =>
      cases r2
      obtain ⟨a, xs, rfl, hp, rr⟩ := r1
      rw [blsOf_eq h1] at rr
      rw [rr.bls] at hp
      exact ⟨a, ns, rfl, .inl (.inl hp), q Hs _ H Le.refl ⟨k, .bl _⟩⟩
  · cases h
/-! ### tuple, list of a list or a tuple -/
def tupleD : BD
  | [.lst ds] => some (.sh (.tup ds))
  | [.tup ds] => some (.sh (.tup ds))
  | _ => none
theorem ok_tuple : OkC X (fun xs H Q => ∃ p ys, xs = [.ref p] ∧ ((SqL X.K H p ys ∧ ∀ l, H l = none → Q (.ref l) (upd H l (.tup ys))) ∨ (SqT X.K H p ys ∧ Q (.ref p) H))) tupleD := by
  intro fx Hs H σ e B vs ds t Q k r h q
  unfold tupleD at h
  split at h
  · cases h
    cases r with
    | cons r1 r2 =>
      cases r2
      obtain ⟨a, xs, rfl, hp, rr⟩ := r1
      refine ⟨a, xs, rfl, .inl ⟨.inl (.inl hp), fun l hl => ?_⟩⟩
      obtain ⟨p1, l1⟩ := k.tupP hl rr
      exact q _ _ _ l1 p1
  · cases h
    cases r with
    | cons r1 r2 =>
      cases r2
      obtain ⟨a, xs, rfl, hp, rr⟩ := k.tupAt r1
      exact ⟨a, xs, rfl, .inr ⟨.inl (.inl hp), q Hs _ H Le.refl ⟨k, r1⟩⟩⟩
  · cases h
def listD : BD
  | [.lst ds] => some (.ow (.lst ds))
  | [.tup ds] => some (.ow (.lst ds))
  | [.scr ns] => some (.ow (.lst (ns.map .int)))
  | _ => none
theorem ok_list : OkC X (fun xs H Q => ∃ p ys, xs = [.ref p] ∧ (SqL X.K H p ys ∨ SqT X.K H p ys) ∧ ∀ l, H l = none → Q (.ref l) (upd H l (.lst ys))) listD := by
  intro fx Hs H σ e B vs ds t Q k r h q
  unfold listD at h
  split at h
  · cases h
    cases r with
    | cons r1 r2 =>
      cases r2
      obtain ⟨a, xs, rfl, hp, rr⟩ := r1
      exact ⟨a, xs, rfl, .inl (.inl (.inl hp)), fun l hl => q _ _ _ Le.refl (k.lstP hl rr)⟩
  · cases h
    cases r with
    | cons r1 r2 =>
      cases r2
      obtain ⟨a, xs, rfl, hp, rr⟩ := k.tupAt r1
      exact ⟨a, xs, rfl, .inr (.inl (.inl hp)), fun l hl => q _ _ _ Le.refl (k.lstP hl rr)⟩
  · cases h
    cases r with
    | cons r1 r2 =>
      cases r2
      cases (show Rep X.K Hs _ (.scr _) from r1) with
      | scr hp => exact ⟨_, _, rfl, .inl (k.sub.sqL hp), fun l hl => q _ _ _ Le.refl (k.lstP hl (repL_ints _))⟩
  · cases h
end
end DD

namespace DD
open PySem PySem.Spec PyProof.Rows L2
section
variable {X : Cx} {fx : Fx}
/-! ### min and max -/
theorem dp_all {K : PySem.W.Frag} {H : Hp} : ∀ {ds : List D} {vs : List V}, flatL ds = true → RepL K H vs ds → DpAll K H vs (pyL ds) := fun f r => RepL.dp f r
def alikes (ds : List D) : Bool := ds.all fun d => ds.all fun d' => PySem.W.alike (py d) (py d')
def noNone (ds : List D) : Bool := ds.all fun d => !isNon d
/-- a text or an int from the library's data -/
def ofPy : PyData → Option D
  | .int i => some (.int i)
  | .str z => some (.str z)
  | _ => none
def bestD (g : PyData → List PyData → PyData) : List D → Option D
  | d :: ds => if flatL (d :: ds) = true ∧ alikes (d :: ds) = true ∧ noNone (d :: ds) = true ∧ PyData.depthAll (pyL (d :: ds)) ≤ 60 then ofPy (g (py d) (pyL ds)) else none
  | [] => none
def minOf : BD
  | [.lst ds] => (bestD PySem.W.minD ds).map .sh
  | [.int i, .int j] => some (.sh (.int (if j < i then j else i)))
  | _ => none
def maxOf : BD
  | [.lst ds] => (bestD PySem.W.maxD ds).map .sh
  | [.int i, .int j] => some (.sh (.int (if j > i then j else i)))
  | _ => none
def rBest (K : PySem.W.Frag) (g : PyData → List PyData → PyData) : List V → Hp → VK → Prop := fun vs H Q => ∃ (a : Addr) (xs : List V) (d : PyData) (ds : List PyData) (r : V) (e : D), vs = [.ref a] ∧ SqL K H a xs ∧ DpAll K H xs (d :: ds) ∧ PySem.W.AlikeAll (d :: ds) ∧ PyData.depthAll (d :: ds) ≤ 60 ∧
  ofPy (g d ds) = some e ∧ r = toV e ∧ Q r H
theorem ofPy_rel {h : Heap} {u : Value} {d : PyData} {e : D} {as : List Addr} (o : ofPy d = some e) (r : Reads h u d as) : RelV (toV e) u := by
  unfold ofPy at o
  split at o
  · cases o
    cases r
    exact ⟨_, rfl⟩
  · cases o
    cases r
    exact ⟨_, rfl⟩
  · cases o
theorem DpAll.reads {pins : List (Addr × Obj)} {σ : St} {H : Hp} {s : Shared} (I : Inv X pins σ H s) : ∀ {ds : List PyData} {xs : List V} {us : List Value}, DpAll X.K H xs ds → Vals xs us → ∃ as, ReadsAll s.heap us ds as
  | [], _, _, h, r => by cases h; cases r; exact ⟨_, .nil⟩
  | d :: ds, _, _, h, r => by
    cases h with
    | cons h1 h2 =>
      cases r with
      | cons r1 r2 =>
        obtain ⟨as, q⟩ := Dp.reads I _ _ _ h1 r1
        obtain ⟨bs, q2⟩ := DpAll.reads I h2 r2
        exact ⟨_, .cons q q2⟩
theorem cr_minA (hc : X.calm = true) (hu : X.A.units + 64 < cLine) : CallR X (.builtin "min") (fun xs H Q => (∃ i j, xs = [.int i, .int j] ∧ Q (.int (if j < i then j else i)) H) ∨ rBest X.K PySem.W.minD xs H Q) := by
  intro pins s σ H xs us Q I r h
  rcases h with h | ⟨a, xs', d, ds, rr, e, rfl, hq, hd, ha, hz, ho, rfl, q⟩
  · exact call_min2 hc pins s σ H xs us Q I r h
  · rw [Vals.ref1 r]
    obtain ⟨its, rv, pl, _⟩ := I.list hq
    obtain ⟨as, ra⟩ := DpAll.reads I hd rv
    refine PySem.W.min_list_data (vs := its.toArray) (I.ok.hd hc) pl.isList (by simpa using ra) ha (by omega) fun i v h' tk bs hv rd' hk => ?_
    exact ⟨toV e, H, I.kept hk, ofPy_rel ho rd', q⟩
theorem cr_maxA (hc : X.calm = true) (hu : X.A.units + 64 < cLine) : CallR X (.builtin "max") (fun xs H Q => (∃ i j, xs = [.int i, .int j] ∧ Q (.int (if j > i then j else i)) H) ∨ rBest X.K PySem.W.maxD xs H Q) := by
  intro pins s σ H xs us Q I r h
  rcases h with h | ⟨a, xs', d, ds, rr, e, rfl, hq, hd, ha, hz, ho, rfl, q⟩
  · exact call_max2 hc pins s σ H xs us Q I r h
  · rw [Vals.ref1 r]
    obtain ⟨its, rv, pl, _⟩ := I.list hq
    obtain ⟨as, ra⟩ := DpAll.reads I hd rv
    refine PySem.W.max_list_data (vs := its.toArray) (I.ok.hd hc) pl.isList (by simpa using ra) ha (by omega) fun i v h' tk bs hv rd' hk => ?_
    exact ⟨toV e, H, I.kept hk, ofPy_rel ho rd', q⟩
theorem alikes_ok {ds : List D} (h : alikes ds = true) (hn : noNone ds = true) : PySem.W.AlikeAll (pyL ds) := by
  rw [pyL_map]
  unfold alikes at h
  unfold noNone at hn
  rw [List.all_eq_true] at h hn
  refine ⟨fun x hx y hy => ?_, fun x hx => ?_⟩
  · obtain ⟨d, hd, rfl⟩ := List.mem_map.mp hx
    obtain ⟨d', hd', rfl⟩ := List.mem_map.mp hy
    exact List.all_eq_true.mp (h d hd) d' hd'
  · obtain ⟨d, hd, rfl⟩ := List.mem_map.mp hx
    exact py_ne (by simpa using hn d hd)
theorem ofPy_rep {K : PySem.W.Frag} {H : Hp} {d : PyData} {e : D} (o : ofPy d = some e) : Rep K H (toV e) e := by
  unfold ofPy at o
  split at o
  · cases o; exact .int _
  · cases o; exact .str _
  · cases o
theorem ok_best {g : PyData → List PyData → PyData} {fx : Fx} {Hs H : Hp} {σ : St} {e : DEnv} {B : List (V × D)} {v : V} {ds : List D} {d : D} {Q : VK} (k : Ok X.K fx Hs H σ e B) (r : RepT X.K Hs H v (.lst ds)) (h : bestD g ds = some d)
    (q : ∀ Hs' v H', Le Hs Hs' → Post X.K fx Hs' H' σ e B v (.sh d) → Q v H') : rBest X.K g [v] H Q := by
  obtain ⟨a, xs, rfl, hp, rr⟩ := r
  unfold bestD at h
  split at h
  · split at h
    · rename_i d0 ds0 w
      obtain ⟨w1, w2, w3, w4⟩ := w
      exact ⟨a, xs, py d0, pyL ds0, _, d, rfl, .inl (.inl hp), RepL.dp w1 (rr.mono k.sub), alikes_ok w2 w3, w4, h, rfl, q Hs _ H Le.refl ⟨k, ofPy_rep h⟩⟩
    · cases h
  · cases h
theorem ok_min : OkC X (fun xs H Q => (∃ i j, xs = [.int i, .int j] ∧ Q (.int (if j < i then j else i)) H) ∨ rBest X.K PySem.W.minD xs H Q) minOf := by
  intro fx Hs H σ e B vs ds t Q k r h q
  unfold minOf at h
  split at h
  · simp only [Option.map_eq_some_iff] at h
    obtain ⟨d, h1, rfl⟩ := h
    cases r with
    | cons r1 r2 => cases r2; exact .inr (ok_best k r1 h1 q)
  · cases h
    cases r with
    | cons r1 r2 =>
      cases r2 with
      | cons r2 r3 =>
        cases r3
        cases (show Rep X.K Hs _ (.int _) from r1)
        cases (show Rep X.K Hs _ (.int _) from r2)
        exact .inl ⟨_, _, rfl, q Hs _ H Le.refl ⟨k, .int _⟩⟩
  · cases h
theorem ok_max : OkC X (fun xs H Q => (∃ i j, xs = [.int i, .int j] ∧ Q (.int (if j > i then j else i)) H) ∨ rBest X.K PySem.W.maxD xs H Q) maxOf := by
  intro fx Hs H σ e B vs ds t Q k r h q
  unfold maxOf at h
  split at h
  · simp only [Option.map_eq_some_iff] at h
    obtain ⟨d, h1, rfl⟩ := h
    cases r with
    | cons r1 r2 => cases r2; exact .inr (ok_best k r1 h1 q)
  · cases h
    cases r with
    | cons r1 r2 =>
      cases r2 with
      | cons r2 r3 =>
        cases r3
        cases (show Rep X.K Hs _ (.int _) from r1)
        cases (show Rep X.K Hs _ (.int _) from r2)
        exact .inl ⟨_, _, rfl, q Hs _ H Le.refl ⟨k, .int _⟩⟩
  · cases h
/-! ### sorted -/
def isTup1 : D → Bool
  | .tup (_ :: _) => true
  | _ => false
def isTup0 : D → Bool
  | .tup _ => true
  | _ => false
def sortable (ds : List D) : Bool := ds.all isTup1 || ds.all fun d => !isNon d && !isTup0 d
/-- by Python's order -/
def sortD (ds : List D) : List D := ds.mergeSort (PySem.W.dataLe false py)
def sortOk (ds : List D) : Bool := flatL ds && alikes ds && sortable ds && decide (ds.length ≤ sizeLine) && ds.all fun d => decide ((py d).depth ≤ 60)
theorem sortable_ok {ds : List D} (h : sortable ds = true) : PySem.W.Sortable (ds.map py) := by
  unfold sortable at h
  rw [Bool.or_eq_true] at h
  rcases h with h | h
  · refine .inl fun x hx => ?_
    obtain ⟨d, hd, rfl⟩ := List.mem_map.mp hx
    have := List.all_eq_true.mp h d hd
    cases d with
    | tup ds =>
      cases ds with
      | nil => cases this
      | cons x xs => exact ⟨_, _, rfl⟩
    | _ => cases this
  · refine .inr fun x hx => ?_
    obtain ⟨d, hd, rfl⟩ := List.mem_map.mp hx
    have w := List.all_eq_true.mp h d hd
    rw [Bool.and_eq_true] at w
    refine ⟨py_ne (by simpa using w.1), fun xs z => ?_⟩
    cases d <;> simp [py, isTup0] at z w
def Of (K : PySem.W.Frag) (Hs : Hp) (u : Value) (d : D) : Prop := ∃ v, RelV v u ∧ Rep K Hs v d
theorem of_each {K : PySem.W.Frag} {Hs : Hp} : ∀ {xs : List V} {us : List Value} {ds : List D}, Vals xs us → RepL K Hs xs ds → PySem.W.EachIs (Of K Hs) us ds
  | _, _, [], r, q => by cases q; cases r; exact .nil
  | _, _, _ :: _, r, q => by
    cases q with
    | cons q1 q2 =>
      cases r with
      | cons r1 r2 => exact .cons ⟨_, r1, q1⟩ (of_each r2 q2)
theorem each_of {K : PySem.W.Frag} {Hs : Hp} : ∀ {us : List Value} {ds : List D}, PySem.W.EachIs (Of K Hs) us ds → ∃ xs, Vals xs us ∧ RepL K Hs xs ds
  | _, _, .nil => ⟨[], .nil, .nil⟩
  | _, _, .cons ⟨v, r1, q1⟩ t => by
    obtain ⟨xs, r2, q2⟩ := each_of t
    exact ⟨v :: xs, .cons r1 r2, .cons q1 q2⟩
theorem each_reads {pins : List (Addr × Obj)} {σ : St} {H Hs : Hp} {s : Shared} (I : Inv X pins σ H s) (l : Le Hs H) : ∀ {us : List Value} {ds : List D}, flatL ds = true → PySem.W.EachIs (Of X.K Hs) us ds → PySem.W.EachIs (fun v b => ∃ as, Reads s.heap v (py b) as) us ds
  | _, [], _, z => by cases z; exact .nil
  | _, d :: ds, f, z => by
    have f : flat d = true ∧ flatL ds = true := by simpa only [flatL, Bool.and_eq_true] using f
    cases z with
    | cons z1 t =>
    obtain ⟨v, r1, q1⟩ := z1
    exact .cons (Dp.reads I _ _ _ (Rep.dp f.1 (q1.mono l)) r1) (each_reads I l f.2 t)
def rSortD (K : PySem.W.Frag) : List V → Hp → VK → Prop := fun vs H Q => ∃ (a : Addr) (xs : List V) (Hs : Hp) (ds : List D), vs = [.ref a] ∧ SqL K H a xs ∧ RepL K Hs xs ds ∧ Le Hs H ∧ sortOk ds = true ∧ ∀ ys p, RepL K Hs ys (sortD ds) → H p = none → Q (.ref p) (upd H p (.lst ys))
theorem cr_sortD (hu : X.A.units + 64 < cLine) : CallR X (.builtin "sorted") (rSortD X.K) := by
  intro pins s σ H vs us Q I r h
  obtain ⟨a, xs, Hs, ds, rfl, hq, rr, l, ok, q⟩ := h
  simp only [sortOk, Bool.and_eq_true, decide_eq_true_eq, List.all_eq_true] at ok
  obtain ⟨⟨⟨⟨o1, o2⟩, o3⟩, o4⟩, o5⟩ := ok
  rw [Vals.ref1 r]
  obtain ⟨its, rv, pl, hz⟩ := I.list hq
  have e1 := of_each (K := X.K) rv rr
  have hal : PySem.W.AllAlike (ds.map py) := fun x hx y hy => by
    obtain ⟨d, hd, rfl⟩ := List.mem_map.mp hx
    obtain ⟨d', hd', rfl⟩ := List.mem_map.mp hy
    exact List.all_eq_true.mp (List.all_eq_true.mp o2 d hd) d' hd'
  refine PySem.W.sorted_data (R := Of X.K Hs) (enc := py) (bs := ds) (vs := its) pl.isList e1 (each_reads I l o1 e1) hal (sortable_ok o3) o4 (fun b hb => by have := o5 b hb; omega) fun out hl e2 => ?_
  obtain ⟨ys, rv2, rr2⟩ := each_of e2
  obtain ⟨ep, hat⟩ := sortedAll_at s.heap its (List.toArray out)
  have hn : H (s.heap.objs.size + 1) = none := I.hok.fresh (Nat.le_succ _)
  refine ⟨.ref (s.heap.objs.size + 1), _, I.laid (t' := s.toks) (o := .lst ys) (fun b o z => sortedAll_old z) (Nat.le_succ _) ⟨?_, out, ep, rv2, hat⟩, rfl, q ys _ rr2 hn⟩
  rw [rv2.length, hl]; exact o4
def sortedD : BD
  | [.lst ds] => if sortOk ds = true then some (.ow (.lst (sortD ds))) else none
  | _ => none
theorem ok_sortD : OkC X (rSortD X.K) sortedD := by
  intro fx Hs H σ e B vs ds t Q k r h q
  unfold sortedD at h
  split at h
  · split at h
    · rename_i w
      cases h
      cases r with
      | cons r1 r2 =>
        cases r2
        obtain ⟨a, xs, rfl, hp, rr⟩ := r1
        exact ⟨a, xs, Hs, _, rfl, .inl (.inl hp), rr, k.sub, w, fun ys p ry hn => q _ _ _ Le.refl (k.lstP hn ry)⟩
    · cases h
  · cases h
end
end DD

namespace DD
open PySem PySem.Spec PyProof.Rows L2
section
variable {X : Cx} {fx : Fx}
/-! ### dict(pairs) -/
section
variable {κ : Type} [DecidableEq κ]
def mergeV (kvs more : List (κ × V)) : List (κ × V) := more.foldl (fun acc kv => putK acc kv.1 kv.2) kvs
def mergeD (acc : List κ × List D) (more : List (κ × D)) : List κ × List D := more.foldl (fun acc kd => putD acc.1 acc.2 kd.1 kd.2) acc
inductive PairRep (K : PySem.W.Frag) (H : Hp) : List (κ × V) → List (κ × D) → Prop
  | nil : PairRep K H [] []
  | cons {k : κ} {v : V} {d : D} {kvs : List (κ × V)} {kds : List (κ × D)} : Rep K H v d → PairRep K H kvs kds → PairRep K H ((k, v) :: kvs) ((k, d) :: kds)
theorem merge_rep {K : PySem.W.Frag} {H : Hp} : ∀ {more : List (κ × V)} {moreD : List (κ × D)} {kvs : List (κ × V)} {acc : List κ × List D}, PairRep K H more moreD → kvs.map (·.1) = acc.1 → RepL K H (kvs.map (·.2)) acc.2 →
    (mergeV kvs more).map (·.1) = (mergeD acc moreD).1 ∧ RepL K H ((mergeV kvs more).map (·.2)) (mergeD acc moreD).2
  | _, _, kvs, acc, .nil, e, r => ⟨e, r⟩
  | _, _, kvs, acc, .cons (k := k) (v := v) (d := d) h t, e, r => by
    obtain ⟨w1, w2⟩ := put_rep (x := k) h r
    rw [e] at w1 w2
    exact merge_rep (kvs := putK kvs k v) (acc := putD acc.1 acc.2 k d) t w1 w2
theorem mergeV_len : ∀ (more kvs : List (κ × V)), (mergeV kvs more).length ≤ kvs.length + more.length
  | [], kvs => by show kvs.length ≤ kvs.length + 0; omega
  | p :: r, kvs => by
    have h1 := mergeV_len r (putK kvs p.1 p.2)
    have h2 := length_putK kvs p.1 p.2
    show (mergeV (putK kvs p.1 p.2) r).length ≤ _
    rw [List.length_cons]; omega
end
def pairsK : List D → Option (List (Key × D))
  | [] => some []
  | .tup [k, v] :: ds => match keyOf k, pairsK ds with
    | some k, some r => some ((k, v) :: r)
    | _, _ => none
  | _ => none
def pairsT : List D → Option (List (List Key × D))
  | [] => some []
  | .tup [.tup k, v] :: ds => match keysOf k, pairsT ds with
    | some k, some r => some ((k, v) :: r)
    | _, _ => none
  | _ => none
theorem pairsK_rep {K : PySem.W.Frag} {H : Hp} : ∀ {ds : List D} {kds : List (Key × D)} {xs : List V}, pairsK ds = some kds → RepL K H xs ds →
    ∃ (ps : List Addr) (kvs : List (Key × V)), xs = ps.map V.ref ∧ Paired (fun p (kv : Key × V) => H p = some (.tup [kV kv.1, kv.2])) ps kvs ∧ PairRep K H kvs kds := by
  intro ds
  induction ds with
  | nil => intro kds xs h r; cases h; cases r; exact ⟨[], [], rfl, .nil, .nil⟩
  | cons d ds ih =>
    intro kds xs h r
    unfold pairsK at h
    split at h
    · rename_i z; cases z
    · rename_i k v ds' e0
      cases e0
      split at h
      · rename_i ky rr h1 h2
        cases h
        cases r with
        | cons r1 r2 =>
          obtain ⟨ps, kvs, e1, e2, e3⟩ := ih h2 r2
          cases r1 with
          | tup ha ra =>
            rename_i a us
            cases ra with
            | cons q1 q2 =>
              cases q2 with
              | cons q2 q3 =>
                cases q3
                have := key_rep h1 q1
                subst this
                exact ⟨a :: ps, (ky, _) :: kvs, by rw [e1]; rfl, .cons ha e2, .cons q2 e3⟩
      · cases h
    · cases h
theorem pairsT_rep {K : PySem.W.Frag} {H : Hp} : ∀ {ds : List D} {kds : List (List Key × D)} {xs : List V}, pairsT ds = some kds → RepL K H xs ds →
    ∃ (ps : List Addr) (bs : List Addr) (kvs : List (List Key × V)), xs = ps.map V.ref ∧ Paired (fun (pb : Addr × Addr) (kv : List Key × V) => H pb.1 = some (.tup [.ref pb.2, kv.2]) ∧ H pb.2 = some (.tup (kv.1.map kV))) (ps.zip bs) kvs ∧ ps.length = bs.length ∧ PairRep K H kvs kds := by
  intro ds
  induction ds with
  | nil => intro kds xs h r; cases h; cases r; exact ⟨[], [], [], rfl, .nil, rfl, .nil⟩
  | cons d ds ih =>
    intro kds xs h r
    unfold pairsT at h
    split at h
    · rename_i z; cases z
    · rename_i k v ds' e0
      cases e0
      split at h
      · rename_i ky rr h1 h2
        cases h
        cases r with
        | cons r1 r2 =>
          obtain ⟨ps, bs, kvs, e1, e2, e4, e3⟩ := ih h2 r2
          cases r1 with
          | tup ha ra =>
            rename_i a us
            cases ra with
            | cons q1 q2 =>
              cases q2 with
              | cons q2 q3 =>
                cases q3
                cases q1 with
                | tup hb rb =>
                  rename_i b ws
                  have := keys_rep h1 rb
                  subst this
                  exact ⟨a :: ps, b :: bs, (ky, _) :: kvs, by rw [e1]; rfl, .cons ⟨ha, hb⟩ e2, by simp [e4], .cons q2 e3⟩
      · cases h
    · cases h
/-- the pairs, in the machine -/
theorem pairsT_of {pins : List (Addr × Obj)} {σ : St} {H : Hp} {s : Shared} (I : Inv X pins σ H s) : ∀ {ps bs : List Addr} {kvs : List (List Key × V)}, ps.length = bs.length → Paired (fun (pb : Addr × Addr) (kv : List Key × V) => H pb.1 = some (.tup [.ref pb.2, kv.2]) ∧ H pb.2 = some (.tup (kv.1.map kV))) (ps.zip bs) kvs →
    ∃ prs : List (List Key × Addr × Value), prs.length = ps.length ∧ (∀ (j : Nat) (q : List Key × Addr × Value), prs[j]? = some q → ∃ (b : Addr), ps[j]? = some b ∧ IsTup s.heap b #[.ref q.2.1, q.2.2] ∧ H q.2.1 = some (.tup (q.1.map kV))) ∧
      ∀ (kvs0 : List (List Key × V)) (acc : List (List Key × Addr × Value)), KT H kvs0 acc → KT H (mergeV kvs0 kvs) (PySem.storedAllH acc prs)
  | [], [], _, _, h => by
    cases h
    exact ⟨[], rfl, fun j q e => by simp at e, fun kvs0 acc k => k⟩
  | p :: ps, b :: bs, _, hl, h => by
    cases h with
    | cons h1 h2 =>
      rename_i kv kvs
      obtain ⟨prs, l, g1, g2⟩ := pairsT_of I (ps := ps) (bs := bs) (by simpa using hl) h2
      obtain ⟨its, rv, ht, _⟩ := I.tuple (.inl (.inl h1.1))
      obtain ⟨u, y, ei, ru, ry⟩ := vals2 rv
      subst ei
      cases (show u = Value.ref b from ru)
      refine ⟨(kv.1, b, y) :: prs, by simp [l], fun j q e => ?_, fun kvs0 acc k => ?_⟩
      · cases j with
        | zero =>
          have e' : (kv.1, b, y) = q := Option.some.inj e
          subst e'
          exact ⟨p, rfl, ht, h1.2⟩
        | succ j =>
          obtain ⟨b', e1, e2, e3⟩ := g1 j q (by simpa using e)
          exact ⟨b', by simpa using e1, e2, e3⟩
      · exact g2 (putK kvs0 kv.1 kv.2) (storedH acc kv.1 b y) (k.put kv.1 h1.2 ry)
  | [], _ :: _, _, hl, _ => by simp at hl
  | _ :: _, [], _, hl, _ => by simp at hl
def rDictT (K : PySem.W.Frag) : List V → Hp → VK → Prop := fun xs H Q => ∃ (a : Addr) (ps bs : List Addr) (kvs : List (List Key × V)), xs = [.ref a] ∧ H a = some (.lst (ps.map V.ref)) ∧ ps.length = bs.length ∧
  Paired (fun (pb : Addr × Addr) (kv : List Key × V) => H pb.1 = some (.tup [.ref pb.2, kv.2]) ∧ H pb.2 = some (.tup (kv.1.map kV))) (ps.zip bs) kvs ∧ ∀ p, H p = none → Q (.ref p) (upd H p (.dT (mergeV [] kvs)))
theorem cr_dictT (hcalm : X.calm = true) (hu : X.A.units + 64 < cLine) : CallR X (.type "dict") (rDictT X.K) := by
  intro pins s σ H xs us Q I r q
  obtain ⟨a, ps, bs, kvs, rfl, hq, hl, hp, q⟩ := q
  rw [Vals.ref1 r]
  obtain ⟨its, n, rv, ho, hz⟩ := I.lst hq
  have ei := refs_at rv
  subst ei
  obtain ⟨prs, lp, g1, g2⟩ := pairsT_of I hl hp
  have hPA := PySem.PairArg.list (prog := X.prog) (w := X.w) a (ps.map Value.ref).toArray (fun j => ps.getD j 0) (prs.map fun q => (Value.ref q.2.1, q.2.2))
  have ok : PySem.PlainSeq "list" s.heap a (ps.map Value.ref).toArray ∧ PySem.PairItems s.heap (ps.map Value.ref).toArray (fun j => ps.getD j 0) (prs.map fun q => (Value.ref q.2.1, q.2.2)) := by
    refine ⟨⟨_, n, ho, rfl, rfl, rfl⟩, by simp [lp], fun j k v e => ?_⟩
    rw [List.getElem?_map] at e
    cases e2 : prs[j]? with
    | none => rw [e2] at e; cases e
    | some w =>
      rw [e2] at e
      cases e
      obtain ⟨b, h1, h2, _⟩ := g1 j w e2
      have hg : ps.getD j 0 = b := by rw [List.getD_eq_getElem?_getD, h1]; rfl
      show (List.map Value.ref ps).toArray[j]? = some (Value.ref (ps.getD j 0)) ∧ PairAt s.heap (ps.getD j 0) (Value.ref w.2.1) w.2.2
      rw [hg]
      exact ⟨by simp [h1], .inl (show s.heap.IsTuple b _ from h2)⟩
  have hm : (s.heap.objs.size == sysModules) = false := beq_eq_false_iff_ne.mpr (Nat.ne_of_gt I.big)
  have hlen : (mergeV [] kvs).length ≤ sizeLine := by
    refine Nat.le_trans (mergeV_len kvs []) ?_
    have e1 : (ps.zip bs).length = kvs.length := Paired.length hp
    rw [List.length_zip, ← hl, Nat.min_self] at e1
    rw [List.length_map] at hz
    rw [List.length_nil]
    omega
  have keys : ∀ {j : Nat} {q : List Key × Addr × Value}, prs[j]? = some q → H q.2.1 = some (.tup (q.1.map kV)) := fun {j q} e => let ⟨_, _, _, z⟩ := g1 j q e; z
  refine PySem.call_dict_pairsH (knd := tupleKind (mixKind X.prog X.w)) (ps := prs) hPA (I.ok.hd hcalm) (tupleKind_room_in1 (A := X.A.in1) (by show X.A.units + 1 + 1 < cLine; omega)) ok ⟨by simp, fun i key v hr => ?_⟩ (fun h' hk x hx => ?_) (by simp [lp]; simpa using hz) fun h' tk hd' hk => ?_
  · have hr : (prs.map fun q => (Value.ref q.2.1, q.2.2))[i]? = some (key, v) := hr
    rw [List.getElem?_map] at hr
    cases e2 : prs[i]? with
    | none => rw [e2] at hr; cases hr
    | some w =>
      rw [e2] at hr
      cases hr
      exact ⟨w.1, w.2.1, rfl, rfl⟩
  · obtain ⟨j, e⟩ := List.getElem?_of_mem hx
    have hkey := key_of (P := X.prog) (w := X.w) I.hok (keys e)
    obtain ⟨o, its2, n2, k1, k2, k3, k4⟩ := hkey
    refine ⟨o, its2, n2, hk _ _ (fun z => ?_) (by simp) k1, k2, k3, k4⟩
    exact absurd (Heap.lt_size k1) (by rw [z]; exact Nat.lt_irrefl _)
  · have kt := g2 [] [] .nil
    have kk : ∀ b o, s.heap.get? b = some o → h'.get? b = some o := fun b o z => hk b o (by simp) z
    obtain ⟨o, es, ep, d1, d2, d3, d4, d5, d6⟩ := hd'
    refine ⟨.ref s.heap.objs.size, upd H s.heap.objs.size (.dT (mergeV [] kvs)), I.laid (t' := tk) kk (Nat.le_refl _) ?_, rfl, q _ (I.hok.fresh (Nat.le_refl _))⟩
    exact ⟨hlen, hm, _, kt.keeps fun b ys z => by rw [upd_ne (ne_of_none z (I.hok.fresh (Nat.le_refl _)))]; exact z, o, es, ep, d1, d2, d3, d4, d6⟩
end
end DD

namespace DD
open PySem PySem.Spec PyProof.Rows L2
section
variable {X : Cx} {fx : Fx}
/-! ### dict(pairs), data -/
def dictD : BD
  | [.lst ds] => match pairsK ds with
    | some kds => some (.ow (.dK (mergeD ([], []) kds).1 (mergeD ([], []) kds).2))
    | none => match pairsT ds with
      | some kds => some (.ow (.dT (mergeD ([], []) kds).1 (mergeD ([], []) kds).2))
      | none => none
  | _ => none
def rDictA (K : PySem.W.Frag) : List V → Hp → VK → Prop := fun xs H Q => (∃ (a : Addr) (ps : List Addr) (kvs : List (Key × V)), xs = [.ref a] ∧ SqL K H a (ps.map V.ref) ∧ Paired (fun p kv => SqT K H p [kV kv.1, kv.2]) ps kvs ∧
    ∀ p, H p = none → Q (.ref p) (upd H p (.dK (mergeK [] kvs)))) ∨ rDictT K xs H Q
theorem cr_dictA (hc : X.calm = true) (hu : X.A.units + 64 < cLine) : CallR X (.type "dict") (rDictA X.K) := by
  intro pins s σ H xs us Q I r h
  rcases h with h | h
  · exact call_dictP hc pins s σ H xs us Q I r h
  · exact cr_dictT hc hu pins s σ H xs us Q I r h
theorem paired_imp {α β : Type} {F G : α → β → Prop} (h : ∀ a b, F a b → G a b) : ∀ {as : List α} {bs : List β}, Paired F as bs → Paired G as bs
  | _, _, .nil => .nil
  | _, _, .cons p q => .cons (h _ _ p) (paired_imp h q)
theorem ok_dict : OkC X (rDictA X.K) dictD := by
  intro fx Hs H σ e B vs ds t Q k r h q
  unfold dictD at h
  split at h
  · cases r with
    | cons r1 r2 =>
      cases r2
      obtain ⟨a, xs, rfl, hp, rr⟩ := r1
      split at h
      · rename_i kds h1
        cases h
        obtain ⟨ps, kvs, rfl, w2, w3⟩ := pairsK_rep h1 rr
        refine .inl ⟨a, ps, kvs, rfl, .inl (.inl hp), paired_imp (fun p kv z => .inl (.inl (k.sub _ _ z))) w2, fun p hn => ?_⟩
        obtain ⟨m1, m2⟩ := merge_rep (kvs := []) (acc := ([], [])) w3 rfl .nil
        exact q Hs _ _ Le.refl ⟨k.newOw hn ⟨_, upd_same, m1, m2⟩, trivial⟩
      · split at h
        · rename_i kds h1
          cases h
          obtain ⟨ps, bs, kvs, rfl, w2, w4, w3⟩ := pairsT_rep h1 rr
          refine .inr ⟨a, ps, bs, kvs, rfl, hp, w4, paired_imp (fun p kv z => ⟨k.sub _ _ z.1, k.sub _ _ z.2⟩) w2, fun p hn => ?_⟩
          obtain ⟨m1, m2⟩ := merge_rep (kvs := []) (acc := ([], [])) w3 rfl .nil
          exact q Hs _ _ Le.refl ⟨k.newOw hn ⟨_, upd_same, m1, m2⟩, trivial⟩
        · cases h
  · cases h
/-! ### displays of dicts -/
def fNewK : FE := fun e => some (.ow (.dK [] []), e)
def fNewT : FE := fun e => some (.ow (.dT [] []), e)
theorem de_newK {pos : Pos} : DE X fx (.Dict [] [] pos) fNewK := pe_imp pe_dnewK fun σ H Q ⟨Hs, e, B, t, e', k, hf, q⟩ => by
  cases hf
  exact fun p hn => q Hs _ _ Le.refl ⟨k.newOw hn ⟨[], upd_same, rfl, .nil⟩, trivial⟩
theorem de_newT {pos : Pos} : DE X fx (.Dict [] [] pos) fNewT := pe_imp pe_dnewT fun σ H Q ⟨Hs, e, B, t, e', k, hf, q⟩ => by
  cases hf
  exact fun p hn => q Hs _ _ Le.refl ⟨k.newOw hn ⟨[], upd_same, rfl, .nil⟩, trivial⟩
/-! ### repr of a plain value -/
def reprD : BD
  | [.int i] => if i.natAbs.log2 < 1920 then some (.sh (.str (toString i))) else none
  | [.str z] => if (reprText z).length ≤ sizeLine then some (.sh (.str (reprText z))) else none
  | [.bl c] => some (.sh (.str (if c then "True" else "False")))
  | [.non] => some (.sh (.str "None"))
  | _ => none
def rRepr : List V → Hp → VK → Prop := fun xs H Q => (∃ i, xs = [.int i] ∧ i.natAbs.log2 < 1920 ∧ Q (.str (toString i)) H) ∨ (∃ z, xs = [.str z] ∧ (reprText z).length ≤ sizeLine ∧ Q (.str (reprText z)) H) ∨ (∃ c, xs = [.bl c] ∧ Q (.str (if c then "True" else "False")) H) ∨ (xs = [.non] ∧ Q (.str "None") H)
theorem cr_repr : CallR X (.builtin "repr") rRepr := by
  intro pins s σ H xs us Q I r h
  rcases h with ⟨i, rfl, hz, q⟩ | ⟨z, rfl, hz, q⟩ | ⟨c, rfl, q⟩ | ⟨rfl, q⟩
  · obtain ⟨u, rfl, t, rfl⟩ := vals1 r
    exact PySem.P.repr_of_int hz ⟨.str _, H, I.tok _, ⟨_, rfl⟩, q⟩
  · obtain ⟨u, rfl, t, rfl⟩ := vals1 r
    exact PySem.P.repr_of_str ⟨.str _, H, I.tok _, ⟨_, rfl⟩, q⟩ hz
  · obtain ⟨u, rfl, rfl⟩ := vals1 r
    exact PySem.P.repr_of_bool ⟨.str _, H, I.tok _, ⟨_, rfl⟩, q⟩
  · obtain ⟨u, rfl, rfl⟩ := vals1 r
    exact PySem.P.repr_of_none ⟨.str _, H, I.tok _, ⟨_, rfl⟩, q⟩
theorem ok_repr : OkC X rRepr reprD := by
  intro fx Hs H σ e B vs ds t Q k r h q
  unfold reprD at h
  split at h
  · split at h
    · rename_i hz
      cases h
      cases r with
      | cons r1 r2 =>
        cases r2
        cases (show Rep X.K Hs _ (.int _) from r1)
        exact .inl ⟨_, rfl, hz, q Hs _ H Le.refl ⟨k, .str _⟩⟩
    · cases h
  · split at h
    · rename_i hz
      cases h
      cases r with
      | cons r1 r2 =>
        cases r2
        cases (show Rep X.K Hs _ (.str _) from r1)
        exact .inr (.inl ⟨_, rfl, hz, q Hs _ H Le.refl ⟨k, .str _⟩⟩)
    · cases h
  · cases h
    cases r with
    | cons r1 r2 =>
      cases r2
      cases (show Rep X.K Hs _ (.bl _) from r1)
      exact .inr (.inr (.inl ⟨_, rfl, q Hs _ H Le.refl ⟨k, .str _⟩⟩))
  · cases h
    cases r with
    | cons r1 r2 =>
      cases r2
      cases (show Rep X.K Hs _ .non from r1)
      exact .inr (.inr (.inr ⟨rfl, q Hs _ H Le.refl ⟨k, .str _⟩⟩))
  · cases h
/-! ### isinstance -/
def tyN : D → Option String
  | .non => some "NoneType"
  | .bl _ => some "bool"
  | .int _ => some "int"
  | .str _ => some "str"
  | .lst _ => some "list"
  | .tup _ => some "tuple"
  | .dK _ _ => some "dict"
  | .dT _ _ => some "dict"
  | _ => none
theorem tyN_of {K : PySem.W.Frag} {Hs H : Hp} {v : V} {d : D} {n : String} (l : Le Hs H) (r : RepT K Hs H v d) (h : tyN d = some n) : TyX K H v (.type n) := by
  cases d with
  | non => cases h; cases (show Rep K Hs v .non from r); exact .base .non
  | bl b => cases h; cases (show Rep K Hs v (.bl b) from r); exact .base (.bl _)
  | int b => cases h; cases (show Rep K Hs v (.int b) from r); exact .base (.int _)
  | str b => cases h; cases (show Rep K Hs v (.str b) from r); exact .base (.str _)
  | tup ds =>
    cases h
    cases (show Rep K Hs v (.tup ds) from r) with
    | tup ha _ => exact .base (.tup (l _ _ ha))
  | lst ds => cases h; obtain ⟨a, xs, rfl, ha, _⟩ := r; exact .base (.lst ha)
  | dK ks ds => cases h; obtain ⟨a, xs, rfl, ha, _⟩ := r; exact .base (.dK ha)
  | dT ks ds => cases h; obtain ⟨a, xs, rfl, ha, _⟩ := r; exact .base (.dT ha)
  | _ => cases h
def isiD (T : String) (d : D) : Option Bool := (tyN d).bind fun n => kitB n T
def fIsi (T : String) (F : FE) : FE := fun e => do
  let (t, e1) ← F e
  let d ← rd t e1
  let b ← isiD T d
  pure (.sh (.bl b), e1)
theorem de_isi {a : Expr} {F : FE} {T : String} {x : Str} {p p2 pos : Pos} (ha : DE X fx a F) (hg : Gl X "isinstance") (hm : X.mg "isinstance" = none) (hg2 : Gl X x) (hm2 : X.mg x = none) (hv2 : bootBuiltins x = some (.type T)) (hn : x ≠ "__name__" := by decide) (hd : (x == ("__debug__" : Str)) = false := by decide)
    (he : starEach [a, .Name x p2] X.env = (false, eval a X.env) :: starEach [.Name x p2] X.env := by rfl) (he2 : starEach [.Name x p2] X.env = (false, eval (.Name x p2) X.env) :: starEach [] X.env := by rfl) (hpl : (backTo pos (starEach [.Name x p2] X.env)).any (·.1) = false := by rfl) :
    DE X fx (.Call (.Name "isinstance" p) [a, .Name x p2] [] pos) (fIsi T F) :=
  pe_imp (pe_callB call_isi hg hm PyProof.Rows.boot_isinstance (pa_cons ha (pa_cons (pe_bltn (v := .ty T) hg2 hm2 hv2 rfl hn hd) pa_nil he2) he) (by decide) (by decide) he hpl) fun σ H Q ⟨Hs, e, B, t, e', k, hf, q⟩ => by
    unfold fIsi at hf
    simp only [Option.bind_eq_bind, Option.bind_eq_some_iff] at hf
    obtain ⟨⟨ta, e1⟩, h1, d, h2, b, h3, h4⟩ := hf
    cases h4
    refine ⟨Hs, e, B, ta, e1, k, h1, fun Hs1 v H1 l1 p1 => ?_⟩
    unfold isiD at h3
    rw [Option.bind_eq_some_iff] at h3
    obtain ⟨n, g1, g2⟩ := h3
    exact ⟨v, .ty T, .type n, .type T, b, rfl, .ty T, tyN_of p1.ok.sub (p1.rd h2) g1, kit_ty g2, q Hs1 _ H1 l1 ⟨p1.ok, .bl _⟩⟩
/-! ### list(range(..)) -/
def fLrg1 (F : FE) : FE := fun e => do
  let (t, e1) ← F e
  let d ← rd t e1
  match d with
  | .int n => if smallI n = true ∧ n.toNat ≤ 2 ^ 24 then pure (.ow (.lst (rangeD 0 n.toNat)), e1) else none
  | _ => none
theorem rgV_rep {K : PySem.W.Frag} {H : Hp} (a b : Int) : RepL K H (rgV a b) (rangeD a (b - a).toNat) := by
  unfold rgV rangeD
  have go : ∀ l : List Nat, RepL K H (l.map fun i => V.int (a + (i : Nat))) (l.map fun (i : Nat) => D.int (a + (i : Int))) := by
    intro l
    induction l with
    | nil => exact .nil
    | cons x l ih => exact .cons (.int _) ih
  exact go _
theorem de_lrg1 {a : Expr} {F : FE} {p p2 pos pos2 : Pos} (hc : X.calm = true) (hg : Gl X "list") (hm : X.mg "list" = none) (hg2 : Gl X "range") (hm2 : X.mg "range" = none) (ha : DE X fx a F)
    (na : starEach [a] X.env = (false, eval a X.env) :: starEach [] X.env := by rfl) (nb : starEach [.Call (.Name "range" p2) [a] [] pos2] X.env = (false, eval (.Call (.Name "range" p2) [a] [] pos2) X.env) :: starEach [] X.env := by rfl) :
    DE X fx (.Call (.Name "list" p) [.Call (.Name "range" p2) [a] [] pos2] [] pos) (fLrg1 F) :=
  pe_imp (pe_listRg hc hg hm (prg_1 hg2 hm2 ha na) nb) fun σ H Q ⟨Hs, e, B, t, e', k, hf, q⟩ => by
    unfold fLrg1 at hf
    simp only [Option.bind_eq_bind, Option.bind_eq_some_iff] at hf
    obtain ⟨⟨ta, e1⟩, h1, d, h2, h3⟩ := hf
    refine ⟨Hs, e, B, ta, e1, k, h1, fun Hs1 v H1 l1 p1 => ?_⟩
    have r := p1.rd h2
    cases d with
    | int n =>
      dsimp only at h3
      split at h3
      · rename_i w
        cases h3
        cases (show Rep X.K Hs1 v (.int n) from r)
        have w1 := small_of w.1
        refine ⟨n, rfl, ⟨by omega, by omega, w1.1, w1.2, by rw [Int.sub_zero]; exact w.2⟩, fun p hn => ?_⟩
        have rr := rgV_rep (K := X.K) (H := Hs1) 0 n
        rw [Int.sub_zero] at rr
        exact q Hs1 _ _ l1 (p1.ok.lstP hn rr)
      · cases h3
    | _ => cases h3
/-! ### a < b < c -/
theorem chain_go {a b c : Expr} {Fa Fb Fc : FE} {r r' : R2} {g g' : D → D → Option T} (ho : OkR X r g) (ho' : OkR X r' g') (hg : ∀ x y t, g x y = some t → ∃ c, t = .sh (.bl c)) : ∀ σ H Q, tD X.K fx (fChain g g' Fa Fb Fc) σ H Q → tChain r r' (tD X.K fx Fa) (tD X.K fx Fb) (tD X.K fx Fc) σ H Q := by
  rintro σ H Q ⟨Hs, e, B, t, e', k, hf, q⟩
  unfold fChain at hf
  simp only [Option.bind_eq_bind, Option.bind_eq_some_iff] at hf
  obtain ⟨⟨ta, e1⟩, h1, ⟨tb, e2⟩, h2, x, h3, y, h4, t1, h5, h6⟩ := hf
  refine ⟨Hs, e, B, ta, e1, k, h1, fun Hs1 u H1 l1 p1 => ⟨Hs1, e1, push ta u B, tb, e2, p1.1, h2, fun Hs2 w H2 l2 p2 => ?_⟩⟩
  have rx : RepT X.K Hs2 H2 u x := p2.ok.rd (p1.2.mono l2) (fun d z => push_mem z) h3
  have ry : RepT X.K Hs2 H2 w y := p2.rd h4
  obtain ⟨c, rfl⟩ := hg _ _ _ h5
  refine ho p2.1 rx ry h5 fun Hs3 v H3 l3 p3 => ?_
  cases (show Rep X.K Hs3 v (.bl c) from p3.2)
  refine ⟨c, rfl, ?_⟩
  cases c with
  | false =>
    cases h6
    rw [if_neg (by decide)]
    exact q Hs3 _ H3 (l1.trans (l2.trans l3)) ⟨(post_unpush (post_unpush (⟨p3.1, .bl false⟩ : Post X.K fx Hs3 H3 σ e2 (push tb w (push ta u B)) (.bl false) (.sh (.bl false))))).1, .bl _⟩
  | true =>
    rw [if_pos rfl]
    simp only [Option.bind_eq_some_iff] at h6
    obtain ⟨⟨tc, e3⟩, g1, y', g2, z, g3, t2, g4, g5⟩ := h6
    cases g5
    have k3 : Ok X.K fx Hs3 H3 σ e2 (push tb w (push ta u B)) := p3.1
    refine ⟨Hs3, e2, _, tc, e3, k3, g1, fun Hs4 v4 H4 l4 p4 => ?_⟩
    have ry' : RepT X.K Hs4 H4 w y' := p4.ok.rd (p2.2.mono (l3.trans l4)) (fun d z => push_mem z) g2
    have rz : RepT X.K Hs4 H4 v4 z := p4.rd g3
    exact ho' p4.ok ry' rz g4 fun Hs5 v5 H5 l5 p5 => q Hs5 v5 H5 (l1.trans (l2.trans (l3.trans (l4.trans l5)))) (post_unpush (post_unpush p5))
theorem de_chain {a b c : Expr} {op op' : CmpOp} {pos : Pos} {Fa Fb Fc : FE} {r r' : R2} {g g' : D → D → Option T} (hr : OpR X (compareOp op) r) (hr' : OpR X (compareOp op') r') (ho : OkR X r g) (ho' : OkR X r' g') (hg : ∀ x y t, g x y = some t → ∃ c, t = .sh (.bl c)) (ha : DE X fx a Fa) (hb : DE X fx b Fb) (hc : DE X fx c Fc)
    (hm : lastMarks [op, op'] [b, c] = false := by with_unfolding_all rfl) : DE X fx (.Compare a [op, op'] [b, c] pos) (fChain g g' Fa Fb Fc) := pe_imp (pe_chain hr hr' ha hb hc hm) (chain_go (a := a) (b := b) (c := c) ho ho' hg)
theorem dt_chain {a b c : Expr} {op op' : CmpOp} {pos : Pos} {Fa Fb Fc : FE} {r r' : R2} {g g' : D → D → Option T} (hr : OpR X (compareOp op) r) (hr' : OpR X (compareOp op') r') (ho : OkR X r g) (ho' : OkR X r' g') (hg : ∀ x y t, g x y = some t → ∃ c, t = .sh (.bl c)) (ha : DE X fx a Fa) (hb : DE X fx b Fb) (hc : DE X fx c Fc)
    (hm : lastMarks [op, op'] [b, c] = false := by with_unfolding_all rfl) : DT X fx (.Compare a [op, op'] [b, c] pos) (fB (fChain g g' Fa Fb Fc)) := by
  refine pt_imp (pt_chain hr hr' ha hb hc hm) fun σ H Q ⟨Hs, e, B, t, e', k, hf, q⟩ => ?_
  refine chain_go (a := a) (b := b) (c := c) ho ho' hg σ H _ ?_
  unfold fB at hf
  simp only [Option.bind_eq_bind, Option.bind_eq_some_iff] at hf
  obtain ⟨⟨ta, e1⟩, h1, d, h2, h3⟩ := hf
  refine ⟨Hs, e, B, ta, e1, k, h1, fun Hs1 v H1 l1 p1 => ?_⟩
  have r := p1.rd h2
  cases d with
  | bl c =>
    cases (show Rep X.K Hs1 v (.bl c) from r)
    cases h3
    exact ⟨_, rfl, q Hs1 H1 l1 p1.ok⟩
  | _ => cases h3
theorem ltF_bl {n s : Bool} {x y : D} {t : T} (h : ltF n s x y = some t) : ∃ c, t = .sh (.bl c) := by
  simp only [ltF, Option.map_eq_some_iff] at h
  obtain ⟨c, _, rfl⟩ := h
  exact ⟨_, rfl⟩
theorem eqF_bl {x y : D} {t : T} (h : eqF x y = some t) : ∃ c, t = .sh (.bl c) := by
  simp only [eqF, Option.map_eq_some_iff] at h
  obtain ⟨c, _, rfl⟩ := h
  exact ⟨_, rfl⟩
end
end DD

namespace DD
open PySem PySem.Spec PyProof.Rows L2
section
variable {X : Cx} {fx : Fx}
/-! ### a dict of our own is read while it is walked -/
def keyD : Key → D
  | .inl i => .int i
  | .inr z => .str z
theorem rep_keyD {K : PySem.W.Frag} {H : Hp} (k : Key) : Rep K H (kV k) (keyD k) := by
  cases k with
  | inl i => exact .int i
  | inr z => exact .str z
theorem repL_keyD {K : PySem.W.Frag} {H : Hp} : ∀ ks : List Key, RepL K H (ks.map kV) (ks.map keyD)
  | [] => .nil
  | k :: ks => .cons (rep_keyD k) (repL_keyD ks)
def keysD : D → Option (List D)
  | .dK ks _ => some (ks.map keyD)
  | .dT ks _ => some (ks.map fun k => .tup (k.map keyD))
  | _ => none
def opqS : Slot := ⟨true, false, .opq⟩
def Fx.lock (fx : Fx) (p : Addr) (o : HO) (σ : St) : Fx := ⟨fx.L.filter fun b => decide (b ≠ p), upd fx.H0 p o, fx.Hs0, σ⟩
/-- no slot was lent on the way -/
def lentSame (e e' : DEnv) (i : Nat) : Bool := (List.range e'.length).all fun j => match e'[j]? with
  | some (some s') => !s'.lent || decide (j = i) || (match e[j]? with
    | some (some s) => s.lent
    | _ => false)
  | _ => true
def isOpqS (e : DEnv) (i : Nat) : Bool := match e[i]? with
  | some (some ⟨true, false, .opq⟩) => true
  | _ => false
theorem isOpqS_get {e : DEnv} {i : Nat} (h : isOpqS e i = true) : e[i]? = some (some opqS) := by
  unfold isOpqS at h
  split at h
  · assumption
  · cases h
theorem lentSame_get {e e' : DEnv} {i j : Nat} {s' : Slot} (h : lentSame e e' i = true) (hj : e'[j]? = some (some s')) (hl : s'.lent = true) (ne : j ≠ i) : ∃ s, e[j]? = some (some s) ∧ s.lent = true := by
  unfold lentSame at h
  have hlt : j < e'.length := (List.getElem?_eq_some_iff.mp hj).1
  have q := List.all_eq_true.mp h j (List.mem_range.mpr hlt)
  rw [hj] at q
  simp only [hl, Bool.not_true, Bool.false_or, Bool.or_eq_true, decide_eq_true_eq] at q
  rcases q with q | q
  · exact absurd q ne
  · split at q
    · rename_i s hs
      exact ⟨s, hs, q⟩
    · cases q
theorem Ok.locked {Hs H : Hp} {K : PySem.W.Frag} {σ : St} {e : DEnv} {B : List (V × D)} {i : Nat} {s : Slot} {p : Addr} {o : HO} (k : Ok K fx Hs H σ e B) (hs : e[i]? = some (some s)) (ho : s.own = true) (hv : σ[i]? = some (some (.ref p))) (hn : Hs p = none) :
    Ok K (fx.lock p o σ) Hs (upd H p o) σ (e.set i (some opqS)) B := by
  have mL : ∀ {b : Addr}, b ∈ fx.L → b ≠ p → b ∈ (fx.lock p o σ).L := fun {b} h1 h2 => by
    show b ∈ fx.L.filter _
    rw [List.mem_filter]
    exact ⟨h1, by simpa using h2⟩
  have mL' : ∀ {b : Addr}, b ∈ (fx.lock p o σ).L → b ∈ fx.L ∧ b ≠ p := fun {b} h => by
    have h : b ∈ fx.L.filter _ := h
    rw [List.mem_filter] at h
    exact ⟨h.1, by simpa using h.2⟩
  have own : ∀ {v : V} {b : Bool} {d : D}, v ≠ .ref p → OwnAt K fx Hs H v b d → OwnAt K (fx.lock p o σ) Hs (upd H p o) v b d := fun {v b d} ne ⟨q, h1, c, h2, h3⟩ => by
    subst h1
    have nq : q ≠ p := fun z => ne (by rw [z])
    refine ⟨q, rfl, c.at_ Le.refl (upd_ne nq), h2, ?_⟩
    cases b with
    | true => exact mL h3 nq
    | false => exact (upd_ne nq).trans h3
  have oldo : ∀ {j : Nat} {t : Slot}, (e.set i (some opqS))[j]? = some (some t) → t.own = true → j ≠ i ∧ e[j]? = some (some t) := fun {j t} z y => by
    rcases get_set z with ⟨_, z, _⟩ | ⟨ne, z⟩
    · have z : opqS = t := Option.some.inj z
      subst z; cases y
    · exact ⟨ne, z⟩
  refine ⟨by simpa using k.len, fun b u z => ?_, k.grow, fun b u z => ?_, fun b u z1 z2 => ?_, fun b hb => ?_, fun j t z => ?_, fun x hx => ?_, fun j l t u w z z1 z2 y1 y2 => ?_, fun j t x z y1 => ?_, k.tt, fun j t z y => rfl⟩
  · rw [upd_ne (fun y => by subst y; rw [hn] at z; cases z)]; exact k.sub b u z
  · have nb : b ≠ p := fun y => by subst y; rw [hn] at z; cases z
    rcases k.ext b u z with h | h | h | h
    · exact .inl h
    · exact .inr (.inl ((upd_ne nb).trans h))
    · exact .inr (.inr (.inl (mL h nb)))
    · exact .inr (.inr (.inr h))
  · by_cases nb : b = p
    · subst nb
      have z1 : upd fx.H0 b o b = some u := z1
      rw [upd_same] at z1 ⊢; exact z1
    · rw [upd_ne nb]
      refine k.frame b u ((upd_ne nb).symm.trans z1) fun h => z2 (mL h nb)
  · obtain ⟨h1, h2⟩ := mL' hb
    obtain ⟨u, hu⟩ := k.lt b h1
    exact ⟨u, (upd_ne h2).trans hu⟩
  · rcases get_set z with ⟨rfl, z, _⟩ | ⟨ne, z⟩
    · have z : opqS = t := Option.some.inj z
      subst z
      exact ⟨_, hv, fun y => (by cases y), fun _ => .opq _⟩
    · obtain ⟨v, g1, g2, g3⟩ := k.slot j t z
      refine ⟨v, g1, fun y => own (fun w => ?_) (g2 y), g3⟩
      subst w
      exact k.ss i j s t _ (Ne.symm ne) hs z ho y hv g1
  · refine own (fun w => ?_) (k.temp x hx)
    refine k.st i s x hs ho hx ?_
    rw [hv, w]
  · obtain ⟨_, a2⟩ := oldo z1 y1
    obtain ⟨_, b2⟩ := oldo z2 y2
    exact k.ss j l t u w z a2 b2 y1 y2
  · obtain ⟨_, a2⟩ := oldo z y1
    exact k.st j t x a2 y1
theorem Ok.unlocked {Hs H Hs' H' : Hp} {K : PySem.W.Frag} {σ σ' : St} {e e' : DEnv} {B B' : List (V × D)} {i : Nat} {s : Slot} {p : Addr} {od : Obj} {u : HO} (k : Ok K fx Hs H σ e B) (hs : e[i]? = some (some s)) (ho : s.own = true) (hv : σ[i]? = some (some (.ref p))) (hu : H p = some u)
    (l : Le Hs Hs') (k' : Ok K (fx.lock p (.frz od u) σ) Hs' H' σ' e' B') (hi : e'[i]? = some (some opqS)) (hl : lentSame e e' i = true) : H' p = some (.frz od u) ∧ Ok K fx Hs' (upd H' p u) σ' (e'.set i (some s)) B' := by
  obtain ⟨v0, g1, g2, _⟩ := k.slot i s hs
  rw [hv] at g1
  obtain rfl : V.ref p = v0 := Option.some.inj (Option.some.inj g1)
  obtain ⟨p', e1, c, hn, hlent⟩ := g2 ho
  cases e1
  have mL' : ∀ {b : Addr}, b ∈ (fx.lock p (.frz od u) σ).L → b ∈ fx.L ∧ b ≠ p := fun {b} h => by
    have h : b ∈ fx.L.filter _ := h
    rw [List.mem_filter] at h
    exact ⟨h.1, by simpa using h.2⟩
  have hp : H' p = some (.frz od u) := k'.frame p _ (show upd fx.H0 p (.frz od u) p = _ from upd_same) fun h => (mL' h).2 rfl
  have hn' : Hs' p = none := by
    cases q : Hs' p with
    | none => rfl
    | some o =>
      rcases k'.ext p o q with h | h | h | ⟨us, h⟩
      · have := k.grow p o h
        rw [hn] at this; cases this
      · have h : upd fx.H0 p (.frz od u) p = none := h
        rw [upd_same] at h; cases h
      · exact absurd rfl (mL' h).2
      · subst h
        have := k'.sub p _ q
        rw [hp] at this; cases this
  have notp : ∀ {d : D}, ¬ Cell K Hs' H' p d := fun {d} c => by
    cases d with
    | lst _ => obtain ⟨_, h, _⟩ := c; rw [hp] at h; cases h
    | dK _ _ => obtain ⟨_, h, _⟩ := c; rw [hp] at h; cases h
    | dT _ _ => obtain ⟨_, h, _⟩ := c; rw [hp] at h; cases h
    | _ => exact c
  have nref : ∀ {v : V} {b : Bool} {d : D}, OwnAt K (fx.lock p (.frz od u) σ) Hs' H' v b d → v ≠ .ref p := fun {v b d} ⟨q, h1, c, _⟩ z => by
    rw [h1] at z; cases z
    exact notp c
  have own : ∀ {v : V} {b : Bool} {d : D}, OwnAt K (fx.lock p (.frz od u) σ) Hs' H' v b d → OwnAt K fx Hs' (upd H' p u) v b d := fun {v b d} w => by
    have ne := nref w
    obtain ⟨q, h1, c, h2, h3⟩ := w
    subst h1
    have nq : q ≠ p := fun z => ne (by rw [z])
    refine ⟨q, rfl, c.at_ Le.refl (upd_ne nq), h2, ?_⟩
    cases b with
    | true => exact (mL' h3).1
    | false => exact (upd_ne nq).symm.trans h3
  have hvi : σ'[i]? = some (some (.ref p)) := (k'.ls i opqS hi rfl).trans hv
  have mine : OwnAt K fx Hs' (upd H' p u) (.ref p) s.lent s.d := ⟨p, rfl, c.at_ l (upd_same.trans hu.symm), hn', hlent⟩
  have split : ∀ {j : Nat} {t : Slot}, (e'.set i (some s))[j]? = some (some t) → (j = i ∧ t = s) ∨ (j ≠ i ∧ e'[j]? = some (some t)) := fun {j t} z => by
    rcases get_set z with ⟨e, z, _⟩ | ⟨ne, z⟩
    · exact .inl ⟨e, (Option.some.inj z).symm⟩
    · exact .inr ⟨ne, z⟩
  refine ⟨hp, by simpa using k'.len, fun b o z => ?_, k'.grow, fun b o z => ?_, fun b o z1 z2 => ?_, fun b hb => ?_, fun j t z => ?_, fun x hx => own (k'.temp x hx), fun j l t t2 w z z1 z2 y1 y2 => ?_, fun j t x z y1 hx => ?_, k'.tt, fun j t z y => ?_⟩
  · rw [upd_ne (fun y => by subst y; rw [hn'] at z; cases z)]; exact k'.sub b o z
  · have nb : b ≠ p := fun y => by subst y; rw [hn'] at z; cases z
    rcases k'.ext b o z with h | h | h | h
    · exact .inl h
    · exact .inr (.inl ((upd_ne nb).symm.trans h))
    · exact .inr (.inr (.inl (mL' h).1))
    · exact .inr (.inr (.inr h))
  · by_cases nb : b = p
    · subst nb
      cases w : s.lent with
      | true => rw [w, if_pos rfl] at hlent; exact absurd hlent z2
      | false => rw [w, if_neg (by decide), z1] at hlent; cases hlent
    · rw [upd_ne nb]
      exact k'.frame b o ((upd_ne nb).trans z1) fun h => z2 (mL' h).1
  · by_cases nb : b = p
    · subst nb; exact ⟨_, upd_same⟩
    · rw [upd_ne nb]
      exact k'.lt b (List.mem_filter.mpr ⟨hb, by simpa using nb⟩)
  · rcases split z with ⟨rfl, rfl⟩ | ⟨ne, z⟩
    · exact ⟨_, hvi, fun _ => mine, fun y => by rw [ho] at y; cases y⟩
    · obtain ⟨v, a1, a2, a3⟩ := k'.slot j t z
      exact ⟨v, a1, fun y => own (a2 y), a3⟩
  · rcases split z1 with ⟨e1, e2⟩ | ⟨ne1, w1⟩
    · rcases split z2 with ⟨e3, e4⟩ | ⟨ne2, w2⟩
      · exact absurd (e1.trans e3.symm) z
      · intro u1 u2
        rw [e1, hvi] at u1; cases u1
        obtain ⟨v, a1, a2, _⟩ := k'.slot _ _ w2
        rw [a1] at u2
        exact nref (a2 y2) (Option.some.inj (Option.some.inj u2))
    · rcases split z2 with ⟨e3, e4⟩ | ⟨ne2, w2⟩
      · intro u1 u2
        rw [e3, hvi] at u2; cases u2
        obtain ⟨v, a1, a2, _⟩ := k'.slot _ _ w1
        rw [a1] at u1
        exact nref (a2 y1) (Option.some.inj (Option.some.inj u1))
      · exact k'.ss j l t t2 w z w1 w2 y1 y2
  · rcases split z with ⟨rfl, rfl⟩ | ⟨ne, z⟩
    · intro w
      rw [hvi] at w
      exact nref (k'.temp x hx) (Option.some.inj (Option.some.inj w)).symm
    · exact k'.st j t x z y1 hx
  · rcases split z with ⟨rfl, rfl⟩ | ⟨ne, z⟩
    · exact (k'.ls _ opqS hi rfl).trans (k.ls _ _ hs y)
    · obtain ⟨s2, b1, b2⟩ := lentSame_get hl z y ne
      exact (k'.ls j t z y).trans (k.ls j s2 b1 b2)
end
end DD

namespace DD
open PySem PySem.Spec PyProof.Rows L2
section
variable {X : Cx} {fx : Fx}
/-- what a walk gives, while the data stands -/
def Gives (K : PySem.W.Frag) (fx : Fx) (Hs0 : Hp) (ds : List D) (Y : Nat → Hp → V → Hp → Prop) : Prop := ∀ i H x H', Y i H x H' → ∀ {Hs : Hp} {σ : St} {e : DEnv} {B : List (V × D)}, Le Hs0 Hs → Ok K fx Hs H σ e B →
  ∃ d Hs', ds[i]? = some d ∧ Le Hs Hs' ∧ Ok K fx Hs' H' σ e B ∧ Rep K Hs' x d
def Stands (K : PySem.W.Frag) (fx : Fx) (Hs0 : Hp) (G : Hp → Prop) : Prop := ∀ {Hs H : Hp} {σ : St} {e : DEnv} {B : List (V × D)}, Le Hs0 Hs → Ok K fx Hs H σ e B → G H
theorem for_go {J : It} {G : Hp → Prop} {Y : Nat → Hp → V → Hp → Prop} {ds : List D} {g : GD} {S : FS} {Dn : Ends} {σ : St} {Hs1 H1 : Hp} {e1 : DEnv} {B : List (V × D)} {o : Out} {tg' : TG} {ts' : TS} (htg : ∀ v σ H Q, tDG X.K fx g v σ H Q → tg' v σ H Q) (hts : ∀ D σ H, tDS X.K fx S D σ H → ts' D σ H) (w : Walk J ds.length G Y) (hG : Stands X.K fx Hs1 G) (hY : Gives X.K fx Hs1 ds Y)
    (k1 : Ok X.K fx Hs1 H1 σ e1 B) (hf : loopF g S ds e1 = some o) (q : EndOk X.K fx Hs1 B Dn o) :
    ∃ W : Nat → Nat → St → Hp → Prop, (∃ m, W 0 m σ H1) ∧ ∀ i m σ H, W i m σ H →
      (J.stop i H ∧ Dn.nx σ H) ∨ (J.go i H ∧ ∃ N : St → Hp → Prop, (∀ σ' H', N σ' H' → ∃ m', m' < m ∧ W (i + 1) m' σ' H') ∧ ∀ x H', J.yld i H x H' → tg' x σ H' fun σ2 H2 => ts' { Dn with nx := N, ct := N, bk := Dn.nx } σ2 H2) := by
  refine for_it w (fun i σ' H' => ∃ Hs' e', Le Hs1 Hs' ∧ Ok X.K fx Hs' H' σ' e' B ∧ loopF g S (ds.drop i) e' = some o) ⟨Hs1, e1, Le.refl, k1, by rw [List.drop_zero]; exact hf⟩ (fun i σ' H' _ ⟨Hs', e', l', k', _⟩ => hG l' k') ?_ ?_
  · rintro i x σ' H' H'' hi ⟨Hs', e', l', k', hl⟩ y
    obtain ⟨d, Hs2, y1, y2, y3, y4⟩ := hY i H' x H'' y l' k'
    have hd : ds.drop i = d :: ds.drop (i + 1) := by
      have z := List.getElem?_eq_some_iff.mp y1
      rw [List.drop_eq_getElem_cons hi, z.2]
    rw [hd, loopF] at hl
    split at hl
    · rename_i e2 h2
      refine htg _ _ _ _ ⟨Hs2, e', B, d, e2, y3, y4, h2, fun Hs3 σ3 H3 l3 k3 => ?_⟩
      have ll : Le Hs1 Hs3 := l'.trans (y2.trans l3)
      cases h3 : S e2 with
      | none => rw [h3] at hl; cases hl
      | some o2 =>
        rw [h3] at hl
        refine hts _ _ _ ⟨Hs3, e2, B, o2, k3, h3, ?_⟩
        cases o2 with
        | nx e3 => exact fun Hs4 σ4 H4 l4 k4 => ⟨Hs4, e3, ll.trans l4, k4, hl⟩
        | ct e3 => exact fun Hs4 σ4 H4 l4 k4 => ⟨Hs4, e3, ll.trans l4, k4, hl⟩
        | bk e3 =>
          cases hl
          exact fun Hs4 σ4 H4 l4 k4 => q Hs4 σ4 H4 (ll.trans l4) k4
        | rt t e3 =>
          cases hl
          exact fun Hs4 σ4 v H4 l4 k4 => q Hs4 σ4 v H4 (ll.trans l4) k4
    · cases hl
  · rintro σ' H' ⟨Hs', e', l', k', hl⟩
    rw [List.drop_length, loopF] at hl
    cases hl
    exact q Hs' σ' H' l' k'
theorem lc_go2 {J : It} {G : Hp → Prop} {Y : Nat → Hp → V → Hp → Prop} {ds : List D} {vs : List Nat} {g : GD} {A : FB} {F : FE} {σ : St} {Hs1 H1 : Hp} {e1 : DEnv} {B : List (V × D)} {accF : List D} {eF : DEnv} {Dn : Addr} {Qd : Hp → Prop} {tg' : TG} {tt' : TT} {te' : TE} (htg : ∀ v σ H Q, tDGw X.K fx vs g v σ H Q → tg' v σ H Q) (htt : ∀ σ H Q, tDT X.K fx A σ H Q → tt' σ H Q) (hte : ∀ σ H Q, tD X.K fx F σ H Q → te' σ H Q) (w : Walk J ds.length G Y) (hG : Stands X.K fx Hs1 G) (hY : Gives X.K fx Hs1 ds Y)
    (k1 : Ok X.K fx Hs1 H1 σ e1 B) (hD : H1 Dn = none) (h2 : lcF vs g A F ds [] (wipeE e1 vs) = some (accF, eF)) (q : ∀ Hs' H', Le Hs1 Hs' → Ok X.K fx Hs' H' σ (unwipe e1 eF vs) ((.ref Dn, .lst accF) :: B) → Qd H') :
    ∃ W : Nat → Nat → Hp → Prop, (∃ m, W 0 m (upd H1 Dn (.lst []))) ∧ ∀ i m H, W i m H →
      (J.stop i H ∧ Qd H) ∨ (J.go i H ∧ ∃ Nx : Hp → Prop, (∀ H', Nx H' → ∃ m', m' < m ∧ W (i + 1) m' H') ∧ ∀ x H', J.yld i H x H' → tg' x (wipe σ vs) H' fun σ2 H2 => wipe σ2 vs = wipe σ vs ∧ tt' σ2 H2 fun b H3 =>
        if b = true then te' σ2 H3 fun y H4 => ∃ acc, H4 Dn = some (.lst acc) ∧ acc.length < sizeLine ∧ Nx (upd H4 Dn (.lst (acc ++ [y]))) else Nx H3) := by
  refine lc_it w (fun i H' => ∃ Hs' e' acc, Le Hs1 Hs' ∧ Ok X.K fx Hs' H' (wipe σ vs) e' ((.ref Dn, .lst acc) :: B) ∧ lcF vs g A F (ds.drop i) acc e' = some (accF, eF)) ⟨Hs1, _, [], Le.refl, (k1.wipe vs).newOw hD ⟨[], upd_same, .nil⟩, by rw [List.drop_zero]; exact h2⟩
    (fun i H' _ ⟨Hs', e', acc, l', k', _⟩ => hG l' k') ?_ ?_
  · rintro i x H' H'' hi ⟨Hs', e', acc, l', k', hl⟩ y
    obtain ⟨d, Hs2, y1, y2, y3, y4⟩ := hY i H' x H'' y l' k'
    have hd : ds.drop i = d :: ds.drop (i + 1) := by
      have z := List.getElem?_eq_some_iff.mp y1
      rw [List.drop_eq_getElem_cons hi, z.2]
    rw [hd, lcF] at hl
    split at hl
    · rename_i e2 g2
      refine htg _ _ _ _ ⟨Hs2, e', _, d, e2, y3, y4, g2, fun Hs3 σ3 H3 l3 k3 w3 => ⟨w3.trans wipe_idem, ?_⟩⟩
      have ws : wipe σ3 vs = wipe σ vs := w3.trans wipe_idem
      have ll : Le Hs1 Hs3 := l'.trans (y2.trans l3)
      split at hl
      · rename_i e3 g3
        refine htt _ _ _ ⟨Hs3, e2, _, true, e3, k3, g3, fun Hs4 H4 l4 k4 => ?_⟩
        show (if true = true then _ else _)
        rw [if_pos rfl]
        split at hl
        · rename_i t e4 g4
          refine hte _ _ _ ⟨Hs4, e3, _, t, e4, k4, g4, fun Hs5 u H5 l5 p5 => ?_⟩
          split at hl
          · rename_i yv e5 g5
            split at hl
            · rename_i hz
              obtain ⟨Hs6, l6, k6, r6⟩ := p5.sh g5
              obtain ⟨p, e6, c6, n6, _⟩ := k6.temp _ List.mem_cons_self
              have e6 : V.ref Dn = .ref p := e6
              cases e6
              obtain ⟨xs, hx, rx⟩ := c6
              refine ⟨xs, hx, by rw [rx.length]; exact hz, Hs6, _, acc ++ [yv], ll.trans (l4.trans (l5.trans l6)), ?_, hl⟩
              have k7 := (k6.tempWrite (o := .lst (xs ++ [u])) (d' := .lst (acc ++ [yv])) ⟨_, upd_same, rx.append (.cons r6 .nil)⟩).wipe vs
              rw [ws] at k7
              exact k7
            · cases hl
          · cases hl
        · cases hl
      · rename_i e3 g3
        refine htt _ _ _ ⟨Hs3, e2, _, false, e3, k3, g3, fun Hs4 H4 l4 k4 => ?_⟩
        show (if false = true then _ else _)
        rw [if_neg (by decide)]
        have k7 := k4.wipe vs
        rw [ws] at k7
        exact ⟨Hs4, _, acc, ll.trans l4, k7, hl⟩
      · cases hl
    · cases hl
  · rintro H' ⟨Hs', e', acc, l', k', hl⟩
    rw [List.drop_length, lcF] at hl
    cases hl
    exact q Hs' H' l' (k1.unwipe k' l')
/-! ### the dict locked -/
theorem share_tup {K : PySem.W.Frag} {Hs H : Hp} {σ : St} {e : DEnv} {B : List (V × D)} {q : Addr} {us : List V} {ds : List D} (k : Ok K fx Hs H σ e B) (hq : H q = some (.tup us)) (r : RepL K Hs us ds) : ∃ Hs', Le Hs Hs' ∧ Ok K fx Hs' H σ e B ∧ Rep K Hs' (.ref q) (.tup ds) := by
  cases z : Hs q with
  | some o =>
    have := k.sub q o z
    rw [hq] at this; cases this
    exact ⟨Hs, Le.refl, k, .tup z r⟩
  | none =>
    have l : Le Hs (upd Hs q (.tup us)) := Le.upd z
    have nc : ∀ {v : V} {b : Bool} {d : D} {x : Addr}, OwnAt K fx Hs H v b d → v = .ref x → x ≠ q := fun {v b d x} ⟨y, h1, c, _⟩ h2 h3 => by
      rw [h1] at h2; cases h2
      subst h3
      exact c.notTup hq
    refine ⟨_, l, k.share l (fun b o y => ?_) (fun b o y => ?_) (fun i s x h1 h2 h3 => ?_) (fun x hx y h1 => ?_), .tup upd_same (r.mono l)⟩
    · by_cases hb : b = q
      · subst hb; rw [upd_same] at y; cases y; exact hq
      · rw [upd_ne hb] at y; exact k.sub b o y
    · by_cases hb : b = q
      · subst hb; rw [upd_same] at y; cases y; exact .inr (.inr (.inr ⟨_, rfl⟩))
      · rw [upd_ne hb] at y; exact .inl y
    · obtain ⟨v, g1, g2, _⟩ := k.slot i s h1
      rw [h3] at g1; cases g1
      have w := g2 h2
      rw [upd_ne (nc w rfl)]
      obtain ⟨y, e1, _, n, _⟩ := w
      cases e1; exact n
    · have w := k.temp x hx
      rw [upd_ne (nc w h1)]
      obtain ⟨y', e1, _, n, _⟩ := w
      rw [h1] at e1; cases e1; exact n
theorem gives_keys {K : PySem.W.Frag} {Hs0 : Hp} {kvs : List (Key × V)} : Gives K fx Hs0 ((kvs.map (·.1)).map keyD) (fun i H x H' => H' = H ∧ ∃ k v, kvs[i]? = some (k, v) ∧ x = kV k) := by
  rintro i H x H' ⟨rfl, k, v, h1, rfl⟩ Hs σ e B l ok
  exact ⟨keyD k, Hs, by rw [List.getElem?_map, List.getElem?_map, h1]; rfl, Le.refl, ok, rep_keyD k⟩
theorem gives_keysT {K : PySem.W.Frag} {Hs0 : Hp} {kvs : List (List Key × V)} : Gives K fx Hs0 ((kvs.map (·.1)).map fun k => .tup (k.map keyD)) (fun i H x H' => H' = H ∧ ∃ (k : List Key) (v : V) (q : Addr), kvs[i]? = some (k, v) ∧ x = .ref q ∧ H q = some (.tup (k.map kV))) := by
  rintro i H x H' ⟨rfl, k, v, q, h1, rfl, h2⟩ Hs σ e B l ok
  obtain ⟨Hs', l', ok', r⟩ := share_tup ok h2 (repL_keyD k)
  exact ⟨.tup (k.map keyD), Hs', by rw [List.getElem?_map, List.getElem?_map, h1]; rfl, l', ok', r⟩
theorem stands_lock {K : PySem.W.Frag} {Hs0 : Hp} {p : Addr} {o : HO} {σ : St} : Stands K (fx.lock p o σ) Hs0 (fun H => H p = some o) := fun {Hs H σ' e B} l k => k.frame p o (show upd fx.H0 p o p = _ from upd_same) fun h => by
  have h : p ∈ fx.L.filter _ := h
  rw [List.mem_filter] at h
  simp at h
/-- out of the lock -/
def openD (i : Nat) (s : Slot) (e : DEnv) (o : Out) : Option Out := match o with
  | .nx e' => if isOpqS e' i = true ∧ lentSame e e' i = true then some (.nx (e'.set i (some s))) else none
  | .rt t e' => if isOpqS e' i = true ∧ lentSame e e' i = true then some (.rt t (e'.set i (some s))) else none
  | _ => none
def sForD (i : Nat) (g : GD) (S : FS) : FS := fun e => match e[i]? with
  | some (some s) => if s.own = true then match keysD s.d with
    | some ks => match loopF g S ks (e.set i (some opqS)) with
      | some o => openD i s e o
      | none => none
    | none => none
    else none
  | _ => none
theorem keys_cases {K : PySem.W.Frag} {Hs H : Hp} {p : Addr} {d : D} {ks : List D} (c : Cell K Hs H p d) (h : keysD d = some ks) :
    (∃ kvs : List (Key × V), H p = some (.dK kvs) ∧ ks = (kvs.map (·.1)).map keyD) ∨ ∃ kvs : List (List Key × V), H p = some (.dT kvs) ∧ ks = (kvs.map (·.1)).map fun k => .tup (k.map keyD) := by
  cases d with
  | dK _ _ => obtain ⟨kvs, h1, rfl, _⟩ := c; cases h; exact .inl ⟨kvs, h1, rfl⟩
  | dT _ _ => obtain ⟨kvs, h1, rfl, _⟩ := c; cases h; exact .inr ⟨kvs, h1, rfl⟩
  | _ => cases h
theorem pg_all {tg : Expr} {t : Fx → TG} (h : ∀ fx, PG X tg (t fx)) : PG X tg (fun v σ H Q => ∃ fx, t fx v σ H Q) := ⟨fun pins s σ H v u Q I r ⟨fx, w⟩ => (h fx).run pins s σ H v u Q I r w⟩
theorem pss_all {body : List Stmt} {t : Fx → TS} (h : ∀ fx, PSs X body (t fx)) : PSs X body (fun D σ H => ∃ fx, t fx D σ H) := ⟨fun pins s σ H D I ⟨fx, w⟩ => (h fx).run pins s σ H D I w⟩
theorem pts_all {ifs : List Expr} {t : Fx → TT} (h : ∀ fx, PTs X ifs (t fx)) : PTs X ifs (fun σ H Q => ∃ fx, t fx σ H Q) := ⟨fun pins s σ H Q I ⟨fx, w⟩ => (h fx).run pins s σ H Q I w⟩
theorem pe_all {e : Expr} {t : Fx → TE} (h : ∀ fx, PE X e (t fx)) : PE X e (fun σ H Q => ∃ fx, t fx σ H Q) := ⟨fun pins s σ H Q I ⟨fx, w⟩ => (h fx).run pins s σ H Q I w⟩
theorem ds_forD {i : Nat} {x : Str} {tg : Expr} {body : List Stmt} {g : GD} {S : FS} {p pos : Pos} (hp : PassesOwn (model X.prog X.w) X.A X.env X.xe) (hc : X.calm = true) (hN : X.N[i]? = some x) (hv : Vis X.env.scope x) (hg : ∀ fx, DG X fx tg g) (hb : ∀ fx, DSs X fx body S)
    (hd : (x == ("__debug__" : Str)) = false := by decide) (hcd : (x == ("__classdict__" : Str)) = false := by decide) (hs : ∀ y, foldedSetIterable (.Name x p) X.env y = pure y := by intro _; rfl) : DS X fx (.For tg (.Name x p) body [] pos) (sForD i g S) :=
  ps_imp (ps_lock (ps_for hp hc (pi_keys (pe_var (pos := p) hN hv hd hcd)) (pg_all (t := fun fx => tDG X.K fx g) hg) (pss_all (t := fun fx => tDS X.K fx S) hb) hs)) fun Dn σ H h => by
  obtain ⟨Hs, e, B, out, k, hf, q⟩ := h
  unfold sForD at hf
  split at hf
  · rename_i s hs1
    split at hf
    · rename_i ho
      split at hf
      · rename_i ks hks
        split at hf
        · rename_i o hl
          obtain ⟨v, g1, g2, _⟩ := k.slot i s hs1
          obtain ⟨a, rfl, c, hn, _⟩ := g2 ho
          obtain ⟨u, hu⟩ := c.there
          have fin : ∀ od, EndOk X.K (fx.lock a (.frz od u) σ) Hs B ⟨fun σ' H' => H' a = some (.frz od u) ∧ Dn.nx σ' (upd H' a u), fun v H' => H' a = some (.frz od u) ∧ Dn.rt v (upd H' a u), fun σ' H' => H' a = some (.frz od u) ∧ Dn.bk σ' (upd H' a u), fun σ' H' => H' a = some (.frz od u) ∧ Dn.ct σ' (upd H' a u)⟩ o := fun od => by
            unfold openD at hf
            split at hf
            · split at hf
              · rename_i w
                cases hf
                intro Hs' σ' H' l k'
                obtain ⟨z1, z2⟩ := k.unlocked hs1 ho g1 hu l k' (isOpqS_get w.1) w.2
                exact ⟨z1, q Hs' σ' _ l z2⟩
              · cases hf
            · split at hf
              · rename_i t e' w
                cases hf
                intro Hs' σ' v H' l k'
                obtain ⟨z1, z2⟩ := k.unlocked hs1 ho g1 hu l k'.1 (isOpqS_get w.1) w.2
                refine ⟨z1, q Hs' σ' v _ l ⟨z2, ?_⟩⟩
                have is := k'.2
                cases t with
                | sh d => exact is
                | ow d => trivial
                | loc j => exact is
              · cases hf
            · cases hf
          have start : ∀ od, Ok X.K (fx.lock a (.frz od u) σ) Hs (upd H a (.frz od u)) σ (e.set i (some opqS)) B := fun od => k.locked hs1 ho g1 hn
          rcases keys_cases c hks with ⟨kvs, h1, rfl⟩ | ⟨kvs, h1, rfl⟩
          · rw [hu] at h1
            obtain rfl : u = .dK kvs := Option.some.inj h1
            refine ⟨a, .dK kvs, hu, trivial, fun od => ⟨_, g1, a, od, rfl, .inl ⟨kvs, upd_same, ?_⟩⟩⟩
            exact for_go (fx := fx.lock a (.frz od (.dK kvs)) σ) (tg' := fun v σ H Q => ∃ fx, tDG X.K fx g v σ H Q) (ts' := fun D σ H => ∃ fx, tDS X.K fx S D σ H) (fun _ _ _ _ h => ⟨_, h⟩) (fun _ _ _ h => ⟨_, h⟩) (by simpa using walk_keys (d := a) (o := od) (kvs := kvs)) stands_lock gives_keys (start od) hl (fin od)
          · rw [hu] at h1
            obtain rfl : u = .dT kvs := Option.some.inj h1
            refine ⟨a, .dT kvs, hu, trivial, fun od => ⟨_, g1, a, od, rfl, .inr ⟨kvs, upd_same, ?_⟩⟩⟩
            exact for_go (fx := fx.lock a (.frz od (.dT kvs)) σ) (tg' := fun v σ H Q => ∃ fx, tDG X.K fx g v σ H Q) (ts' := fun D σ H => ∃ fx, tDS X.K fx S D σ H) (fun _ _ _ _ h => ⟨_, h⟩) (fun _ _ _ h => ⟨_, h⟩) (by simpa using walk_keysT (d := a) (o := od) (kvs := kvs)) stands_lock gives_keysT (start od) hl (fin od)
        · cases hf
      · cases hf
    · cases hf
  · cases hf
def fLcD (i : Nat) (vs : List Nat) (g : GD) (A : FB) (F : FE) : FE := fun e => match e[i]? with
  | some (some s) => if s.own = true then match keysD s.d with
    | some ks => match lcF vs g A F ks [] (wipeE (e.set i (some opqS)) vs) with
      | some (acc, e2) => if isOpqS (unwipe (e.set i (some opqS)) e2 vs) i = true ∧ lentSame e (unwipe (e.set i (some opqS)) e2 vs) i = true then some (.ow (.lst acc), (unwipe (e.set i (some opqS)) e2 vs).set i (some s)) else none
      | none => none
    | none => none
    else none
  | _ => none
theorem lcD_go {i : Nat} {vs : List Nat} {g : GD} {A : FB} {F : FE} {σ : St} {H : Hp} {Q : VK} (h : tD X.K fx (fLcD i vs g A F) σ H Q) :
    tLockE (tLc (iKeys (tVar i)) (fun v σ H Q => ∃ fx, tDGw X.K fx vs g v σ H Q) (fun σ H Q => ∃ fx, tDT X.K fx A σ H Q) (fun σ H Q => ∃ fx, tD X.K fx F σ H Q) vs) σ H Q := by
  obtain ⟨Hs, e, B, t, e', k, hf, q⟩ := h
  unfold fLcD at hf
  split at hf
  · rename_i s hs1
    split at hf
    · rename_i ho
      split at hf
      · rename_i ks hks
        split at hf
        · rename_i acc e2 hl
          split at hf
          · rename_i w
            cases hf
            obtain ⟨v, g1, g2, _⟩ := k.slot i s hs1
            obtain ⟨a, rfl, c, hn, _⟩ := g2 ho
            obtain ⟨u, hu⟩ := c.there
            have start : ∀ od, Ok X.K (fx.lock a (.frz od u) σ) Hs (upd H a (.frz od u)) σ (e.set i (some opqS)) B := fun od => k.locked hs1 ho g1 hn
            have fin : ∀ od Dn Hs' H', Le Hs Hs' → Ok X.K (fx.lock a (.frz od u) σ) Hs' H' σ (unwipe (e.set i (some opqS)) e2 vs) ((.ref Dn, .lst acc) :: B) → H' a = some (.frz od u) ∧ Q (.ref Dn) (upd H' a u) := fun od Dn Hs' H' l k' => by
              obtain ⟨z1, z2⟩ := k.unlocked hs1 ho g1 hu l k' (isOpqS_get w.1) w.2
              exact ⟨z1, q Hs' (.ref Dn) _ l ⟨z2, trivial⟩⟩
            rcases keys_cases c hks with ⟨kvs, h1, rfl⟩ | ⟨kvs, h1, rfl⟩
            · rw [hu] at h1
              obtain rfl : u = .dK kvs := Option.some.inj h1
              refine ⟨a, .dK kvs, hu, trivial, fun od => ⟨_, g1, a, od, rfl, .inl ⟨kvs, upd_same, fun Dn hD => ?_⟩⟩⟩
              exact lc_go2 (fx := fx.lock a (.frz od (.dK kvs)) σ) (tg' := fun v σ H Q => ∃ fx, tDGw X.K fx vs g v σ H Q) (tt' := fun σ H Q => ∃ fx, tDT X.K fx A σ H Q) (te' := fun σ H Q => ∃ fx, tD X.K fx F σ H Q) (fun _ _ _ _ h => ⟨_, h⟩) (fun _ _ _ h => ⟨_, h⟩) (fun _ _ _ h => ⟨_, h⟩) (by simpa using walk_keys (d := a) (o := od) (kvs := kvs)) stands_lock gives_keys (start od) hD hl (fin od Dn)
            · rw [hu] at h1
              obtain rfl : u = .dT kvs := Option.some.inj h1
              refine ⟨a, .dT kvs, hu, trivial, fun od => ⟨_, g1, a, od, rfl, .inr ⟨kvs, upd_same, fun Dn hD => ?_⟩⟩⟩
              exact lc_go2 (fx := fx.lock a (.frz od (.dT kvs)) σ) (tg' := fun v σ H Q => ∃ fx, tDGw X.K fx vs g v σ H Q) (tt' := fun σ H Q => ∃ fx, tDT X.K fx A σ H Q) (te' := fun σ H Q => ∃ fx, tD X.K fx F σ H Q) (fun _ _ _ _ h => ⟨_, h⟩) (fun _ _ _ h => ⟨_, h⟩) (fun _ _ _ h => ⟨_, h⟩) (by simpa using walk_keysT (d := a) (o := od) (kvs := kvs)) stands_lock gives_keysT (start od) hD hl (fin od Dn)
          · cases hf
        · cases hf
      · cases hf
    · cases hf
  · cases hf
theorem de_lcD {i : Nat} {x : Str} {p : Pos} {elt tg : Expr} {ifs : List Expr} {scope : Scope} {own : List (Str × Nat)} {pos : Pos} {g : GD} {A : FB} {F : FE} (hc : X.calm = true) (hN : X.N.Nodup) (hi : X.N[i]? = some x) (hv : Vis X.env.scope x) (ok : BlkOk X.N X.env.scope scope own)
    (hg : ∀ fx (s : Shared) (H : Hp) (C : Addr) (cl : List (Str × Addr)) (fp : List Addr), DGw (X.blk s H scope (compEnvC scope cl C X.env) fp) fx (own.map Prod.snd) tg g) (ht : ∀ fx (s : Shared) (H : Hp) (C : Addr) (cl : List (Str × Addr)) (fp : List Addr), DIfs (X.blk s H scope (compEnvC scope cl C X.env) fp) fx ifs A)
    (he : ∀ fx (s : Shared) (H : Hp) (C : Addr) (cl : List (Str × Addr)) (fp : List Addr), DE (X.blk s H scope (compEnvC scope cl C X.env) fp) fx elt F)
    (hd : (x == ("__debug__" : Str)) = false := by decide) (hcd : (x == ("__classdict__" : Str)) = false := by decide) (hs : ∀ y, foldedSetIterable (.Name x p) X.env y = pure y := by intro _; rfl) :
    DE X fx (.ListComp elt [⟨tg, .Name x p, ifs, 0⟩] scope pos) (fLcD i (own.map Prod.snd) g A F) :=
  pe_imp (pe_lock (pe_lc (own := own) (g := fun v σ H Q => ∃ fx, tDGw X.K fx (own.map Prod.snd) g v σ H Q) (tt := fun σ H Q => ∃ fx, tDT X.K fx A σ H Q) (te := fun σ H Q => ∃ fx, tD X.K fx F σ H Q) hc hN (pi_keys (pe_var (pos := p) hi hv hd hcd)) ok
    (fun s H C cl fp => pg_all (t := fun fx => tDGw X.K fx (own.map Prod.snd) g) fun fx => hg fx s H C cl fp) (fun s H C cl fp => pts_all (t := fun fx => tDT X.K fx A) fun fx => ht fx s H C cl fp) (fun s H C cl fp => pe_all (t := fun fx => tD X.K fx F) fun fx => he fx s H C cl fp) hs)) fun σ H Q h => lcD_go h
end
end DD

namespace DD
open PySem PySem.Spec PyProof.Rows L2
section
variable {X : Cx} {fx : Fx}
/-! ### a def, from its body's meaning -/
/-- what a def gives back -/
def outsD (np : Nat) (as : List (Bool × D)) (e : DEnv) : Option (List (Bool × D)) := (List.range np).mapM fun j => match as[j]? with
  | some (true, _) => match e[j]? with
    | some (some s) => if s.lent = true then some (s.own, s.d) else none
    | _ => none
  | some (false, _) => some (false, .non)
  | none => none
def retD (t : T) (e : DEnv) : Option ((Bool × D) × DEnv) := match t with
  | .sh d => some ((false, d), e)
  | .ow d => some ((true, d), e)
  | .loc i => match e[i]? with
    | some (some s) => if s.own = true ∧ s.lent = false then some ((true, s.d), e) else if s.own = false then some ((false, s.d), e) else none
    | _ => none
def endDef (np : Nat) (as : List (Bool × D)) (t : T) (e : DEnv) : Option ((Bool × D) × List (Bool × D)) := do
  let (r, e1) ← retD t e
  let os ← outsD np as e1
  pure (r, os)
def argSlots (as : List (Bool × D)) : DEnv := as.map fun a => some ⟨a.1, a.1, a.2⟩
def runDef (np n : Nat) (S : FS) : GF := fun as => if as.length = np then match S (argSlots as ++ List.replicate (n - np) none) with
  | some (.rt t e) => endDef np as t e
  | some (.nx e) => endDef np as (.sh .non) e
  | _ => none
  else none
theorem mapM_len {α β : Type} {f : α → Option β} : ∀ {l : List α} {r : List β}, l.mapM f = some r → l.length = r.length := by
  intro l
  induction l with
  | nil => intro r h; simp at h; subst h; rfl
  | cons a l ih =>
    intro r h
    rw [List.mapM_cons] at h
    simp only [Option.bind_eq_bind, Option.bind_eq_some_iff] at h
    obtain ⟨b, _, bs, h2, h3⟩ := h
    cases h3
    simp [ih h2]
theorem mapM_get {α β : Type} {f : α → Option β} : ∀ {l : List α} {r : List β} {i : Nat} {b : β}, l.mapM f = some r → r[i]? = some b → ∃ a, l[i]? = some a ∧ f a = some b := by
  intro l
  induction l with
  | nil => intro r i b h e; simp at h; subst h; simp at e
  | cons a l ih =>
    intro r i b h e
    rw [List.mapM_cons] at h
    simp only [Option.bind_eq_bind, Option.bind_eq_some_iff] at h
    obtain ⟨b', h1, bs, h2, h3⟩ := h
    cases h3
    cases i with
    | zero => simp at e; subst e; exact ⟨a, rfl, h1⟩
    | succ i => obtain ⟨a', e1, e2⟩ := ih (i := i) h2 (by simpa using e); exact ⟨a', by simpa using e1, e2⟩
theorem runDef_outs {np n : Nat} {S : FS} {as : List (Bool × D)} {r : Bool × D} {os : List (Bool × D)} (h : runDef np n S as = some (r, os)) : as.length = os.length := by
  have fin : ∀ t e, as.length = np → endDef np as t e = some (r, os) → as.length = os.length := fun t e l h => by
    unfold endDef at h
    simp only [Option.bind_eq_bind, Option.bind_eq_some_iff] at h
    obtain ⟨⟨r1, e1⟩, _, os1, h2, h3⟩ := h
    cases h3
    have := mapM_len h2
    rw [List.length_range] at this
    omega
  unfold runDef at h
  split at h
  · rename_i l
    split at h
    · exact fin _ _ l h
    · exact fin _ _ l h
    · cases h
  · cases h
theorem arg_get {as : List (Bool × D)} {m i : Nat} {s : Slot} (h : (argSlots as ++ List.replicate m none)[i]? = some (some s)) : ∃ a, as[i]? = some a ∧ s = ⟨a.1, a.1, a.2⟩ := by
  by_cases hi : i < as.length
  · have hl : i < (argSlots as).length := by unfold argSlots; simpa using hi
    rw [List.getElem?_append_left hl] at h
    unfold argSlots at h
    rw [List.getElem?_map, List.getElem?_eq_getElem hi] at h
    exact ⟨as[i], List.getElem?_eq_getElem hi, by cases h; rfl⟩
  · have hl : (argSlots as).length ≤ i := by unfold argSlots; simpa using hi
    rw [List.getElem?_append_right hl] at h
    rw [List.getElem?_replicate] at h
    split at h <;> cases h
theorem start_get {N : List Str} {vs : List V} {i : Nat} {v : V} (h : vs[i]? = some v) : (L2.start N vs)[i]? = some (some v) := by
  have hi : i < vs.length := (List.getElem?_eq_some_iff.mp h).1
  unfold L2.start
  rw [List.getElem?_append_left (by simpa using hi), List.getElem?_map, h]; rfl
theorem def_start {K : PySem.W.Frag} {Hs H : Hp} {L : List Addr} {vs : List V} {as : List (Bool × D)} {N : List Str} {n : Nat} (hsub : Le Hs H) (hL : ∀ b ∈ L, ∃ o, H b = some o) (ha : ArgsOk K Hs H L vs as) (hN : N.length = n) (hle : as.length ≤ n) :
    Ok K ⟨L, H, Hs, L2.start N vs⟩ Hs H (L2.start N vs) (argSlots as ++ List.replicate (n - as.length) none) [] := by
  obtain ⟨h1, h2, h3⟩ := ha
  have vget : ∀ {i : Nat} {a : Bool × D}, as[i]? = some a → ∃ v, vs[i]? = some v := fun {i a} e => by
    have : i < vs.length := by rw [h1]; exact (List.getElem?_eq_some_iff.mp e).1
    exact ⟨vs[i], List.getElem?_eq_getElem this⟩
  refine ⟨?_, hsub, Le.refl, fun b o h => .inl h, fun b o h _ => h, hL, fun i s h => ?_, fun x hx => (by cases hx), fun i j s t v ne a b c d e f => ?_, fun i s x a b c => (by cases c), .nil, fun i s a b => rfl⟩
  · unfold L2.start argSlots
    simp only [List.length_append, List.length_map, List.length_replicate]
    omega
  · obtain ⟨a, g1, rfl⟩ := arg_get h
    obtain ⟨v, g2⟩ := vget g1
    obtain ⟨w1, w2⟩ := h2 i v a g2 g1
    refine ⟨v, start_get g2, fun z => ?_, w2⟩
    obtain ⟨p, e1, c, n1, n2⟩ := w1 z
    refine ⟨p, e1, c, n1, ?_⟩
    have z : a.1 = true := z
    show if a.1 = true then _ else _
    rw [if_pos z]; exact n2
  · obtain ⟨a', g1, rfl⟩ := arg_get a
    obtain ⟨b', g2, rfl⟩ := arg_get b
    obtain ⟨v1, k1⟩ := vget g1
    obtain ⟨v2, k2⟩ := vget g2
    rw [start_get k1] at e
    rw [start_get k2] at f
    cases e
    cases f
    exact h3 i j a' b' _ ne g1 g2 c d k1 k2
theorem def_end {K : PySem.W.Frag} {Hs H Hs' H' : Hp} {L : List Addr} {vs : List V} {as : List (Bool × D)} {N : List Str} {np : Nat} {σ' : St} {e' : DEnv} {v : V} {t : T} {r : Bool × D} {os : List (Bool × D)} (ha : ArgsOk K Hs H L vs as) (hl : as.length = np)
    (l : Le Hs Hs') (p : Post K ⟨L, H, Hs, L2.start N vs⟩ Hs' H' σ' e' [] v t) (h : endDef np as t e' = some (r, os)) : Back K Hs H L vs as r os Hs' v H' := by
  unfold endDef at h
  simp only [Option.bind_eq_bind, Option.bind_eq_some_iff] at h
  obtain ⟨⟨r1, e1⟩, h1, os1, h2, h3⟩ := h
  cases h3
  have k := p.ok
  have he : e1 = e' := by
    unfold retD at h1
    split at h1
    · cases h1; rfl
    · cases h1; rfl
    · split at h1
      · split at h1
        · cases h1; rfl
        · split at h1
          · cases h1; rfl
          · cases h1
      · cases h1
  subst he
  refine ⟨l, k.sub, k.ext, k.frame, k.lt, fun j u a o g1 g2 g3 g4 => ?_, ?_⟩
  · obtain ⟨j', q1, q2⟩ := mapM_get h2 g4
    have hj : j < np := by rw [← hl]; exact (List.getElem?_eq_some_iff.mp g2).1
    rw [List.getElem?_range hj] at q1
    cases q1
    rw [g2] at q2
    obtain ⟨a1, a2⟩ := a
    have g3 : a1 = true := g3
    subst g3
    dsimp only at q2
    split at q2
    · rename_i s hs
      split at q2
      · rename_i hlent
        cases q2
        obtain ⟨w, w1, w2, w3⟩ := k.slot j s hs
        rw [k.ls j s hs hlent] at w1
        have w1 : (L2.start N vs)[j]? = some (some w) := w1
        rw [start_get g1] at w1
        cases w1
        refine ⟨fun z => ?_, w3⟩
        obtain ⟨p, e1, c, n, _⟩ := w2 z
        exact ⟨p, e1, c, n⟩
      · cases q2
    · cases q2
  · unfold retD at h1
    split at h1
    · cases h1
      exact ⟨fun z => (by cases z), fun _ => p.2⟩
    · cases h1
      have k1 : Ok K ⟨L, H, Hs, L2.start N vs⟩ Hs' H' σ' e1 [(v, _)] := p.1
      obtain ⟨p, e2, c, n, g⟩ := k1.temp _ List.mem_cons_self
      exact ⟨fun _ => ⟨p, e2, c, n, by simpa using g⟩, fun z => (by cases z)⟩
    · split at h1
      · rename_i i _ s hs
        have hv : σ'[i]? = some (some v) := p.2
        obtain ⟨w, w1, w2, w3⟩ := k.slot i s hs
        rw [hv] at w1
        cases w1
        split at h1
        · rename_i w
          cases h1
          obtain ⟨p, e2, c, n, g⟩ := w2 w.1
          exact ⟨fun _ => ⟨p, e2, c, n, by rw [w.2, if_neg (by decide)] at g; exact g⟩, fun z => (by cases z)⟩
        · split at h1
          · rename_i w
            cases h1
            exact ⟨fun z => (by cases z), fun _ => w3 w⟩
          · cases h1
      · cases h1
theorem def_ok {P : Program} {w : World} {K : PySem.W.Frag} {mg : Str → Option Value} {base : Heap} {x qual : Str} {st : Stmt} {f : Addr} {fd : FuncData} {N ps : List Str} {k np n : Nat} {S : FS} (F : Fun K x qual st f fd) (Sc : FnScope N ps (defScope st)) (hN : N.length = n) (hp : ps.length = np) (hle : np ≤ n)
    (body : ∀ (cdv : Value) (A : Around) (outer : List Env) (s : Shared) (H : Hp) (E : XK) (fx : Fx), Room k (A.deeper (envOfC qual (defScope st) s.heap.objs.size f cdv)) → DSs (cxOf CX0 P w K mg base N qual (defScope st) f cdv A outer s H E).nox fx (defBody st) S) :
    FnOk P w K mg base CX0 (k + 1) f fd ps (spD K (runDef np n S)) := by
  refine F.ok Sc (fun vs H Q E h => ?_) (fun cdv A outer s H vs Q E hr h => ?_)
  · obtain ⟨Hs, L, as, r, os, _, _, ha, hg, _⟩ := h
    unfold runDef at hg
    split at hg
    · rename_i hl
      rw [ha.1, hl, hp]
    · cases hg
  · obtain ⟨Hs, L, as, r, os, h1, h2, h3, h4, h5⟩ := h
    refine ⟨_, body cdv A outer s H E ⟨L, H, Hs, L2.start N vs⟩ hr, ?_⟩
    unfold runDef at h4
    split at h4
    · rename_i hl
      have start := def_start h1 h2 h3 hN (by omega)
      rw [hl] at start
      split at h4
      · rename_i t e ho
        exact ⟨Hs, _, [], _, start, ho, fun Hs' σ' v H' l p => h5 Hs' v H' (def_end h3 hl l p h4)⟩
      · rename_i e ho
        exact ⟨Hs, _, [], _, start, ho, fun Hs' σ' H' l p => h5 Hs' .non H' (def_end (t := .sh .non) h3 hl l ⟨p, .non⟩ h4)⟩
      · cases h4
    · cases h4
theorem df_mk {P : Program} {w : World} {K : PySem.W.Frag} {mg : Str → Option Value} {base : Heap} {x : Str} {st : Stmt} {f : Addr} {fd : FuncData} {ps : List Str} {k np n : Nat} {S : FS} (F : Fun K x x st f fd) (hm : mg x = some (.ref f)) (hb : Binds K fd ps []) (h : FnOk P w K mg base CX0 k f fd ps (spD K (runDef np n S))) :
    DF P w K mg base k x ps (runDef np n S) := ⟨⟨f, fd, h, hm, F.kp, hb⟩, fun _ _ _ e => runDef_outs e⟩
end
end DD

namespace DD
open PySem PySem.Spec PyProof.Rows L2
section
variable {X : Cx} {fx : Fx}
/-! ### text * int -/
def repS (z : Str) (n : Nat) : Str := ⟨(List.replicate n z.cps).foldl (· ++ ·) #[]⟩
theorem repS_fold : ∀ (n : Nat) (c a : Array Nat), ((List.replicate n c).foldl (· ++ ·) a).size = a.size + n * c.size
  | 0, c, a => by simp
  | n + 1, c, a => by
    rw [List.replicate_succ, List.foldl_cons, repS_fold n c, Array.size_append, Nat.succ_mul]
    omega
theorem repS_len (z : Str) (n : Nat) : (repS z n).length = n * z.length := by
  show ((List.replicate n z.cps).foldl (· ++ ·) #[]).size = _
  rw [repS_fold]
  simp [Str.length]
def mulF : D → D → Option T
  | .str z, .int n => if 2 ≤ n ∧ 0 < z.length ∧ z.length * n.toNat ≤ 16777216 then some (.sh (.str (repS z n.toNat))) else none
  | a, b => mulD a b
def rMulS : R2 := fun x y H Q => ∃ z n, x = .str z ∧ y = .int n ∧ 2 ≤ n ∧ 0 < z.length ∧ z.length * n.toNat ≤ 16777216 ∧ Q (.str (repS z n.toNat)) H
theorem op_mulS : OpR X (binaryOp .Mult) rMulS := by
  intro pins s σ H x y v u Q I rx ry ⟨z, n, e1, e2, h2, h0, hz, q⟩
  subst e1 e2
  obtain ⟨t, rfl⟩ := rx
  obtain ⟨t', rfl⟩ := ry
  have hb : n ≤ 16777216 := by
    have : n.toNat ≤ z.length * n.toNat := Nat.le_mul_of_pos_left _ h0
    omega
  have hl := sizeLine_eq
  have d1 : decide (n < -(2 ^ 63 : Int)) = false := decide_eq_false (by omega)
  have d2 : decide (n ≥ (2 : Int) ^ 63) = false := decide_eq_false (by omega)
  refine PySem.P.mul_str (by rw [d1, d2]; rfl) (fun _ _ => ?_) (fun _ _ => ?_) ?_
  · intro w
    have h3 : (n : Int) * z.length ≤ 16777216 := by
      have e := Int.ofNat_le.mpr hz
      rw [Int.natCast_mul, Int.toNat_of_nonneg (by omega)] at e
      rw [Int.mul_comm]; exact e
    have h4 : (2 ^ 63 - 1 : Int) / n < z.length := w
    rw [Int.ediv_lt_iff_lt_mul (by omega)] at h4
    rw [Int.mul_comm] at h4
    omega
  · unfold Builtin.Str.tooLong
    rw [decide_eq_false]
    rw [hl]; omega
  · rw [if_neg (by omega)]
    have e1 : (n == 1 || z.length == 0) = false := by
      rw [Bool.or_eq_false_iff]
      exact ⟨beq_eq_false_iff_ne.mpr (by omega), beq_eq_false_iff_ne.mpr (by omega)⟩
    rw [e1, if_neg (by decide)]
    refine ⟨?_, .str (repS z n.toNat), H, I.tok _, ⟨_, rfl⟩, q⟩
    have := repS_len z n.toNat
    unfold repS at this
    rw [this, hl, Nat.mul_comm]; exact hz
def rMulB : R2 := fun x y H Q => rMulS x y H Q ∨ rMulA x y H Q
theorem op_mulB : OpR X (binaryOp .Mult) rMulB := op_mulS.or op_mulA
theorem ok_mulB : OkR X rMulB mulF := by
  intro fx Hs H σ e B x y a b t Q k ra rb hg q
  unfold mulF at hg
  split at hg
  · split at hg
    · rename_i w
      cases hg
      cases (show Rep X.K Hs x (.str _) from ra)
      cases (show Rep X.K Hs y (.int _) from rb)
      exact .inl ⟨_, _, rfl, rfl, w.1, w.2.1, w.2.2, q Hs _ H Le.refl ⟨k, .str _⟩⟩
    · cases hg
  · exact .inr (ok_mulA k ra rb hg q)
/-! ### sorted(a dict) -/
/-- a key, as a value -/
def RK (H : Hp) (v : V) (d : D) : Prop := (∃ k, v = kV k ∧ d = keyD k) ∨ ∃ (k : List Key) (q : Addr), v = .ref q ∧ H q = some (.tup (k.map kV)) ∧ d = .tup (k.map keyD)
def rSortK : List V → Hp → VK → Prop := fun vs H Q => ∃ (a : Addr) (ds : List D), vs = [.ref a] ∧ ((∃ kvs : List (Key × V), H a = some (.dK kvs) ∧ ds = (kvs.map (·.1)).map keyD) ∨ (∃ kvs : List (List Key × V), H a = some (.dT kvs) ∧ ds = (kvs.map (·.1)).map fun k => .tup (k.map keyD))) ∧ sortOk ds = true ∧
  ∀ ys p, PySem.W.EachIs (RK H) ys (sortD ds) → H p = none → Q (.ref p) (upd H p (.lst ys))
theorem each_at {α β : Type} {R : α → β → Prop} : ∀ {as : List α} {bs : List β}, as.length = bs.length → (∀ (j : Nat) a b, as[j]? = some a → bs[j]? = some b → R a b) → PySem.W.EachIs R as bs
  | [], [], _, _ => .nil
  | a :: as, b :: bs, l, h => .cons (h 0 a b rfl rfl) (each_at (by simpa using l) fun j x y e1 e2 => h (j + 1) x y (by simpa using e1) (by simpa using e2))
  | [], _ :: _, l, _ => by simp at l
  | _ :: _, [], l, _ => by simp at l
theorem sort_src {E : Value → Shared → Prop} {s : Shared} {R : String} {d : Addr} {n : Nat} {P : Nat → Value → Prop} {OK : Heap → Prop} {Q : Value → Shared → Prop} {ds : List D} {Rl : Value → D → Prop} (src : PySem.W.KdlSrc X.prog X.w R d d n P OK) (hh : X.A.handled = none) (hok : OK s.heap) (hn : n ≤ sizeLine) (hu : X.A.units + 64 < cLine) (ok : sortOk ds = true)
    (h : ∀ (h' : Heap) (tk : Nat) (acc : Array Value), (∀ b o, s.heap.get? b = some o → h'.get? b = some o) → ItemsOf P acc n → PySem.W.EachIs Rl acc.toList ds ∧ PySem.W.EachIs (fun v b => ∃ as, Reads h' v (py b) as) acc.toList ds ∧
      ∀ out e2 h2, PySem.W.EachIs Rl out (sortD ds) → out.length = ds.length → h2.get? h'.objs.size = some (seqObj "list" (List.toArray out) e2) → (∀ b o, h'.get? b = some o → h2.get? b = some o) → Q (.ref h'.objs.size) { s with heap := h2, toks := tk }) :
    wpAny (model X.prog X.w) X.A (call (.builtin "sorted") [.ref d]) Q E s := by
  simp only [sortOk, Bool.and_eq_true, decide_eq_true_eq, List.all_eq_true] at ok
  obtain ⟨⟨⟨⟨o1, o2⟩, o3⟩, o4⟩, o5⟩ := ok
  refine Calls.call_function_entry PyProof.Rows.kind_sorted PyProof.Rows.plain_sorted PyProof.Rows.entry_sorted (PyProof.Rows.args_sorted1 _) ?_
  unfold Builtin.«sorted»
  refine wpAny_bind (m := checkCount "sorted" 1 1 _) (wpAny_pure ?_)
  refine wpAny_bind (PySem.W.kdu_collect (A := X.A.in1) src hh hok hn fun h' tk acc hk hacc => ?_)
  obtain ⟨e1, er, fin⟩ := h h' tk acc hk hacc
  have hlen : acc.toList.length = ds.length := e1.length
  refine wpAny_bind (wpAny_newList ?_ (by rw [hlen]; exact o4))
  have hoL : (h'.push (seqObj "list" acc.toList.toArray 0)).get? h'.objs.size = some (seqObj "list" acc.toList.toArray 0) := Heap.get?_push_size _ rfl
  show wpAny _ _ _ _ _ { s with heap := h'.push (seqObj "list" acc.toList.toArray 0), toks := tk }
  have hal : PySem.W.AllAlike (ds.map py) := fun x hx y hy => by
    obtain ⟨d, hd, rfl⟩ := List.mem_map.mp hx
    obtain ⟨d', hd', rfl⟩ := List.mem_map.mp hy
    exact List.all_eq_true.mp (List.all_eq_true.mp o2 d hd) d' hd'
  have keep : ∀ b o, h'.get? b = some o → (PySem.W.sortingHeap (h'.push (seqObj "list" acc.toList.toArray 0)) h'.objs.size acc.toList).get? b = some o := fun b o z =>
    PySem.W.sortingHeap_old (Nat.ne_of_lt (Heap.lt_size z)) (Heap.get?_push_of_some _ z)
  have er' : PySem.W.EachIs (fun v b => ∃ as, Reads (PySem.W.sortingHeap (h'.push (seqObj "list" acc.toList.toArray 0)) h'.objs.size acc.toList) v (py b) as) acc.toList ds := er.mono fun _ _ ⟨as, r⟩ => ⟨as, PyProof.Rows.Reads.keeps keep r⟩
  refine wpAny_bind (wpAny_holding (wpAny_call_entry PyProof.Rows.slot_list_sort ⟨_, hoL, rfl⟩ PyProof.Rows.entry_list_sort
    (PySem.W.list_sort_vals (s := { s with heap := h'.push (seqObj "list" acc.toList.toArray 0), toks := tk }) hoL
      (PySem.W.SortsAt.data (s := { s with heap := PySem.W.sortingHeap (h'.push (seqObj "list" acc.toList.toArray 0)) h'.objs.size acc.toList, toks := tk }) (PySem.W.each_map (R := fun v d => ∃ as, Reads (PySem.W.sortingHeap (h'.push (seqObj "list" acc.toList.toArray 0)) h'.objs.size acc.toList) v d as) py er') hal (sortable_ok o3) (PySem.W.bound_map fun b hb => ?_)) (by rw [hlen]; exact o4) ⟨_, rfl, ?_⟩)
    (PyProof.Rows.args_list_sort _)))
  · have := o5 b hb
    show X.A.units + 1 + 1 + _ < cLine
    omega
  · obtain ⟨e2, he2⟩ := PyProof.Rows.sortedHeap_at (vs := acc.toList) (out := (PySem.W.sortVals (PySem.W.dataKind (PySem.W.sortingHeap (h'.push (seqObj "list" acc.toList.toArray 0)) h'.objs.size acc.toList) (ds.map py)) false acc.toList acc.toList).toArray) hoL
    refine wpAny_pure ⟨_, rfl, fin _ e2 _ (PySem.W.sortVals_data false e1 er' hal) (by rw [PySem.W.sortVals_length false rfl]; exact hlen) he2 fun b o z => ?_⟩
    have hb : b < h'.objs.size := Heap.lt_size z
    rw [PyProof.Rows.sortedHeap_old (Nat.ne_of_lt hb) (by rw [size_push']; exact Nat.lt_succ_of_lt hb)]
    exact Heap.get?_push_of_some _ z
theorem keyV_py (k : Key) : (∃ i, k = .inl i ∧ py (keyD k) = .int i) ∨ ∃ z, k = .inr z ∧ py (keyD k) = .str z := by
  cases k with
  | inl i => exact .inl ⟨i, rfl, rfl⟩
  | inr z => exact .inr ⟨z, rfl, rfl⟩
theorem dp_key {K : PySem.W.Frag} {H : Hp} (k : Key) : Dp K H (kV k) (py (keyD k)) := by
  cases k with
  | inl i => exact .int i
  | inr z => exact .str z
theorem dp_keys {K : PySem.W.Frag} {H : Hp} : ∀ ks : List Key, DpAll K H (ks.map kV) (pyL (ks.map keyD))
  | [] => .nil
  | k :: ks => .cons (dp_key k) (dp_keys ks)
theorem rk_dp {K : PySem.W.Frag} {H : Hp} {v : V} {d : D} (h : RK H v d) : Dp K H v (py d) := by
  rcases h with ⟨k, rfl, rfl⟩ | ⟨k, q, rfl, h, rfl⟩
  · exact dp_key k
  · exact .tup (.inl (.inl h)) (dp_keys k)
theorem rk_reads {pins : List (Addr × Obj)} {σ : St} {H : Hp} {s : Shared} (I : Inv X pins σ H s) : ∀ {us : List Value} {ds : List D}, PySem.W.EachIs (fun u d => ∃ v, RelV v u ∧ RK H v d) us ds → PySem.W.EachIs (fun v b => ∃ as, Reads s.heap v (py b) as) us ds
  | _, _, .nil => .nil
  | _, _, .cons ⟨v, r1, q1⟩ t => .cons (Dp.reads I _ _ _ (rk_dp q1) r1) (rk_reads I t)
theorem rk_vals {H : Hp} : ∀ {us : List Value} {ds : List D}, PySem.W.EachIs (fun u d => ∃ v, RelV v u ∧ RK H v d) us ds → ∃ xs, Vals xs us ∧ PySem.W.EachIs (RK H) xs ds
  | _, _, .nil => ⟨[], .nil, .nil⟩
  | _, _, .cons ⟨v, r1, q1⟩ t => by
    obtain ⟨xs, r2, q2⟩ := rk_vals t
    exact ⟨v :: xs, .cons r1 r2, .cons q1 q2⟩
theorem cr_sortK (hc : X.calm = true) (hu : X.A.units + 64 < cLine) : CallR X (.builtin "sorted") rSortK := by
  intro pins s σ H vs us Q I r h
  obtain ⟨a, ds, rfl, hd, ok, q⟩ := h
  rw [Vals.ref1 r]
  have lenOk : ds.length ≤ sizeLine := by
    simp only [sortOk, Bool.and_eq_true, decide_eq_true_eq] at ok
    exact ok.1.2
  have out : ∀ {h' : Heap} {tk : Nat} {acc : Array Value}, (∀ b o, s.heap.get? b = some o → h'.get? b = some o) → PySem.W.EachIs (fun u d => ∃ v, RelV v u ∧ RK H v d) acc.toList ds →
      PySem.W.EachIs (fun u d => ∃ v, RelV v u ∧ RK H v d) acc.toList ds ∧ PySem.W.EachIs (fun v b => ∃ as, Reads h' v (py b) as) acc.toList ds ∧
      ∀ out e2 h2, PySem.W.EachIs (fun u d => ∃ v, RelV v u ∧ RK H v d) out (sortD ds) → out.length = ds.length → h2.get? h'.objs.size = some (seqObj "list" (List.toArray out) e2) → (∀ b o, h'.get? b = some o → h2.get? b = some o) → EP X pins σ Q (.ref h'.objs.size) { s with heap := h2, toks := tk } := fun {h' tk acc} hk e1 => by
    have I1 : Inv X pins σ H { s with heap := h', toks := tk } := I.kept hk
    refine ⟨e1, rk_reads I1 e1, fun out e2 h2 eo hl hat hk2 => ?_⟩
    obtain ⟨ys, rv, ry⟩ := rk_vals eo
    have hn : H h'.objs.size = none := I1.hok.fresh (Nat.le_refl _)
    exact ⟨.ref h'.objs.size, _, I1.laid (t' := tk) (o := .lst ys) hk2 (Nat.le_refl _) ⟨by rw [rv.length, hl]; exact lenOk, out, e2, rv, hat⟩, rfl, q ys _ ry hn⟩
  rcases hd with ⟨kvs, hd, rfl⟩ | ⟨kvs, hd, rfl⟩
  · obtain ⟨z, lo, vs, rel, dd⟩ := dk_rd I.hok (.inl hd)
    obtain ⟨ep, hat⟩ := dd.dictAt
    have hkeys := rel.keys
    have hl : vs.length = kvs.length := by
      have := congrArg List.length hkeys
      rw [List.length_map, List.length_map] at this
      exact this.symm
    refine sort_src (PySem.W.kdl_dict (knd := mixKind X.prog X.w) (kvs := vs) (ep := ep) lo) (I.ok.hd hc) hat (by rw [hl]; exact z) hu ok fun h' tk acc hk hacc => out hk (each_at (by rw [Array.length_toList, hacc.1, hl]; simp) fun j v d e1 e2 => ?_)
    obtain ⟨k, x, g1, g2⟩ := hacc.2 j v (by rw [← Array.getElem?_toList]; exact e1)
    have e3 : (vs.map (·.1))[j]? = some k := by rw [List.getElem?_map, g1]; rfl
    rw [← hkeys] at e3
    rw [List.getElem?_map, e3] at e2
    cases e2
    exact ⟨kV k, relV_key (show keyIs k v = true from g2), .inl ⟨k, rfl, rfl⟩⟩
  · obtain ⟨z, hs, ks, pr, o, es, ep, ho, hx, hdt, he, hn⟩ := (show ObjOk X.prog X.w H s.heap a (.dT kvs) from (Rd.ok (.inl hd)) I.hok)
    have l1 : es.size = ks.length := size_of_entries he
    have l2 : kvs.length = ks.length := Paired.length pr
    refine sort_src (kdl_raw hs hx hdt) (I.ok.hd hc) ho (by omega) hu ok fun h' tk acc hk hacc => out hk (each_at (by rw [Array.length_toList, hacc.1]; simp; omega) fun j v d e1 e2 => ?_)
    obtain ⟨en, hen, hv⟩ := hacc.2 j v (by rw [← Array.getElem?_toList]; exact e1)
    have qe := entry_at he j
    rw [hen] at qe
    have hj : j < ks.length := by rw [← l1]; exact (Array.getElem?_eq_some_iff.mp hen).1
    rw [List.getElem?_eq_getElem hj] at qe
    have e3 : en = entryOfKey (tupleKind (mixKind X.prog X.w)) ks[j] := Option.some.inj qe
    have hj2 : j < kvs.length := by omega
    obtain ⟨kb, kb1, pj⟩ := paired_get pr (List.getElem?_eq_getElem hj2)
    rw [List.getElem?_eq_getElem hj] at kb1
    obtain rfl : ks[j] = kb := Option.some.inj kb1
    rw [List.getElem?_map, List.getElem?_map, List.getElem?_eq_getElem hj2] at e2
    cases e2
    rw [hv, e3]
    exact ⟨.ref ks[j].2.1, rfl, .inr ⟨kvs[j].1, ks[j].2.1, rfl, pj.2.1, rfl⟩⟩
def sortedK : BD
  | [.lst ds] => if sortOk ds = true then some (.ow (.lst (sortD ds))) else none
  | [d] => (keysD d).bind fun ds => if sortOk ds = true then some (.ow (.lst (sortD ds))) else none
  | _ => none
def rSortA (K : PySem.W.Frag) : List V → Hp → VK → Prop := fun vs H Q => rSortD K vs H Q ∨ rSortK vs H Q
theorem cr_sortA (hc : X.calm = true) (hu : X.A.units + 64 < cLine) : CallR X (.builtin "sorted") (rSortA X.K) := by
  intro pins s σ H xs us Q I r h
  rcases h with h | h
  · exact cr_sortD hu pins s σ H xs us Q I r h
  · exact cr_sortK hc hu pins s σ H xs us Q I r h
theorem share_keys {K : PySem.W.Frag} {H : Hp} {σ : St} {e : DEnv} {B : List (V × D)} : ∀ {ys : List V} {ds : List D} {Hs : Hp}, PySem.W.EachIs (RK H) ys ds → Ok K fx Hs H σ e B → ∃ Hs', Le Hs Hs' ∧ Ok K fx Hs' H σ e B ∧ RepL K Hs' ys ds
  | _, _, Hs, .nil, k => ⟨Hs, Le.refl, k, .nil⟩
  | _, _, Hs, .cons h t, k => by
    rcases h with ⟨ky, rfl, rfl⟩ | ⟨ky, q, rfl, h, rfl⟩
    · obtain ⟨Hs', l, k', r⟩ := share_keys t k
      exact ⟨Hs', l, k', .cons (rep_keyD ky) r⟩
    · obtain ⟨Hs1, l1, k1, r1⟩ := share_tup k h (repL_keyD ky)
      obtain ⟨Hs', l, k', r⟩ := share_keys t k1
      exact ⟨Hs', l1.trans l, k', .cons (r1.mono l) r⟩
theorem keys_at {K : PySem.W.Frag} {Hs H : Hp} {v : V} {d : D} {ks : List D} (r1 : RepT K Hs H v d) (h1 : keysD d = some ks) : ∃ a, v = V.ref a ∧ ((∃ kvs : List (Key × V), H a = some (.dK kvs) ∧ ks = (kvs.map (·.1)).map keyD) ∨ (∃ kvs : List (List Key × V), H a = some (.dT kvs) ∧ ks = (kvs.map (·.1)).map fun k => .tup (k.map keyD))) := by
  cases d with
  | dK _ _ => obtain ⟨a, kvs, rfl, hp, rfl, _⟩ := r1; cases h1; exact ⟨a, rfl, .inl ⟨kvs, hp, rfl⟩⟩
  | dT _ _ => obtain ⟨a, kvs, rfl, hp, rfl, _⟩ := r1; cases h1; exact ⟨a, rfl, .inr ⟨kvs, hp, rfl⟩⟩
  | _ => cases h1
theorem ok_sortK : OkC X (rSortA X.K) sortedK := by
  intro fx Hs H σ e B vs ds t Q k r h q
  unfold sortedK at h
  split at h
  · exact .inl (ok_sortD k r h q)
  · rw [Option.bind_eq_some_iff] at h
    obtain ⟨ks, h1, h2⟩ := h
    split at h2
    · rename_i w
      cases h2
      cases r with
      | cons r1 r2 =>
        cases r2
        obtain ⟨a, rfl, c⟩ := keys_at r1 h1
        refine .inr ⟨a, ks, rfl, c, w, fun ys p ry hn => ?_⟩
        obtain ⟨Hs', l, k', rr⟩ := share_keys ry k
        exact q Hs' _ _ l (k'.lstP hn rr)
    · cases h2
  · cases h
end
end DD

namespace DD
open PySem PySem.Spec PyProof.Rows L2
section
variable {X : Cx} {fx : Fx}
/-! ### f(k = v, ..) -/
def DKw (X : Cx) (fx : Fx) (kws : List Keyword) (F : FAr) : Prop := PK X kws (tDAr X.K fx F)
theorem pk_imp {kws : List Keyword} {t t' : TA} (h : PK X kws t) (f : ∀ σ H Q, t' σ H Q → t σ H Q) : PK X kws t' := ⟨fun pos pins s σ H Q I w => h.run pos pins s σ H Q I (f σ H Q w)⟩
theorem dk_nil : DKw X fx [] aNil := pk_imp pk_nil fun σ H Q ⟨Hs, e, B, t, e', k, hf, q⟩ => by cases hf; exact q Hs [] H Le.refl k .nil
theorem dk_cons {a : Expr} {kws : List Keyword} {nm : Option Str} {kpos : Pos} {F : FE} {G : FAr} (ha : DE X fx a F) (hr : DKw X fx kws G) : DKw X fx (⟨nm, a, kpos⟩ :: kws) (aCons F G) :=
  pk_imp (pk_cons ha hr) fun σ H Q ⟨Hs, e, B, t, e', k, hf, q⟩ => by
    unfold aCons at hf
    simp only [Option.bind_eq_bind, Option.bind_eq_some_iff] at hf
    obtain ⟨⟨ta, e1⟩, h1, ⟨a', e2⟩, h2, ⟨as, e3⟩, h3, h4⟩ := hf
    cases h4
    refine ⟨Hs, e, B, ta, e1, k, h1, fun Hs1 v H1 l1 p1 => ?_⟩
    obtain ⟨Hs2, l2, k2, r2⟩ := p1.ar h2
    exact ⟨Hs2, e2, B, as, e3, k2, h3, fun Hs3 vs H3 l3 k3 r3 => q Hs3 _ H3 (l1.trans (l2.trans l3)) k3 (.cons (r2.mono l3) r3)⟩
def permL {α : Type} (idx : List Nat) (l : List α) (d : α) : List α := idx.map fun i => l.getD i d
def fCallK (nk : Nat) (idx : List Nat) (G : GF) (F : FAr) : FE := fun e => do
  let (as0, e1) ← F e
  if as0.length = nk ∧ idx.all (fun i => decide (i < as0.length)) = true then do
    let as := permL idx as0 (.sh .non)
    let xs ← argDs e1 as
    if (locs as).Nodup then do
      let (r, os) ← G xs
      pure (resT r, back as os e1)
    else none
  else none
theorem perm_ars {K : PySem.W.Frag} {Hs : Hp} {σ : St} {vs : List V} {as : List Ar} (h : ArsOk K Hs σ vs as) : ∀ {idx : List Nat}, idx.all (fun i => decide (i < as.length)) = true → ArsOk K Hs σ (permL idx vs .non) (permL idx as (.sh .non))
  | [], _ => .nil
  | i :: idx, hi => by
    rw [List.all_cons, Bool.and_eq_true, decide_eq_true_eq] at hi
    have l := h.len
    refine .cons (h.get (j := i) ?_ ?_) (perm_ars h hi.2)
    · show _ = some (vs.getD i .non)
      rw [List.getD_eq_getElem?_getD, List.getElem?_eq_getElem (show i < vs.length by omega)]; rfl
    · show _ = some (as.getD i (.sh .non))
      rw [List.getD_eq_getElem?_getD, List.getElem?_eq_getElem (show i < as.length by omega)]; rfl
theorem perm_vals {vs : List V} {us : List Value} (h : Vals vs us) : ∀ {idx : List Nat}, Vals (permL idx vs .non) (permL idx us .none)
  | [] => .nil
  | i :: idx => by
    refine .cons ?_ (perm_vals h)
    show RelV (vs.getD i .non) (us.getD i .none)
    rw [List.getD_eq_getElem?_getD, List.getD_eq_getElem?_getD]
    cases e : vs[i]? with
    | none =>
      have : us[i]? = none := by
        rw [List.getElem?_eq_none_iff] at e ⊢
        rw [← h.length]; exact e
      rw [this]; rfl
    | some v =>
      obtain ⟨u, hu, r⟩ := h.get e
      rw [hu]; exact r
theorem use_defK {G : GF} {F : FAr} {nk : Nat} {idx : List Nat} (outs : ∀ as r os, G as = some (r, os) → as.length = os.length) : ∀ σ H Q, tD X.K fx (fCallK nk idx G F) σ H Q → tDAr X.K fx F σ H fun vs H1 => vs.length = nk ∧ spD X.K G (permL idx vs .non) H1 Q E0 := by
  rintro σ H Q ⟨Hs, e, B, t, e', k, hf, q⟩
  unfold fCallK at hf
  simp only [Option.bind_eq_bind, Option.bind_eq_some_iff] at hf
  obtain ⟨⟨as, e1⟩, h1, h2⟩ := hf
  dsimp only at h2
  split at h2
  · rename_i hi
    simp only [Option.bind_eq_some_iff] at h2
    obtain ⟨xs, h2, h3⟩ := h2
    split at h3
    · rename_i nd
      simp only [Option.bind_eq_some_iff] at h3
      obtain ⟨⟨r, os⟩, h4, h5⟩ := h3
      cases h5
      refine ⟨Hs, e, B, as, e1, k, h1, fun Hs1 vs H1 l1 k1 a0 => ?_⟩
      have a1 := perm_ars a0 hi.2
      obtain ⟨L, g1, g2, g3⟩ := call_args k1 a1 h2 nd
      refine ⟨a0.len.trans hi.1, Hs1, L, xs, r, os, k1.sub, g1, g2, h4, fun Hs2 v H2 bk => q Hs2 v H2 (l1.trans bk.le) (call_back k1 a1 h2 nd g3 ?_ bk)⟩
      exact (argDs_get h2).1.trans (outs _ _ _ h4)
    · cases h3
  · cases h2
theorem de_callK {k : Nat} {x : Str} {ps ks : List Str} {idx : List Nat} {G : GF} {F : FAr} {f : Addr} {fd : FuncData} {st : Stmt} {p pos : Pos} {kws : List Keyword} (hF : FnOk X.prog X.w X.K X.mg X.base CX0 k f fd ps (spD X.K G)) (outs : ∀ as r os, G as = some (r, os) → as.length = os.length) (Fu : Fun X.K x x st f fd) (hm : X.mg x = some (.ref f))
    (hb : ∀ (kV doc pm : Value) (an : Option Addr) (cdv ct : Value) (us : List Value), us.length = ks.length → bindArgs (PySem.W.fnOf x x (defArgs st) (defBody st) (defScope st) .none kV doc pm an cdv ct) ⟨[], ks.zip us⟩ = pure (ps.zip (permL idx us .none)))
    (hr : Room k X.A) (hg : Gl X x) (ha : DKw X fx kws F) (hall : (backToKw pos (keywordEach kws X.env)).all (·.1.isSome) = true := by rfl) (hks : (backToKw pos (keywordEach kws X.env)).filterMap (·.1) = ks := by rfl)
    (hdb : (x == ("__debug__" : Str)) = false := by decide) (hpl : ((backTo pos (starEach [] X.env)).any (·.1) || (backToKw pos (keywordEach kws X.env)).any (·.1.isNone)) = false := by rfl) :
    DE X fx (.Call (.Name x p) [] kws pos) (fCallK ks.length idx G F) := by
  refine ⟨fun pins s σ H Q I h => ?_⟩
  refine wpAny_Call_Name_kw (ld_glob I hg hm ?_ hdb)
  refine PySem.W.callWith_KW0 (h₀ := X.base) I.ok.mod.kin Fu.kp hall ?_ hpl
  refine thn (ha.run pos pins s σ H _ I (use_defK outs σ H Q h)) fun ws s2 ⟨zs, H2, I2, rz, hzl, hsp⟩ => ⟨I2.kIn, ?_⟩
  rw [hks]
  obtain ⟨oc, od, kV, doc, pm, an, cdv, ct, osl, rfl, lk, hcd⟩ := Fu.ex
  refine wpAny_call (codeAny_mono (hF.run X.A X.stack s2 H2 ⟨[], ks.zip ws⟩ (permL idx ws .none) (permL idx zs .non) Q E0 hr I2.env0 (.of_eq (hb kV doc pm an cdv ct ws (rz.length.symm.trans hzl))) (perm_vals rz) hsp) fun r s' hq => ?_)
  cases r with
  | error e => exact (show False from hq).elim
  | ok fl =>
    cases fl with
    | ret u => exact I2.after hq
    | next => exact False.elim hq
    | brk => exact False.elim hq
    | cont => exact False.elim hq
end
end DD

namespace DD
open PySem PySem.Spec PyProof.Rows L2
section
variable {X : Cx} {fx : Fx}
/-! ### -a -/
def fNeg (F : FE) : FE := fun e => do
  let (t, e1) ← F e
  let d ← rd t e1
  match d with
  | .int i => pure (.sh (.int (-i)), e1)
  | _ => none
theorem de_neg {a : Expr} {F : FE} {pos : Pos} (h : DE X fx a F) : DE X fx (.UnaryOp .USub a pos) (fNeg F) := pe_imp (pe_un un_neg h) fun σ H Q ⟨Hs, e, B, t, e', k, hf, q⟩ => by
  unfold fNeg at hf
  simp only [Option.bind_eq_bind, Option.bind_eq_some_iff] at hf
  obtain ⟨⟨ta, e1⟩, h1, d, h2, h3⟩ := hf
  refine ⟨Hs, e, B, ta, e1, k, h1, fun Hs1 v H1 l1 p1 => ?_⟩
  have r := p1.rd h2
  cases d with
  | int i =>
    cases (show Rep X.K Hs1 v (.int i) from r)
    cases h3
    exact ⟨i, rfl, q Hs1 _ H1 l1 ⟨p1.ok, .int _⟩⟩
  | _ => cases h3
/-! ### {(a, ..): v} -/
def tDispT1 (tk tv : TE) : TE := fun σ H Q => ∀ p, H p = none → tk σ (upd H p (.dT [])) fun x H1 => tv σ H1 fun y H2 => H2 p = some (.dT []) ∧ ∃ (b : Addr) (k : List Key), x = .ref b ∧ H2 b = some (.tup (k.map kV)) ∧ Q (.ref p) (upd H2 p (.dT [(k, y)]))
theorem pe_dispT1 {pos : Pos} {k v : Expr} {tk tv : TE} (hu : X.A.units + 64 < cLine) (hk : PE X k tk) (hv : PE X v tv) : PE X (.Dict [some k] [v] pos) (tDispT1 tk tv) := by
  refine ⟨fun pins s σ H Q I q => ?_⟩
  have hn := I.hok.fresh (Nat.le_refl s.heap.objs.size)
  have I1 := I.laid (a := s.heap.objs.size) (o := .dT []) (h' := s.heap.push { cls := .type "dict", data := .dict #[] }) (t' := s.toks) (fun _ _ q => Heap.get?_push_of_some _ q) (Nat.le_refl _) (dt_empty s.heap I.big)
  have hz := zip_pairTrees [some k] [v] X.env pos rfl rfl
  rw [arm_eval_Dict, hz, dictDisplay_pairs _ (fun z => by cases z) (by show (1 : Nat) < 17; omega)]
  refine wpAny_bind (wpAny_standAt (wpAny_bind (wpAny_subDictH (knd := tupleKind (mixKind X.prog X.w)) (A := X.A) (Q := fun d s' => wpAny (model X.prog X.w) X.A (pure (Value.ref d)) (EP X pins σ Q) X.xe s') (show X.A.units < cLine by omega) (by show (1 : Nat) ≤ 15; omega) ?_)))
  refine pairTrees_cons_walk (thn (hk.run pins _ σ _ _ I1 (q _ hn)) fun u s1 ⟨x, H1, I2, rx, q1⟩ => thn (hv.run pins s1 σ H1 _ I2 q1) fun w2 s2 ⟨y, H2, I3, ry, e, b, ky, ex, hb, q2⟩ => pairTrees_nil_walk ?_)
  subst ex
  cases (show u = Value.ref b from rx)
  obtain ⟨z, hd, xs0, r0, dd⟩ := dt_of I3.hok e
  cases r0
  refine ⟨[(ky, b, w2)], ⟨rfl, rfl, key_of I3.hok hb, trivial⟩, dd, fun h' tk' dd' hs => wpAny_pure ?_⟩
  obtain ⟨o, es, ep, d1, d2, d3, d4, d5, d6⟩ := dd'
  refine ⟨.ref s.heap.objs.size, _, d_write I3 (by rw [e]; exact True.intro) hs ⟨o, d1⟩ ?_, rfl, q2⟩
  exact ⟨by show 1 ≤ sizeLine; decide, hd, _, .cons ⟨rfl, by rw [upd_ne (fun z => by subst z; rw [e] at hb; cases hb)]; exact hb, ry⟩ .nil, o, es, ep, d1, d2, d3, d4, d6⟩
def fDictT1 (Fk Fv : FE) : FE := fun e => do
  let (tk, e1) ← Fk e
  let (dk, e2) ← toSh tk e1
  let (tv, e3) ← Fv e2
  let (dv, e4) ← toSh tv e3
  match dk with
  | .tup ks => match keysOf ks with
    | some k => pure (.ow (.dT [k] [dv]), e4)
    | none => none
  | _ => none
theorem de_dictT1 {pos : Pos} {k v : Expr} {Fk Fv : FE} (hu : X.A.units + 64 < cLine) (hk : DE X fx k Fk) (hv : DE X fx v Fv) : DE X fx (.Dict [some k] [v] pos) (fDictT1 Fk Fv) :=
  pe_imp (pe_dispT1 hu hk hv) fun σ H Q ⟨Hs, e, B, t, e', ok, hf, q⟩ => by
    unfold fDictT1 at hf
    simp only [Option.bind_eq_bind, Option.bind_eq_some_iff] at hf
    obtain ⟨⟨tk, e1⟩, h1, ⟨dk, e2⟩, h2, ⟨tv, e3⟩, h3, ⟨dv, e4⟩, h4, h5⟩ := hf
    intro p hn
    have k0 : Ok X.K fx Hs (upd H p (.dT [])) σ e ((.ref p, .dT [] []) :: B) := ok.newOw hn ⟨[], upd_same, rfl, .nil⟩
    refine ⟨Hs, e, _, tk, e1, k0, h1, fun Hs1 x H1 l1 p1 => ?_⟩
    obtain ⟨Hs2, l2, k2, r2⟩ := p1.sh h2
    refine ⟨Hs2, e2, _, tv, e3, k2, h3, fun Hs3 y H3 l3 p3 => ?_⟩
    obtain ⟨Hs4, l4, k4, r4⟩ := p3.sh h4
    obtain ⟨p', e5, c, n, _⟩ := k4.temp _ List.mem_cons_self
    have e5 : V.ref p = .ref p' := e5
    cases e5
    obtain ⟨kvs, hp, hk, _⟩ := c
    have : kvs = [] := List.map_eq_nil_iff.mp hk
    subst this
    dsimp only at h5
    split at h5
    · split at h5
      · rename_i ks _ ky hky
        cases h5
        cases r2 with
        | tup hb rb =>
          rename_i b us
          have := keys_rep hky rb
          subst this
          have hb' := k4.sub _ _ ((l3.trans l4) _ _ hb)
          refine ⟨hp, b, ky, rfl, hb', q Hs4 _ _ (l1.trans (l2.trans (l3.trans l4))) ⟨?_, trivial⟩⟩
          exact k4.tempWrite (d' := .dT [ky] [dv]) ⟨[(ky, y)], upd_same, rfl, .cons r4 .nil⟩
      · cases h5
    · cases h5
/-! ### short words -/
theorem dv (i : Nat) {x : Str} {pos : Pos} (hN : X.N[i]? = some x := by rfl) (hv : Vis X.env.scope x := by first | exact Or.inl rfl | exact Or.inr (Or.inl rfl) | exact Or.inr (Or.inr rfl)) (hd : (x == ("__debug__" : Str)) = false := by decide)
    (hcd : (x == ("__classdict__" : Str)) = false := by decide) : DE X fx (.Name x pos) (fVar i) := de_var hN hv hd hcd
theorem dg_int {x : Str} {i : Int} {t : Tok} {pos : Pos} (hm : X.mg x = some (.int i t)) (hg : Gl X x := by rfl) (hd : (x == ("__debug__" : Str)) = false := by decide) : DE X fx (.Name x pos) (fC (.int i)) := de_glob hg hm (v := .int i) ⟨t, rfl⟩ (fun _ => .int i) hd
theorem dg_str {x z : Str} {t : Tok} {pos : Pos} (hm : X.mg x = some (.str z t)) (hg : Gl X x := by rfl) (hd : (x == ("__debug__" : Str)) = false := by decide) : DE X fx (.Name x pos) (fC (.str z)) := de_glob hg hm (v := .str z) ⟨t, rfl⟩ (fun _ => .str z) hd
theorem ws_name {vs : List Nat} (i : Nat) {x : Str} {pos : Pos} (hN : X.N.Nodup) (hi : X.N[i]? = some x := by rfl) (hx : Loc X.env.scope x := by first | exact Or.inl rfl | exact Or.inr rfl) (hv : i ∈ vs := by decide)
    (hf : X.fn x = true ∨ X.env.scope.names.lookup x = some .local := by first | exact .inl rfl | exact .inr rfl) : DGw X fx vs (.Name x pos) (gN i) := dgw_name hN hi hx hv hf
theorem g_name (i : Nat) {x : Str} {pos : Pos} (hN : X.N.Nodup) (hi : X.N[i]? = some x := by rfl) (hx : Loc X.env.scope x := by first | exact Or.inl rfl | exact Or.inr rfl)
    (hf : X.fn x = true ∨ X.env.scope.names.lookup x = some .local := by first | exact .inl rfl | exact .inr rfl) : DG X fx (.Name x pos) (gN i) := dg_name hN hi hx hf
end
end DD

namespace DD
open PySem PySem.Spec PyProof.Rows L2
section
variable {X : Cx} {fx : Fx}
theorem de_strc {x : Str} {j : Nat} {pos : Pos} : DE X fx (.Constant (.str x) j pos) (fC (.str x)) := de_c pe_str fun _ => .str x
/-- the law: whatever the script, True -/
def spLaw (K : PySem.W.Frag) : Sp := fun vs H Q _ => ∃ (a : Addr) (ns : List Int), vs = [.ref a] ∧ SqL K H a (ns.map V.int) ∧ ns.length ≤ 63 ∧ ∀ H', Q (.bl true) H'
theorem law_imp {K : PySem.W.Frag} {G : GF} (math : ∀ ns : List Int, ns.length ≤ 63 → ∃ os, G [(false, .scr ns)] = some ((false, .bl true), os)) : ∀ vs H Q E, spLaw K vs H Q E → spD K G vs H Q E := by
  rintro vs H Q E ⟨a, ns, rfl, hS, hl, q⟩
  obtain ⟨os, h⟩ := math ns hl
  refine ⟨H, [], [(false, .scr ns)], _, os, Le.refl, fun b hb => (by cases hb), ⟨rfl, fun j v a' h1 h2 => ⟨fun z => ?_, fun z => ?_⟩, fun i j a' b' v ne h1 h2 h3 => ?_⟩, h, fun Hs' v H' bk => ?_⟩
  · cases j with
    | zero => simp at h2; subst h2; cases z
    | succ j => simp at h2
  · cases j with
    | zero => simp at h1 h2; subst h1 h2; exact .scr hS
    | succ j => simp at h2
  · cases i with
    | zero => simp at h1; subst h1; cases h3
    | succ i => simp at h1
  · have r := bk.res.2 rfl
    cases (show Rep K Hs' v (.bl true) from r)
    exact q H'
theorem law_end {P : Program} {w : World} {K : PySem.W.Frag} {mg : Str → Option Value} {fa : Addr} {k : Nat} {x : Str} {G : GF} (h : ∃ fd : FuncData, (∀ (s : Shared) (v : Value), BindsTo s fd ⟨[v], []⟩ [(x, v)]) ∧ ∀ base : Heap, K.In base → base.Ns mainGlobals mg → FnOk P w K mg base CX0 k fa fd [x] (spD K G))
    (math : ∀ ns : List Int, ns.length ≤ 63 → ∃ os, G [(false, .scr ns)] = some ((false, .bl true), os)) :
    ∃ fd : FuncData, (∀ (s : Shared) (v : Value), BindsTo s fd ⟨[v], []⟩ [(x, v)]) ∧ ∀ base : Heap, K.In base → base.Ns mainGlobals mg → FnOk P w K mg base CX0 k fa fd [x] (spLaw K) := by
  obtain ⟨fd, h1, h2⟩ := h
  exact ⟨fd, h1, fun base a b => (h2 base a b).imp (law_imp math)⟩
end
end DD

namespace DD
open PySem PySem.Spec PyProof.Rows L2
/-! ### what the defs mean -/
noncomputable def S__law_cells : FS := (sSeq (sRet (fLrg1 (fBlt maxOf (qCons (fC (.int 1)) (qCons (fBlt minOf (qCons (fVar 1) (qCons (fBlt lenD (qCons (fVar 0) qNil)) qNil))) qNil)))))
  sNil)
noncomputable def G__law_cells : GF := runDef 2 2 S__law_cells
noncomputable def S_entries_on : FS := (sSeq (sSet 3 (fLc (fWalk enumD (fCons (fVar 0) fNil)) [4, 5] (gTupD 2 (gsCons (gN 4) (gsCons (gN 5) gsNil))) (fAndT (fB (f2 neF (f2 ixD (fVar 5) (fC (.int 1))) (fC (.str "")))) (fB (fRead "str" (m2S fun a b i => .bl (Txt.startswith3 a b i)) (fVar 1) (fCons (f2 ixD (fVar 5) (fC (.int 1))) (fCons (fVar 2) fNil))))) (fVar 4)))
  (sSeq (sRet (fLc (fIter (fVar 3)) [4] (gN 4) fYes (fTup (fCons (fVar 4) (fCons (fBlt lenD (qCons (f2 ixD (f2 ixD (fVar 0) (fVar 4)) (fC (.int 0))) qNil)) (fCons (f2 addD (fVar 2) (fBlt lenD (qCons (f2 ixD (f2 ixD (fVar 0) (fVar 4)) (fC (.int 1))) qNil))) fNil))))))
  sNil))
noncomputable def G_entries_on : GF := runDef 3 6 S_entries_on
noncomputable def S_are_signs : FS := (sSeq (sRet (fAnd (fIsi "str" (fVar 0)) (fBlt allD (qCons (fLc (fIter (fVar 0)) [1] (gN 1) fYes (f2 (inF false) (fVar 1) (fC (.str "abcdefghijklmnopqrstuvwxyz")))) qNil))))
  sNil)
noncomputable def G_are_signs : GF := runDef 1 2 S_are_signs
noncomputable def S_is_signs : FS := (sSeq (sRet (fAnd (fIsi "str" (fVar 0)) (fAnd (fChain (ltF true true) (ltF true true) (fVar 1) (fBlt lenD (qCons (fVar 0) qNil)) (fVar 2)) (fCall G_are_signs (aCons (fVar 0) aNil)))))
  sNil)
noncomputable def G_is_signs : GF := runDef 3 3 S_is_signs
noncomputable def S_is_row_of : FS := (sSeq (sRet (fCall G_is_signs (aCons (fVar 0) (aCons (fC (.int 0)) (aCons (fC (.int 2000)) aNil)))))
  sNil)
noncomputable def G_is_row_of : GF := runDef 1 1 S_is_row_of
noncomputable def S_is_tuple_of : FS := (sSeq (sRet (fAnd (fIsi "tuple" (fVar 0)) (f2 eqF (fBlt lenD (qCons (fVar 0) qNil)) (fVar 1))))
  sNil)
noncomputable def G_is_tuple_of : GF := runDef 2 2 S_is_tuple_of
noncomputable def S_is_entry_of : FS := (sSeq (sRet (fAnd (fCall G_is_tuple_of (aCons (fVar 0) (aCons (fC (.int 2)) aNil))) (fAnd (fCall G_is_signs (aCons (f2 ixD (fVar 0) (fC (.int 0))) (aCons (fC (.int 1)) (aCons (fC (.int 8)) aNil)))) (fCall G_is_signs (aCons (f2 ixD (fVar 0) (fC (.int 1))) (aCons (fC (.int 0)) (aCons (fC (.int 8)) aNil)))))))
  sNil)
noncomputable def G_is_entry_of : GF := runDef 1 1 S_is_entry_of
noncomputable def S_is_ascending : FS := (sSeq (sRet (fBlt allD (qCons (fLc (fWalk zipD (fCons (fVar 0) (fCons (fSl (fVar 0) (fPart (fC (.int 1))) fNoPart) fNil))) [1, 2] (gTupD 2 (gsCons (gN 1) (gsCons (gN 2) gsNil))) fYes (f2 (ltF false false) (fVar 1) (fVar 2))) qNil)))
  sNil)
noncomputable def G_is_ascending : GF := runDef 1 3 S_is_ascending
noncomputable def S_is_dictionary_of : FS := (sSeq (sIf (fOrT (fNotT (fB (fIsi "tuple" (fVar 0)))) (fNotT (fB (fChain (ltF true true) (ltF true true) (fC (.int 1)) (fBlt lenD (qCons (fVar 0) qNil)) (fC (.int 16)))))) (sSeq (sRet (fC (.bl false)))
  sNil) sNil)
  (sSeq (sRet (fAnd (fBlt allD (qCons (fLc (fIter (fVar 0)) [1] (gN 1) fYes (fCall G_is_entry_of (aCons (fVar 1) aNil))) qNil)) (fCall G_is_ascending (aCons (fVar 0) aNil))))
  sNil))
noncomputable def G_is_dictionary_of : GF := runDef 1 2 S_is_dictionary_of
noncomputable def S_check_dictionary : FS := (sSeq (sIf (fNotT (fB (fCall G_is_dictionary_of (aCons (fVar 0) aNil)))) (sSeq sNever
  sNil) sNil)
  (sSeq (sRet (fVar 0))
  sNil))
noncomputable def G_check_dictionary : GF := runDef 1 1 S_check_dictionary
noncomputable def S_check_written : FS := (sSeq (sExpr (fCall G_check_dictionary (aCons (fVar 0) aNil)))
  (sSeq (sIf (fNotT (fB (fCall G_is_row_of (aCons (fVar 1) aNil)))) (sSeq sNever
  sNil) sNil)
  sNil))
noncomputable def G_check_written : GF := runDef 2 2 S_check_written
noncomputable def S_writings_many : FS := (sSeq (sExpr (fCall G_check_written (aCons (fVar 0) (aCons (fVar 1) aNil))))
  (sSeq (sSet 2 (f2 addD (fLst (fCons (fC (.int 1)) fNil)) (f2 mulF (fLst (fCons (fC (.int 0)) fNil)) (fBlt lenD (qCons (fVar 1) qNil)))))
  (sSeq (sFor (fWalk rng1 (fCons (fBlt lenD (qCons (fVar 1) qNil)) fNil)) (gN 3) (sSeq (sFor (fIter (fIf (fB (f2 (ltF false true) (f2 ixD (fVar 2) (fVar 3)) (fC (.int 0)))) (fCall G_entries_on (aCons (fVar 0) (aCons (fVar 1) (aCons (fVar 3) aNil)))) (fLst fNil))) (gTupD 3 (gsCons (gN 4) (gsCons (gN 5) (gsCons (gN 6) gsNil)))) (sSeq (sPut (f2 addD (f2 ixD (fVar 2) (fVar 6)) (f2 ixD (fVar 2) (fVar 3))) (fVar 2) (fVar 6))
  sNil))
  sNil))
  (sSeq (sRet (f2 ixD (fVar 2) (fNeg (fC (.int 1)))))
  sNil))))
noncomputable def G_writings_many : GF := runDef 2 7 S_writings_many
noncomputable def S_strokes_on : FS := (sSeq (sSet 2 (f2 addD (f2 mulF (fLst (fCons (fC (.int 1000000)) fNil)) (fBlt lenD (qCons (fVar 1) qNil))) (fLst (fCons (fC (.int 0)) fNil))))
  (sSeq (sFor (fWalk rng3 (fCons (f2 subD (fBlt lenD (qCons (fVar 1) qNil)) (fC (.int 1))) (fCons (fNeg (fC (.int 1))) (fCons (fNeg (fC (.int 1))) fNil)))) (gN 3) (sSeq (sSet 4 (fLc (fIter (fCall G_entries_on (aCons (fVar 0) (aCons (fVar 1) (aCons (fVar 3) aNil))))) [5, 6, 7] (gTupD 3 (gsCons (gN 5) (gsCons (gN 6) (gsCons (gN 7) gsNil)))) fYes (f2 addD (fVar 6) (f2 ixD (fVar 2) (fVar 7)))))
  (sSeq (sPut (fBlt minOf (qCons (fLst (fCons (fC (.int 1000000)) (fStar (fVar 4) fNil))) qNil)) (fVar 2) (fVar 3))
  sNil)))
  (sSeq (sRet (fVar 2))
  sNil)))
noncomputable def G_strokes_on : GF := runDef 2 8 S_strokes_on
noncomputable def S_reading_by : FS := (sSeq (sPar [2, 3, 4] (tsCons (fCall G_strokes_on (aCons (fVar 0) (aCons (fVar 1) aNil))) (tsCons (fLst fNil) (tsCons (fC (.int 0)) tsNil))))
  (sSeq (sWhile (fB (f2 (ltF false false) (fVar 4) (fBlt lenD (qCons (fVar 1) qNil)))) (sSeq (sSet 5 (fCall G_entries_on (aCons (fVar 0) (aCons (fVar 1) (aCons (fVar 4) aNil)))))
  (sSeq (sSet 6 (fLc (fIter (fVar 5)) [7, 8, 9] (gTupD 3 (gsCons (gN 7) (gsCons (gN 8) (gsCons (gN 9) gsNil)))) (fB (f2 eqF (f2 addD (fVar 8) (f2 ixD (fVar 2) (fVar 9))) (f2 ixD (fVar 2) (fVar 4)))) (fTup (fCons (fVar 7) (fCons (fVar 9) fNil)))))
  (sSeq (sExpr (fMeth "list" mAppend (fVar 3) (fCons (f2 ixD (f2 ixD (fVar 6) (fC (.int 0))) (fC (.int 0))) fNil)))
  (sSeq (sSet 4 (f2 ixD (f2 ixD (fVar 6) (fC (.int 0))) (fC (.int 1))))
  sNil)))))
  (sSeq (sRet (fBlt tupleD (qCons (fVar 3) qNil)))
  sNil)))
noncomputable def G_reading_by : GF := runDef 2 10 S_reading_by
noncomputable def S_levels_by : FS := (sSeq (sSet 2 (f2 addD (fLst (fCons (fC (.int 0)) fNil)) (f2 mulF (fLst (fCons (fC (.int 1000000)) fNil)) (fBlt lenD (qCons (fVar 1) qNil)))))
  (sSeq (sFor (fWalk rng1 (fCons (fBlt lenD (qCons (fVar 1) qNil)) fNil)) (gN 3) (sSeq (sFor (fIter (fIf (fB (f2 (ltF false false) (f2 ixD (fVar 2) (fVar 3)) (fC (.int 1000000)))) (fCall G_entries_on (aCons (fVar 0) (aCons (fVar 1) (aCons (fVar 3) aNil)))) (fLst fNil))) (gTupD 3 (gsCons (gN 4) (gsCons (gN 5) (gsCons (gN 6) gsNil)))) (sSeq (sPut (fBlt minOf (qCons (f2 ixD (fVar 2) (fVar 6)) (qCons (f2 addD (f2 ixD (fVar 2) (fVar 3)) (fVar 5)) qNil))) (fVar 2) (fVar 6))
  sNil))
  sNil))
  (sSeq (sRet (fVar 2))
  sNil)))
noncomputable def G_levels_by : GF := runDef 2 7 S_levels_by
noncomputable def S_written_told : FS := (sSeq (sExpr (fCall G_check_written (aCons (fVar 0) (aCons (fVar 1) aNil))))
  (sSeq (sSet 2 (fCall G_levels_by (aCons (fVar 0) (aCons (fVar 1) aNil))))
  (sSeq (sIf (fB (f2 eqF (f2 ixD (fVar 2) (fNeg (fC (.int 1)))) (fC (.int 1000000)))) (sSeq (sRet (fTup (fCons (fC (.str "lot")) (fCons (fBlt tupleD (qCons (fLc (fWalk enumD (fCons (fVar 2) fNil)) [3, 4] (gTupD 2 (gsCons (gN 3) (gsCons (gN 4) gsNil))) (fB (f2 (ltF false false) (fVar 4) (fC (.int 1000000)))) (fVar 3)) qNil)) fNil))))
  sNil) sNil)
  (sSeq (sRet (fTup (fCons (fC (.str "row")) (fCons (f2 ixD (fVar 2) (fNeg (fC (.int 1)))) (fCons (fCall G_reading_by (aCons (fVar 0) (aCons (fVar 1) aNil))) (fCons (fBlt tupleD (qCons (fVar 2) qNil)) fNil))))))
  sNil))))
noncomputable def G_written_told : GF := runDef 2 5 S_written_told
noncomputable def S_begun_on : FS := (sSeq (sSet 4 fNewT)
  (sSeq (sForD 3 (gTupD 2 (gsCons (gN 5) (gsCons (gN 6) gsNil))) (sSeq (sIf (fB (f2 neF (fVar 5) (fC (.str "")))) (sSeq (sPut (fC (.bl true)) (fVar 4) (fTup (fCons (fVar 5) (fCons (fVar 6) fNil))))
  sNil) (sSeq (sFor (fIter (fCall G_entries_on (aCons (fVar 0) (aCons (fVar 1) (aCons (fVar 6) aNil))))) (gTupD 3 (gsCons (gN 7) (gsCons (gN 8) (gsCons (gN 9) gsNil)))) (sSeq (sIf (fB (f2 eqF (f2 addD (fVar 8) (f2 ixD (fVar 2) (fVar 9))) (f2 ixD (fVar 2) (fVar 6)))) (sSeq (sPut (fC (.bl true)) (fVar 4) (fTup (fCons (f2 ixD (f2 ixD (fVar 0) (fVar 7)) (fC (.int 0))) (fCons (fVar 9) fNil))))
  sNil) sNil)
  sNil))
  sNil))
  sNil))
  (sSeq (sRet (fVar 4))
  sNil)))
noncomputable def G_begun_on : GF := runDef 4 10 S_begun_on
noncomputable def S_least_written : FS := (sSeq (sExpr (fCall G_check_written (aCons (fVar 0) (aCons (fVar 1) aNil))))
  (sSeq (sSet 2 (fCall G_strokes_on (aCons (fVar 0) (aCons (fVar 1) aNil))))
  (sSeq (sIf (fB (f2 eqF (f2 ixD (fVar 2) (fC (.int 0))) (fC (.int 1000000)))) (sSeq (sRet (fC .non))
  sNil) sNil)
  (sSeq (sPar [3, 4] (tsCons (fC (.str "")) (tsCons (fDictT1 (fTup (fCons (fC (.str "")) (fCons (fC (.int 0)) fNil))) (fC (.bl true))) tsNil)))
  (sSeq (sWhile (fB (f2 (ltF false false) (fBlt lenD (qCons (fVar 3) qNil)) (f2 ixD (fVar 2) (fC (.int 0))))) (sSeq (sSet 4 (fCall G_begun_on (aCons (fVar 0) (aCons (fVar 1) (aCons (fVar 2) (aCons (fVar 4) aNil))))))
  (sSeq (sSet 5 (fBlt minOf (qCons (fLcD 4 [6, 7] (gTupD 2 (gsCons (gN 6) (gsCons (gN 7) gsNil))) fYes (f2 ixD (fVar 6) (fC (.int 0)))) qNil)))
  (sSeq (sSet 3 (f2 addD (fVar 3) (fVar 5)))
  (sSeq (sSet 4 (fBlt dictD (qCons (fLcD 4 [6, 7] (gTupD 2 (gsCons (gN 6) (gsCons (gN 7) gsNil))) (fB (f2 eqF (f2 ixD (fVar 6) (fC (.int 0))) (fVar 5))) (fTup (fCons (fTup (fCons (fSl (fVar 6) (fPart (fC (.int 1))) fNoPart) (fCons (fVar 7) fNil))) (fCons (fC (.bl true)) fNil)))) qNil)))
  sNil)))))
  (sSeq (sRet (fVar 3))
  sNil))))))
noncomputable def G_least_written : GF := runDef 2 8 S_least_written
noncomputable def S__law_take : FS := (sSeq (sIf (fB (f2 (ltF false true) (f2 ixD (fVar 0) (fC (.int 0))) (fC (.int 0)))) (sSeq (sSet 4 (f2 modD (fBlt intD (qCons (f2 ixD (fVar 0) (fC (.int 0))) qNil)) (fVar 1)))
  (sSeq (sPut (f2 fdivD (f2 ixD (fVar 0) (fC (.int 0))) (fVar 1)) (fVar 0) (fC (.int 0)))
  (sSeq (sRet (fVar 4))
  sNil))) sNil)
  (sSeq (sPut (f2 addD (f2 ixD (fVar 0) (fC (.int 2))) (fC (.int 1))) (fVar 0) (fC (.int 2)))
  (sSeq (sSet 2 (f2 ixD (fLst (fCons (fC (.int 2147483647)) (fCons (fC (.int 2147483629)) (fCons (fC (.int 2147483587)) (fCons (fC (.int 2147483579)) fNil))))) (f2 modD (fBlt intD (qCons (f2 ixD (fVar 0) (fC (.int 2))) qNil)) (fC (.int 4)))))
  (sSeq (sSet 3 (f2 modD (fBlt intD (qCons (f2 powD (fBlt intD (qCons (f2 addD (f2 addD (f2 ixD (fVar 0) (fC (.int 1))) (f2 mulF (f2 mulF (fC (.int 194604)) (f2 ixD (fVar 0) (fC (.int 2)))) (f2 ixD (fVar 0) (fC (.int 2))))) (fC (.int 6688))) qNil)) (fC (.int 3))) qNil)) (fVar 2)))
  (sSeq (sRet (f2 modD (fBlt intD (qCons (f2 fdivD (f2 mulF (fVar 3) (f2 addD (f2 modD (fBlt intD (qCons (fVar 3) qNil)) (fC (.int 10007))) (f2 mulF (fC (.int 6188)) (f2 ixD (fVar 0) (fC (.int 2)))))) (fC (.int 307))) qNil)) (fVar 1)))
  sNil)))))
noncomputable def G__law_take : GF := runDef 2 5 S__law_take
noncomputable def S__law_unlike : FS := (sSeq (sRet (fBlt sortedK (qCons (fBlt dictD (qCons (fLc (fIter (fVar 0)) [1] (gN 1) fYes (fTup (fCons (fVar 1) (fCons (fC (.bl true)) fNil)))) qNil)) qNil)))
  sNil)
noncomputable def G__law_unlike : GF := runDef 1 2 S__law_unlike
noncomputable def S__law_of : FS := (sSeq (sRet (f2 ixD (fVar 1) (fCall G__law_take (aCons (fVar 0) (aCons (fBlt lenD (qCons (fVar 1) qNil)) aNil)))))
  sNil)
noncomputable def G__law_of : GF := runDef 2 2 S__law_of
noncomputable def S__law_row : FS := (sSeq (sRet (fRead "str" joinD (fC (.str "")) (fCons (fLc (fWalk rng1 (fCons (f2 addD (fVar 2) (fCall G__law_take (aCons (fVar 0) (aCons (f2 addD (f2 subD (fVar 3) (fVar 2)) (fC (.int 1))) aNil)))) fNil)) [4] (gN 4) fYes (fCall G__law_of (aCons (fVar 0) (aCons (fVar 1) aNil)))) fNil)))
  sNil)
noncomputable def G__law_row : GF := runDef 4 5 S__law_row
noncomputable def S__law_is_long_right : FS := (sSeq (sPar [6, 7] (tsCons (fCall G__law_unlike (aCons (fLc (fWalk rng1 (fCons (f2 addD (fC (.int 1)) (fCall G__law_take (aCons (fVar 0) (aCons (fC (.int 4)) aNil)))) fNil)) [10] (gN 10) fYes (fCall G__law_row (aCons (fVar 0) (aCons (fC (.str "ab")) (aCons (fC (.int 1)) (aCons (fC (.int 4)) aNil)))))) aNil)) (tsCons (fCall G__law_unlike (aCons (fLc (fWalk rng1 (fCons (f2 addD (fC (.int 1)) (fCall G__law_take (aCons (fVar 0) (aCons (fC (.int 4)) aNil)))) fNil)) [10] (gN 10) fYes (fCall G__law_row (aCons (fVar 0) (aCons (fC (.str "ab")) (aCons (fC (.int 1)) (aCons (fC (.int 8)) aNil)))))) aNil)) tsNil)))
  (sSeq (sSet 1 (fBlt tupleD (qCons (fCall G__law_unlike (aCons (f2 addD (fLc (fIter (fVar 6)) [5] (gN 5) fYes (fTup (fCons (fVar 5) (fCons (fC (.str "x")) fNil)))) (fLc (fIter (fVar 7)) [5] (gN 5) fYes (fTup (fCons (fVar 5) (fCons (fC (.str "xx")) fNil))))) aNil)) qNil)))
  (sSeq (sSet 2 (f2 addD (fC (.int 20)) (fCall G__law_take (aCons (fVar 0) (aCons (fC (.int 280)) aNil)))))
  (sSeq (sPar [8, 9] (tsCons (fLst (fCons (fC (.int 1)) (fCons (fBlt lenD (qCons (fVar 6) qNil)) fNil))) (tsCons (fLst (fCons (fC (.int 0)) (fCons (fBlt minOf (qCons (fLc (fIter (fVar 6)) [5] (gN 5) fYes (fBlt lenD (qCons (fVar 5) qNil))) qNil)) fNil))) tsNil)))
  (sSeq (sFor (fWalk rng2 (fCons (fC (.int 2)) (fCons (f2 addD (fVar 2) (fC (.int 1))) fNil))) (gN 3) (sSeq (sExpr (fMeth "list" mAppend (fVar 8) (fCons (f2 addD (f2 mulF (fBlt lenD (qCons (fVar 6) qNil)) (f2 ixD (fVar 8) (fNeg (fC (.int 1))))) (f2 mulF (fBlt lenD (qCons (fVar 7) qNil)) (f2 ixD (fVar 8) (fNeg (fC (.int 2)))))) fNil)))
  (sSeq (sExpr (fMeth "list" mAppend (fVar 9) (fCons (fBlt minOf (qCons (fLst (fCons (f2 addD (f2 ixD (fVar 9) (fNeg (fC (.int 1)))) (f2 ixD (fVar 9) (fC (.int 1)))) (fCons (f2 addD (f2 ixD (fVar 9) (fNeg (fC (.int 2)))) (fBlt minOf (qCons (fLc (fIter (fVar 7)) [5] (gN 5) fYes (fBlt lenD (qCons (fVar 5) qNil))) qNil))) fNil))) qNil)) fNil)))
  sNil)))
  (sSeq (sSet 4 (f2 mulF (fC (.str "x")) (fVar 2)))
  (sSeq (sSet 5 (fCall G_least_written (aCons (fVar 1) (aCons (fVar 4) aNil))))
  (sSeq (sRet (fAnd (f2 eqF (fBlt reprD (qCons (fCall G_writings_many (aCons (fVar 1) (aCons (fVar 4) aNil))) qNil)) (fBlt reprD (qCons (fBlt intD (qCons (f2 ixD (fVar 8) (fNeg (fC (.int 1)))) qNil)) qNil))) (fChain eqF eqF (f2 ixD (fCall G_written_told (aCons (fVar 1) (aCons (fVar 4) aNil))) (fC (.int 1))) (f2 ixD (fVar 9) (fNeg (fC (.int 1)))) (fBlt lenD (qCons (fVar 5) qNil)))))
  sNil))))))))
noncomputable def G__law_is_long_right : GF := runDef 1 11 S__law_is_long_right
noncomputable def S__law_all_writings : FS := (sSeq (sPar [2, 3] (tsCons (fLst fNil) (tsCons (fLst (fCons (fTup (fCons (fTup fNil) (fCons (fC (.int 0)) fNil))) fNil)) tsNil)))
  (sSeq (sWhile (fB (f2 neF (fVar 3) (fLst fNil))) (sSeq (sAsg (fMeth "list" mPop (fVar 3) fNil) (gTupD 2 (gsCons (gN 4) (gsCons (gN 5) gsNil))))
  (sSeq (sExpr (fMeth "list" mExtend (fVar 2) (fCons (fIf (fB (f2 eqF (fVar 5) (fBlt lenD (qCons (fVar 1) qNil)))) (fLst (fCons (fVar 4) fNil)) (fLst fNil)) fNil)))
  (sSeq (sExpr (fMeth "list" mExtend (fVar 3) (fCons (fLc (fWalk enumD (fCons (fVar 0) fNil)) [6, 7, 8] (gTupD 2 (gsCons (gN 6) (gsCons (gTupD 2 (gsCons (gN 7) (gsCons (gN 8) gsNil))) gsNil))) (fAndT (fB (f2 neF (fVar 8) (fC (.str "")))) (fB (f2 eqF (fSl (fVar 1) (fPart (fVar 5)) (fPart (f2 addD (fVar 5) (fBlt lenD (qCons (fVar 8) qNil))))) (fVar 8)))) (fTup (fCons (f2 addD (fVar 4) (fTup (fCons (fVar 6) fNil))) (fCons (f2 addD (fVar 5) (fBlt lenD (qCons (fVar 8) qNil))) fNil)))) fNil)))
  sNil))))
  (sSeq (sRet (fVar 2))
  sNil)))
noncomputable def G__law_all_writings : GF := runDef 2 9 S__law_all_writings
noncomputable def S__law_dictionary : FS := (sSeq (sSet 1 (fLc (fWalk rng1 (fCons (f2 addD (fC (.int 1)) (fCall G__law_take (aCons (fVar 0) (aCons (fC (.int 5)) aNil)))) fNil)) [2] (gN 2) fYes (fTup (fCons (fCall G__law_row (aCons (fVar 0) (aCons (fC (.str "ab")) (aCons (fC (.int 1)) (aCons (fC (.int 3)) aNil))))) (fCons (fCall G__law_row (aCons (fVar 0) (aCons (fC (.str "xy")) (aCons (fCall G__law_of (aCons (fVar 0) (aCons (fLst (fCons (fC (.int 0)) (fCons (fC (.int 1)) (fCons (fC (.int 1)) fNil)))) aNil))) (aCons (fC (.int 2)) aNil))))) fNil)))))
  (sSeq (sRet (fBlt tupleD (qCons (fCall G__law_unlike (aCons (fVar 1) aNil)) qNil)))
  sNil))
noncomputable def G__law_dictionary : GF := runDef 1 3 S__law_dictionary
noncomputable def S__law_right : FS := (sSeq (sSet 1 (fCall G__law_dictionary (aCons (fVar 0) aNil)))
  (sSeq (sSet 2 (fCall G__law_of (aCons (fVar 0) (aCons (fLst (fCons (fSl (fRead "str" joinD (fC (.str "")) (fCons (fLc (fWalk rng1 (fCons (fCall G__law_take (aCons (fVar 0) (aCons (fC (.int 4)) aNil))) fNil)) [7] (gN 7) fYes (f2 ixD (fCall G__law_of (aCons (fVar 0) (aCons (fVar 1) aNil))) (fC (.int 1)))) fNil)) fNoPart (fPart (fC (.int 4)))) (fCons (fCall G__law_row (aCons (fVar 0) (aCons (fC (.str "xy")) (aCons (fC (.int 0)) (aCons (fC (.int 4)) aNil))))) fNil))) aNil))))
  (sSeq (sSet 3 (fCall G__law_all_writings (aCons (fVar 1) (aCons (fVar 2) aNil))))
  (sSeq (sSet 4 (fBlt sortedK (qCons (fLc (fIter (fLc (fIter (fVar 3)) [6] (gN 6) fYes (fRead "str" joinD (fC (.str "")) (fCons (fLc (fIter (fVar 6)) [8] (gN 8) fYes (f2 ixD (f2 ixD (fVar 1) (fVar 8)) (fC (.int 0)))) fNil)))) [5] (gN 5) fYes (fTup (fCons (fBlt lenD (qCons (fVar 5) qNil)) (fCons (fVar 5) fNil)))) qNil)))
  (sSeq (sIf (fOrT (fB (f2 neF (fBlt reprD (qCons (fCallK 2 [1, 0] G_writings_many (aCons (fVar 2) (aCons (fVar 1) aNil))) qNil)) (fBlt reprD (qCons (fBlt lenD (qCons (fVar 3) qNil)) qNil)))) (fB (f2 neF (f2 eqF (f2 ixD (fCall G_written_told (aCons (fVar 1) (aCons (fVar 2) aNil))) (fC (.int 0))) (fC (.str "lot"))) (f2 eqF (fVar 3) (fLst fNil))))) (sSeq (sRet (fC (.bl false)))
  sNil) sNil)
  (sSeq (sRet (f2 eqF (fBlt reprD (qCons (fCallK 2 [1, 0] G_least_written (aCons (fVar 2) (aCons (fVar 1) aNil))) qNil)) (fBlt reprD (qCons (fIf (fB (f2 neF (fVar 4) (fLst fNil))) (f2 ixD (f2 ixD (fVar 4) (fC (.int 0))) (fC (.int 1))) (fC .non)) qNil))))
  sNil))))))
noncomputable def G__law_right : GF := runDef 1 9 S__law_right
noncomputable def S__law_pot : FS := (sSeq (sSet 2 (fIf (fB (f2 (ltF false false) (fVar 1) (fBlt lenD (qCons (fVar 0) qNil)))) (f2 ixD (fVar 0) (fVar 1)) (f2 addD (f2 addD (f2 modD (fBlt intD (qCons (fBlt sumD (qCons (fSl (fVar 0) fNoPart (fPart (fC (.int 1)))) qNil)) qNil)) (fC (.int 1000003))) (f2 mulF (fC (.int 7996)) (fVar 1))) (fC (.int 19876)))))
  (sSeq (sSet 3 (f2 mulF (f2 modD (fBlt intD (qCons (fBlt absD (qCons (fVar 2) qNil)) qNil)) (f2 powD (f2 powD (fC (.int 10)) (fC (.int 60))) (fC (.int 5)))) (fBlt intD (qCons (f2 (ltF true false) (fBlt absD (qCons (fVar 2) qNil)) (f2 powD (fC (.int 10)) (fC (.int 18)))) qNil))))
  (sSeq (sSet 4 (f2 modD (fBlt intD (qCons (fVar 2) qNil)) (fC (.int 2305843009213693951))))
  (sSeq (sRet (fLst (fCons (fVar 3) (fCons (f2 modD (fBlt intD (qCons (f2 addD (f2 addD (f2 mulF (fVar 4) (fC (.int 162322))) (f2 mulF (f2 mulF (fC (.int 19274)) (fVar 1)) (fVar 1))) (fC (.int 5248))) qNil)) (fC (.int 2305843009213693921))) (fCons (fC (.int 0)) fNil)))))
  sNil))))
noncomputable def G__law_pot : GF := runDef 2 5 S__law_pot
noncomputable def S_law : FS := (sSeq (sFor (fIter (fCall G__law_cells (aCons (fVar 0) (aCons (fC (.int 3)) aNil)))) (gN 1) (sSeq (sSet 2 (fCall G__law_pot (aCons (fVar 0) (aCons (fVar 1) aNil))))
  (sSeq (sIf (fOrT (fNotT (fB (fCall G__law_is_long_right (aCons (fVar 2) aNil)))) (fNotT (fB (fBlt allD (qCons (fLc (fWalk rng1 (fCons (fC (.int 8)) fNil)) [3] (gN 3) fYes (fCall G__law_right (aCons (fVar 2) aNil))) qNil))))) (sSeq (sRet (fC (.bl false)))
  sNil) sNil)
  sNil)))
  (sSeq (sRet (fC (.bl true)))
  sNil))
noncomputable def G_law : GF := runDef 1 4 S_law
end DD

namespace DD
open PySem PySem.Spec PyProof.Rows L2
def topS (i : Nat) : Stmt := PySem.Challenge.pw_onestrokeatatime_k73_whole_least_rows_an.main.body.getD i (.Pass ⟨0, 0, 0, 0⟩)
section
variable {P : Program} {w : World} {K : PySem.W.Frag} {mg : Str → Option Value} {base : Heap}

abbrev s__law_cells : Stmt := topS 35
theorem sc__law_cells : FnScope ["script", "limit"] ["script", "limit"] (defScope s__law_cells) := ⟨rfl, rfl, rfl, by decide +kernel, rfl, by decide +kernel, by decide +kernel⟩
theorem ok__law_cells {f : Addr} {fd : FuncData} (F : Fun K "_law_cells" "_law_cells" s__law_cells f fd) (m_len : mg "len" = none) (m_list : mg "list" = none) (m_max : mg "max" = none) (m_min : mg "min" = none) (m_range : mg "range" = none) : FnOk P w K mg base CX0 1 f fd ["script", "limit"] (spD K G__law_cells) :=
  def_ok (N := ["script", "limit"]) F sc__law_cells (by rfl) (by rfl) (by decide) fun cdv A outer s H E fx hr => by
    have nd := sc__law_cells.nd
    have hu := hr.units
    have hu1 := hu_of hr
    exact (dss_cons (ds_ret (de_lrg1 rfl (by rfl) m_list (by rfl) m_range (de_blt (cr_maxA rfl hu) ok_max (by rfl) m_max PyProof.Rows.boot_max (dq_cons de_int (dq_cons (de_blt (cr_minA rfl hu) ok_min (by rfl) m_min PyProof.Rows.boot_min (dq_cons (dv 1) (dq_cons (de_blt cr_lenA ok_len (by rfl) m_len PySem.boot_len (dq_cons (dv 0) dq_nil)) dq_nil))) dq_nil)))))
    dss_nil)
abbrev s_entries_on : Stmt := topS 23
theorem sc_entries_on : FnScope ["dictionary", "text", "place", "some", "number", "entry"] ["dictionary", "text", "place"] (defScope s_entries_on) := ⟨rfl, rfl, rfl, by decide +kernel, rfl, by decide +kernel, by decide +kernel⟩
theorem ok_entries_on {f : Addr} {fd : FuncData} (F : Fun K "entries_on" "entries_on" s_entries_on f fd) (m_enumerate : mg "enumerate" = none) (m_len : mg "len" = none) : FnOk P w K mg base CX0 1 f fd ["dictionary", "text", "place"] (spD K G_entries_on) :=
  def_ok (N := ["dictionary", "text", "place", "some", "number", "entry"]) F sc_entries_on (by rfl) (by rfl) (by decide) fun cdv A outer s H E fx hr => by
    have nd := sc_entries_on.nd
    have hu := hr.units
    have hu1 := hu_of hr
    exact (dss_cons (ds_setLc (i := 3) (own := [("number", 4), ("entry", 5)]) rfl nd (by rfl) (by rfl) (sw_true rfl rfl rfl (by kernel_rfl)) (di_enum (by rfl) m_enumerate (da_cons (dv 0) da_nil)) (blkOk_by (by kernel_rfl)) (fun _ _ _ _ _ => (dgw_tup rfl (dgsw_cons (ws_name 4 nd) (dgsw_cons (ws_name 5 nd) dgsw_nil)))) (fun _ _ _ _ _ => (difs_one (dt_w (dw_and (dt_cmp (op_neA hu) (ok_eqA true) (de_ix (op_ixA hu1) ok_ixA (dv 5) de_int (fun _ _ => rfl)) de_strc (nomark _)) (dw_and1 (dt_val (de_read PySem.F.plainAttrs_str PySem.F.slot_str_startswith PySem.F.type_str_startswith mt_startswith3 (okr_m2 fun _ _ _ _ => .bl _) (dv 1) (da_cons (de_ix (op_ixA hu1) ok_ixA (dv 5) de_int (fun _ _ => rfl)) (da_cons (dv 2) da_nil))))))))) (fun _ _ _ _ _ => (dv 4)))
    (dss_cons (ds_ret (de_lc (own := [("number", 4)]) rfl nd (di_any (dv 3)) (blkOk_by (by kernel_rfl)) (fun _ _ _ _ _ => (ws_name 4 nd)) (fun _ _ _ _ _ => difs_nil) (fun _ _ _ _ _ => (de_tup (da_cons (dv 4) (da_cons (de_blt cr_lenA ok_len (by rfl) m_len PySem.boot_len (dq_cons (de_ix (op_ixA hu1) ok_ixA (de_ix (op_ixA hu1) ok_ixA (dv 0) (dv 4) (fun _ _ => rfl)) de_int (fun _ _ => rfl)) dq_nil)) (da_cons (de_bin op_addA ok_addA (dv 2) (de_blt cr_lenA ok_len (by rfl) m_len PySem.boot_len (dq_cons (de_ix (op_ixA hu1) ok_ixA (de_ix (op_ixA hu1) ok_ixA (dv 0) (dv 4) (fun _ _ => rfl)) de_int (fun _ _ => rfl)) dq_nil))) da_nil)))))))
    dss_nil))
abbrev s_are_signs : Stmt := topS 9
theorem sc_are_signs : FnScope ["value", "sign"] ["value"] (defScope s_are_signs) := ⟨rfl, rfl, rfl, by decide +kernel, rfl, by decide +kernel, by decide +kernel⟩
theorem ok_are_signs {f : Addr} {fd : FuncData} (F : Fun K "are_signs" "are_signs" s_are_signs f fd) {t_SIGNS : Tok} (m_SIGNS : mg "SIGNS" = some (.str "abcdefghijklmnopqrstuvwxyz" t_SIGNS)) (m_all : mg "all" = none) (m_isinstance : mg "isinstance" = none) (m_str : mg "str" = none) : FnOk P w K mg base CX0 1 f fd ["value"] (spD K G_are_signs) :=
  def_ok (N := ["value", "sign"]) F sc_are_signs (by rfl) (by rfl) (by decide) fun cdv A outer s H E fx hr => by
    have nd := sc_are_signs.nd
    have hu := hr.units
    have hu1 := hu_of hr
    exact (dss_cons (ds_ret (de_and (de_isi (T := "str") (dv 0) (by rfl) m_isinstance (by rfl) m_str PyProof.Rows.boot_str) (de_one (de_blt (cr_all rfl) ok_all (by rfl) m_all PyProof.Rows.boot_all (dq_cons (de_lc (own := [("sign", 1)]) rfl nd (di_any (dv 0)) (blkOk_by (by kernel_rfl)) (fun _ _ _ _ _ => (ws_name 1 nd)) (fun _ _ _ _ _ => difs_nil) (fun _ _ _ _ _ => (de_cmp (op_inA hu1) (ok_inA false) (dv 1) (dg_str m_SIGNS) (by with_unfolding_all rfl)))) dq_nil)))))
    dss_nil)
abbrev s_is_signs : Stmt := topS 10
theorem sc_is_signs : FnScope ["value", "low", "high"] ["value", "low", "high"] (defScope s_is_signs) := ⟨rfl, rfl, rfl, by decide +kernel, rfl, by decide +kernel, by decide +kernel⟩
theorem ok_is_signs {f : Addr} {fd : FuncData} (F : Fun K "is_signs" "is_signs" s_is_signs f fd) (d_are_signs : DF P w K mg base 1 "are_signs" ["value"] G_are_signs) (m_isinstance : mg "isinstance" = none) (m_len : mg "len" = none) (m_str : mg "str" = none) : FnOk P w K mg base CX0 2 f fd ["value", "low", "high"] (spD K G_is_signs) :=
  def_ok (N := ["value", "low", "high"]) F sc_is_signs (by rfl) (by rfl) (by decide) fun cdv A outer s H E fx hr => by
    have nd := sc_is_signs.nd
    have hu := hr.units
    have hu1 := hu_of hr
    exact (dss_cons (ds_ret (de_and (de_isi (T := "str") (dv 0) (by rfl) m_isinstance (by rfl) m_str PyProof.Rows.boot_str) (de_and (de_chain (op_leA hu) (op_leA hu) (ok_ltA true true) (ok_ltA true true) (fun _ _ _ => ltF_bl) (dv 1) (de_blt cr_lenA ok_len (by rfl) m_len PySem.boot_len (dq_cons (dv 0) dq_nil)) (dv 2)) (de_one (de_call d_are_signs hr (by rfl) (dar_cons (dv 0) dar_nil))))))
    dss_nil)
abbrev s_is_row_of : Stmt := topS 11
theorem sc_is_row_of : FnScope ["value"] ["value"] (defScope s_is_row_of) := ⟨rfl, rfl, rfl, by decide +kernel, rfl, by decide +kernel, by decide +kernel⟩
theorem ok_is_row_of {f : Addr} {fd : FuncData} (F : Fun K "is_row_of" "is_row_of" s_is_row_of f fd) (d_is_signs : DF P w K mg base 2 "is_signs" ["value", "low", "high"] G_is_signs) {t_MOST_ROW : Tok} (m_MOST_ROW : mg "MOST_ROW" = some (.int 2000 t_MOST_ROW)) : FnOk P w K mg base CX0 3 f fd ["value"] (spD K G_is_row_of) :=
  def_ok (N := ["value"]) F sc_is_row_of (by rfl) (by rfl) (by decide) fun cdv A outer s H E fx hr => by
    have nd := sc_is_row_of.nd
    have hu := hr.units
    have hu1 := hu_of hr
    exact (dss_cons (ds_ret (de_call d_is_signs hr (by rfl) (dar_cons (dv 0) (dar_cons de_int (dar_cons (dg_int m_MOST_ROW) dar_nil)))))
    dss_nil)
abbrev s_is_tuple_of : Stmt := topS 7
theorem sc_is_tuple_of : FnScope ["value", "many"] ["value", "many"] (defScope s_is_tuple_of) := ⟨rfl, rfl, rfl, by decide +kernel, rfl, by decide +kernel, by decide +kernel⟩
theorem ok_is_tuple_of {f : Addr} {fd : FuncData} (F : Fun K "is_tuple_of" "is_tuple_of" s_is_tuple_of f fd) (m_isinstance : mg "isinstance" = none) (m_len : mg "len" = none) (m_tuple : mg "tuple" = none) : FnOk P w K mg base CX0 1 f fd ["value", "many"] (spD K G_is_tuple_of) :=
  def_ok (N := ["value", "many"]) F sc_is_tuple_of (by rfl) (by rfl) (by decide) fun cdv A outer s H E fx hr => by
    have nd := sc_is_tuple_of.nd
    have hu := hr.units
    have hu1 := hu_of hr
    exact (dss_cons (ds_ret (de_and (de_isi (T := "tuple") (dv 0) (by rfl) m_isinstance (by rfl) m_tuple PyProof.Rows.boot_tuple) (de_one (de_cmp (op_eqA hu) (ok_eqA false) (de_blt cr_lenA ok_len (by rfl) m_len PySem.boot_len (dq_cons (dv 0) dq_nil)) (dv 1) (nomark _)))))
    dss_nil)
abbrev s_is_entry_of : Stmt := topS 15
theorem sc_is_entry_of : FnScope ["value"] ["value"] (defScope s_is_entry_of) := ⟨rfl, rfl, rfl, by decide +kernel, rfl, by decide +kernel, by decide +kernel⟩
theorem ok_is_entry_of {f : Addr} {fd : FuncData} (F : Fun K "is_entry_of" "is_entry_of" s_is_entry_of f fd) (d_is_tuple_of : DF P w K mg base 2 "is_tuple_of" ["value", "many"] G_is_tuple_of) (d_is_signs : DF P w K mg base 2 "is_signs" ["value", "low", "high"] G_is_signs) {t_MOST_OUTLINE : Tok} (m_MOST_OUTLINE : mg "MOST_OUTLINE" = some (.int 8 t_MOST_OUTLINE)) : FnOk P w K mg base CX0 3 f fd ["value"] (spD K G_is_entry_of) :=
  def_ok (N := ["value"]) F sc_is_entry_of (by rfl) (by rfl) (by decide) fun cdv A outer s H E fx hr => by
    have nd := sc_is_entry_of.nd
    have hu := hr.units
    have hu1 := hu_of hr
    exact (dss_cons (ds_ret (de_and (de_call d_is_tuple_of hr (by rfl) (dar_cons (dv 0) (dar_cons de_int dar_nil))) (de_and (de_call d_is_signs hr (by rfl) (dar_cons (de_ix (op_ixA hu1) ok_ixA (dv 0) de_int (fun _ _ => rfl)) (dar_cons de_int (dar_cons (dg_int m_MOST_OUTLINE) dar_nil)))) (de_one (de_call d_is_signs hr (by rfl) (dar_cons (de_ix (op_ixA hu1) ok_ixA (dv 0) de_int (fun _ _ => rfl)) (dar_cons de_int (dar_cons (dg_int m_MOST_OUTLINE) dar_nil))))))))
    dss_nil)
abbrev s_is_ascending : Stmt := topS 8
theorem sc_is_ascending : FnScope ["value", "one", "other"] ["value"] (defScope s_is_ascending) := ⟨rfl, rfl, rfl, by decide +kernel, rfl, by decide +kernel, by decide +kernel⟩
theorem ok_is_ascending {f : Addr} {fd : FuncData} (F : Fun K "is_ascending" "is_ascending" s_is_ascending f fd) (m_all : mg "all" = none) (m_zip : mg "zip" = none) : FnOk P w K mg base CX0 1 f fd ["value"] (spD K G_is_ascending) :=
  def_ok (N := ["value", "one", "other"]) F sc_is_ascending (by rfl) (by rfl) (by decide) fun cdv A outer s H E fx hr => by
    have nd := sc_is_ascending.nd
    have hu := hr.units
    have hu1 := hu_of hr
    exact (dss_cons (ds_ret (de_blt (cr_all rfl) ok_all (by rfl) m_all PyProof.Rows.boot_all (dq_cons (de_lc (own := [("one", 1), ("other", 2)]) rfl nd (di_zip (by rfl) m_zip (da_cons (dv 0) (da_cons (de_slice (dv 0) (do_some de_int) do_none) da_nil))) (blkOk_by (by kernel_rfl)) (fun _ _ _ _ _ => (dgw_tup rfl (dgsw_cons (ws_name 1 nd) (dgsw_cons (ws_name 2 nd) dgsw_nil)))) (fun _ _ _ _ _ => difs_nil) (fun _ _ _ _ _ => (de_cmp (op_ltA hu) (ok_ltA false false) (dv 1) (dv 2) (nomark _)))) dq_nil)))
    dss_nil)
abbrev s_is_dictionary_of : Stmt := topS 16
theorem sc_is_dictionary_of : FnScope ["value", "entry"] ["value"] (defScope s_is_dictionary_of) := ⟨rfl, rfl, rfl, by decide +kernel, rfl, by decide +kernel, by decide +kernel⟩
theorem ok_is_dictionary_of {f : Addr} {fd : FuncData} (F : Fun K "is_dictionary_of" "is_dictionary_of" s_is_dictionary_of f fd) (d_is_entry_of : DF P w K mg base 3 "is_entry_of" ["value"] G_is_entry_of) (d_is_ascending : DF P w K mg base 3 "is_ascending" ["value"] G_is_ascending) {t_MOST_ENTRIES : Tok} (m_MOST_ENTRIES : mg "MOST_ENTRIES" = some (.int 16 t_MOST_ENTRIES)) (m_all : mg "all" = none) (m_isinstance : mg "isinstance" = none) (m_len : mg "len" = none) (m_tuple : mg "tuple" = none) : FnOk P w K mg base CX0 4 f fd ["value"] (spD K G_is_dictionary_of) :=
  def_ok (N := ["value", "entry"]) F sc_is_dictionary_of (by rfl) (by rfl) (by decide) fun cdv A outer s H E fx hr => by
    have nd := sc_is_dictionary_of.nd
    have hu := hr.units
    have hu1 := hu_of hr
    exact (dss_cons (ds_if (dt_w (dw_or (dt_not (dt_val (de_isi (T := "tuple") (dv 0) (by rfl) m_isinstance (by rfl) m_tuple PyProof.Rows.boot_tuple))) (dw_or1 (dt_not (dt_chain (op_leA hu) (op_leA hu) (ok_ltA true true) (ok_ltA true true) (fun _ _ _ => ltF_bl) de_int (de_blt cr_lenA ok_len (by rfl) m_len PySem.boot_len (dq_cons (dv 0) dq_nil)) (dg_int m_MOST_ENTRIES)))))) (dss_cons (ds_ret de_bl)
    dss_nil) dss_nil)
    (dss_cons (ds_ret (de_and (de_blt (cr_all rfl) ok_all (by rfl) m_all PyProof.Rows.boot_all (dq_cons (de_lc (own := [("entry", 1)]) rfl nd (di_any (dv 0)) (blkOk_by (by kernel_rfl)) (fun _ _ _ _ _ => (ws_name 1 nd)) (fun _ _ _ _ _ => difs_nil) (fun _ _ _ _ _ => (de_call d_is_entry_of hr (by rfl) (dar_cons (dv 1) dar_nil)))) dq_nil)) (de_one (de_call d_is_ascending hr (by rfl) (dar_cons (dv 0) dar_nil)))))
    dss_nil))
abbrev s_check_dictionary : Stmt := topS 17
theorem sc_check_dictionary : FnScope ["value"] ["value"] (defScope s_check_dictionary) := ⟨rfl, rfl, rfl, by decide +kernel, rfl, by decide +kernel, by decide +kernel⟩
theorem ok_check_dictionary {f : Addr} {fd : FuncData} (F : Fun K "check_dictionary" "check_dictionary" s_check_dictionary f fd) (d_is_dictionary_of : DF P w K mg base 4 "is_dictionary_of" ["value"] G_is_dictionary_of) : FnOk P w K mg base CX0 5 f fd ["value"] (spD K G_check_dictionary) :=
  def_ok (N := ["value"]) F sc_check_dictionary (by rfl) (by rfl) (by decide) fun cdv A outer s H E fx hr => by
    have nd := sc_check_dictionary.nd
    have hu := hr.units
    have hu1 := hu_of hr
    exact (dss_cons (ds_if (dt_not (dt_val (de_call d_is_dictionary_of hr (by rfl) (dar_cons (dv 0) dar_nil)))) (dss_cons ds_never
    dss_nil) dss_nil)
    (dss_cons (ds_ret (dv 0))
    dss_nil))
abbrev s_check_written : Stmt := topS 22
theorem sc_check_written : FnScope ["dictionary", "text"] ["dictionary", "text"] (defScope s_check_written) := ⟨rfl, rfl, rfl, by decide +kernel, rfl, by decide +kernel, by decide +kernel⟩
theorem ok_check_written {f : Addr} {fd : FuncData} (F : Fun K "check_written" "check_written" s_check_written f fd) (d_is_row_of : DF P w K mg base 5 "is_row_of" ["value"] G_is_row_of) (d_check_dictionary : DF P w K mg base 5 "check_dictionary" ["value"] G_check_dictionary) : FnOk P w K mg base CX0 6 f fd ["dictionary", "text"] (spD K G_check_written) :=
  def_ok (N := ["dictionary", "text"]) F sc_check_written (by rfl) (by rfl) (by decide) fun cdv A outer s H E fx hr => by
    have nd := sc_check_written.nd
    have hu := hr.units
    have hu1 := hu_of hr
    exact (dss_cons (ds_expr (de_call d_check_dictionary hr (by rfl) (dar_cons (dv 0) dar_nil)))
    (dss_cons (ds_if (dt_not (dt_val (de_call d_is_row_of hr (by rfl) (dar_cons (dv 1) dar_nil)))) (dss_cons ds_never
    dss_nil) dss_nil)
    dss_nil))
abbrev s_writings_many : Stmt := topS 30
theorem sc_writings_many : FnScope ["dictionary", "text", "found", "place", "number", "strokes", "there"] ["dictionary", "text"] (defScope s_writings_many) := ⟨rfl, rfl, rfl, by decide +kernel, rfl, by decide +kernel, by decide +kernel⟩
theorem ok_writings_many {f : Addr} {fd : FuncData} (F : Fun K "writings_many" "writings_many" s_writings_many f fd) (d_entries_on : DF P w K mg base 6 "entries_on" ["dictionary", "text", "place"] G_entries_on) (d_check_written : DF P w K mg base 6 "check_written" ["dictionary", "text"] G_check_written) (m_len : mg "len" = none) (m_range : mg "range" = none) : FnOk P w K mg base CX0 7 f fd ["dictionary", "text"] (spD K G_writings_many) :=
  def_ok (N := ["dictionary", "text", "found", "place", "number", "strokes", "there"]) F sc_writings_many (by rfl) (by rfl) (by decide) fun cdv A outer s H E fx hr => by
    have nd := sc_writings_many.nd
    have hu := hr.units
    have hu1 := hu_of hr
    exact (dss_cons (ds_expr (de_call d_check_written hr (by rfl) (dar_cons (dv 0) (dar_cons (dv 1) dar_nil))))
    (dss_cons (ds_set (i := 2) nd (by rfl) (by first | exact Or.inl rfl | exact Or.inr rfl) (de_bin op_addA ok_addA (de_lst (n := 0) (da_cons de_int da_nil)) (de_bin op_mulB ok_mulB (de_lst (n := 0) (da_cons de_int da_nil)) (de_blt cr_lenA ok_len (by rfl) m_len PySem.boot_len (dq_cons (dv 1) dq_nil)))))
    (dss_cons (ds_for PassesOwn.never rfl (di_range1 (by rfl) m_range (da_cons (de_blt cr_lenA ok_len (by rfl) m_len PySem.boot_len (dq_cons (dv 1) dq_nil)) da_nil)) (g_name 3 nd) (dss_cons (ds_for PassesOwn.never rfl (di_any (de_if (dt_cmp (op_gtA hu) (ok_ltA false true) (de_ix (op_ixA hu1) ok_ixA (dv 2) (dv 3) (fun _ _ => rfl)) de_int (nomark _)) (de_call d_entries_on hr (by rfl) (dar_cons (dv 0) (dar_cons (dv 1) (dar_cons (dv 3) dar_nil)))) (de_lst (n := 0) da_nil))) (dg_tup rfl (dgs_cons (g_name 4 nd) (dgs_cons (g_name 5 nd) (dgs_cons (g_name 6 nd) dgs_nil)))) (dss_cons (ds_put hu1 (de_bin op_addA ok_addA (de_ix (op_ixA hu1) ok_ixA (dv 2) (dv 6) (fun _ _ => rfl)) (de_ix (op_ixA hu1) ok_ixA (dv 2) (dv 3) (fun _ _ => rfl))) (dv 2) (dv 6))
    dss_nil))
    dss_nil))
    (dss_cons (ds_ret (de_ix (op_ixA hu1) ok_ixA (dv 2) (de_neg de_int) (fun _ _ => rfl)))
    dss_nil))))
abbrev s_strokes_on : Stmt := topS 26
theorem sc_strokes_on : FnScope ["dictionary", "text", "found", "place", "some", "number", "strokes", "there"] ["dictionary", "text"] (defScope s_strokes_on) := ⟨rfl, rfl, rfl, by decide +kernel, rfl, by decide +kernel, by decide +kernel⟩
theorem ok_strokes_on {f : Addr} {fd : FuncData} (F : Fun K "strokes_on" "strokes_on" s_strokes_on f fd) (d_entries_on : DF P w K mg base 1 "entries_on" ["dictionary", "text", "place"] G_entries_on) {t_NEVER : Tok} (m_NEVER : mg "NEVER" = some (.int 1000000 t_NEVER)) (m_len : mg "len" = none) (m_min : mg "min" = none) (m_range : mg "range" = none) : FnOk P w K mg base CX0 2 f fd ["dictionary", "text"] (spD K G_strokes_on) :=
  def_ok (N := ["dictionary", "text", "found", "place", "some", "number", "strokes", "there"]) F sc_strokes_on (by rfl) (by rfl) (by decide) fun cdv A outer s H E fx hr => by
    have nd := sc_strokes_on.nd
    have hu := hr.units
    have hu1 := hu_of hr
    exact (dss_cons (ds_set (i := 2) nd (by rfl) (by first | exact Or.inl rfl | exact Or.inr rfl) (de_bin op_addA ok_addA (de_bin op_mulB ok_mulB (de_lst (n := 0) (da_cons (dg_int m_NEVER) da_nil)) (de_blt cr_lenA ok_len (by rfl) m_len PySem.boot_len (dq_cons (dv 1) dq_nil))) (de_lst (n := 0) (da_cons de_int da_nil))))
    (dss_cons (ds_for PassesOwn.never rfl (di_range3 (by rfl) m_range (da_cons (de_bin op_sub ok_sub (de_blt cr_lenA ok_len (by rfl) m_len PySem.boot_len (dq_cons (dv 1) dq_nil)) de_int) (da_cons (de_neg de_int) (da_cons (de_neg de_int) da_nil)))) (g_name 3 nd) (dss_cons (ds_setLc (i := 4) (own := [("number", 5), ("strokes", 6), ("there", 7)]) rfl nd (by rfl) (by rfl) (sw_true rfl rfl rfl (by kernel_rfl)) (di_any (de_call d_entries_on hr (by rfl) (dar_cons (dv 0) (dar_cons (dv 1) (dar_cons (dv 3) dar_nil))))) (blkOk_by (by kernel_rfl)) (fun _ _ _ _ _ => (dgw_tup rfl (dgsw_cons (ws_name 5 nd) (dgsw_cons (ws_name 6 nd) (dgsw_cons (ws_name 7 nd) dgsw_nil))))) (fun _ _ _ _ _ => difs_nil) (fun _ _ _ _ _ => (de_bin op_addA ok_addA (dv 6) (de_ix (op_ixA hu1) ok_ixA (dv 2) (dv 7) (fun _ _ => rfl)))))
    (dss_cons (ds_put hu1 (de_blt (cr_minA rfl hu) ok_min (by rfl) m_min PyProof.Rows.boot_min (dq_cons (de_lst (n := 0) (da_cons (dg_int m_NEVER) (da_star (dv 4) da_nil))) dq_nil)) (dv 2) (dv 3))
    dss_nil)))
    (dss_cons (ds_ret (dv 2))
    dss_nil)))
abbrev s_reading_by : Stmt := topS 25
theorem sc_reading_by : FnScope ["dictionary", "text", "best", "found", "place", "some", "fine", "number", "strokes", "there"] ["dictionary", "text"] (defScope s_reading_by) := ⟨rfl, rfl, rfl, by decide +kernel, rfl, by decide +kernel, by decide +kernel⟩
theorem ok_reading_by {f : Addr} {fd : FuncData} (F : Fun K "reading_by" "reading_by" s_reading_by f fd) (d_entries_on : DF P w K mg base 2 "entries_on" ["dictionary", "text", "place"] G_entries_on) (d_strokes_on : DF P w K mg base 2 "strokes_on" ["dictionary", "text"] G_strokes_on) (m_len : mg "len" = none) (m_tuple : mg "tuple" = none) : FnOk P w K mg base CX0 3 f fd ["dictionary", "text"] (spD K G_reading_by) :=
  def_ok (N := ["dictionary", "text", "best", "found", "place", "some", "fine", "number", "strokes", "there"]) F sc_reading_by (by rfl) (by rfl) (by decide) fun cdv A outer s H E fx hr => by
    have nd := sc_reading_by.nd
    have hu := hr.units
    have hu1 := hu_of hr
    exact (dss_cons (ds_tupAsg (is := [2, 3, 4]) (n := 3) rfl (dts_cons (de_call d_strokes_on hr (by rfl) (dar_cons (dv 0) (dar_cons (dv 1) dar_nil))) (dts_cons (de_lst (n := 0) da_nil) (dts_cons de_int dts_nil))) (pgs_cons (pg_name (i := 2) nd (by rfl) (by first | exact Or.inl rfl | exact Or.inr rfl) (by first | exact .inl rfl | exact .inr rfl)) (pgs_cons (pg_name (i := 3) nd (by rfl) (by first | exact Or.inl rfl | exact Or.inr rfl) (by first | exact .inl rfl | exact .inr rfl)) (pgs_cons (pg_name (i := 4) nd (by rfl) (by first | exact Or.inl rfl | exact Or.inr rfl) (by first | exact .inl rfl | exact .inr rfl)) pgs_nil))) (by rfl) (by rfl) (by rfl) (by decide))
    (dss_cons (ds_while PassesOwn.never (dt_cmp (op_ltA hu) (ok_ltA false false) (dv 4) (de_blt cr_lenA ok_len (by rfl) m_len PySem.boot_len (dq_cons (dv 1) dq_nil)) (nomark _)) (dss_cons (ds_set (i := 5) nd (by rfl) (by first | exact Or.inl rfl | exact Or.inr rfl) (de_call d_entries_on hr (by rfl) (dar_cons (dv 0) (dar_cons (dv 1) (dar_cons (dv 4) dar_nil)))))
    (dss_cons (ds_setLc (i := 6) (own := [("number", 7), ("strokes", 8), ("there", 9)]) rfl nd (by rfl) (by rfl) (sw_true rfl rfl rfl (by kernel_rfl)) (di_any (dv 5)) (blkOk_by (by kernel_rfl)) (fun _ _ _ _ _ => (dgw_tup rfl (dgsw_cons (ws_name 7 nd) (dgsw_cons (ws_name 8 nd) (dgsw_cons (ws_name 9 nd) dgsw_nil))))) (fun _ _ _ _ _ => (difs_one (dt_cmp (op_eqA hu) (ok_eqA false) (de_bin op_addA ok_addA (dv 8) (de_ix (op_ixA hu1) ok_ixA (dv 2) (dv 9) (fun _ _ => rfl))) (de_ix (op_ixA hu1) ok_ixA (dv 2) (dv 4) (fun _ _ => rfl)) (nomark _)))) (fun _ _ _ _ _ => (de_tup (da_cons (dv 7) (da_cons (dv 9) da_nil)))))
    (dss_cons (ds_expr (de_meth PySem.F.plainAttrs_list PySem.F.slot_list_append PySem.F.type_list_append mt_append okm_append (dv 3) (da_cons (de_ix (op_ixA hu1) ok_ixA (de_ix (op_ixA hu1) ok_ixA (dv 6) de_int (fun _ _ => rfl)) de_int (fun _ _ => rfl)) da_nil)))
    (dss_cons (ds_set (i := 4) nd (by rfl) (by first | exact Or.inl rfl | exact Or.inr rfl) (de_ix (op_ixA hu1) ok_ixA (de_ix (op_ixA hu1) ok_ixA (dv 6) de_int (fun _ _ => rfl)) de_int (fun _ _ => rfl)))
    dss_nil)))))
    (dss_cons (ds_ret (de_bty call_tuple_of ok_tuple (by rfl) m_tuple PyProof.Rows.boot_tuple (dq_cons (dv 3) dq_nil)))
    dss_nil)))
abbrev s_levels_by : Stmt := topS 24
theorem sc_levels_by : FnScope ["dictionary", "text", "found", "place", "number", "strokes", "there"] ["dictionary", "text"] (defScope s_levels_by) := ⟨rfl, rfl, rfl, by decide +kernel, rfl, by decide +kernel, by decide +kernel⟩
theorem ok_levels_by {f : Addr} {fd : FuncData} (F : Fun K "levels_by" "levels_by" s_levels_by f fd) (d_entries_on : DF P w K mg base 1 "entries_on" ["dictionary", "text", "place"] G_entries_on) {t_NEVER : Tok} (m_NEVER : mg "NEVER" = some (.int 1000000 t_NEVER)) (m_len : mg "len" = none) (m_min : mg "min" = none) (m_range : mg "range" = none) : FnOk P w K mg base CX0 2 f fd ["dictionary", "text"] (spD K G_levels_by) :=
  def_ok (N := ["dictionary", "text", "found", "place", "number", "strokes", "there"]) F sc_levels_by (by rfl) (by rfl) (by decide) fun cdv A outer s H E fx hr => by
    have nd := sc_levels_by.nd
    have hu := hr.units
    have hu1 := hu_of hr
    exact (dss_cons (ds_set (i := 2) nd (by rfl) (by first | exact Or.inl rfl | exact Or.inr rfl) (de_bin op_addA ok_addA (de_lst (n := 0) (da_cons de_int da_nil)) (de_bin op_mulB ok_mulB (de_lst (n := 0) (da_cons (dg_int m_NEVER) da_nil)) (de_blt cr_lenA ok_len (by rfl) m_len PySem.boot_len (dq_cons (dv 1) dq_nil)))))
    (dss_cons (ds_for PassesOwn.never rfl (di_range1 (by rfl) m_range (da_cons (de_blt cr_lenA ok_len (by rfl) m_len PySem.boot_len (dq_cons (dv 1) dq_nil)) da_nil)) (g_name 3 nd) (dss_cons (ds_for PassesOwn.never rfl (di_any (de_if (dt_cmp (op_ltA hu) (ok_ltA false false) (de_ix (op_ixA hu1) ok_ixA (dv 2) (dv 3) (fun _ _ => rfl)) (dg_int m_NEVER) (nomark _)) (de_call d_entries_on hr (by rfl) (dar_cons (dv 0) (dar_cons (dv 1) (dar_cons (dv 3) dar_nil)))) (de_lst (n := 0) da_nil))) (dg_tup rfl (dgs_cons (g_name 4 nd) (dgs_cons (g_name 5 nd) (dgs_cons (g_name 6 nd) dgs_nil)))) (dss_cons (ds_put hu1 (de_blt (cr_minA rfl hu) ok_min (by rfl) m_min PyProof.Rows.boot_min (dq_cons (de_ix (op_ixA hu1) ok_ixA (dv 2) (dv 6) (fun _ _ => rfl)) (dq_cons (de_bin op_addA ok_addA (de_ix (op_ixA hu1) ok_ixA (dv 2) (dv 3) (fun _ _ => rfl)) (dv 5)) dq_nil))) (dv 2) (dv 6))
    dss_nil))
    dss_nil))
    (dss_cons (ds_ret (dv 2))
    dss_nil)))
abbrev s_written_told : Stmt := topS 27
theorem sc_written_told : FnScope ["dictionary", "text", "levels", "place", "level"] ["dictionary", "text"] (defScope s_written_told) := ⟨rfl, rfl, rfl, by decide +kernel, rfl, by decide +kernel, by decide +kernel⟩
theorem ok_written_told {f : Addr} {fd : FuncData} (F : Fun K "written_told" "written_told" s_written_told f fd) (d_reading_by : DF P w K mg base 6 "reading_by" ["dictionary", "text"] G_reading_by) (d_levels_by : DF P w K mg base 6 "levels_by" ["dictionary", "text"] G_levels_by) (d_check_written : DF P w K mg base 6 "check_written" ["dictionary", "text"] G_check_written) {t_LOT : Tok} (m_LOT : mg "LOT" = some (.str "lot" t_LOT)) {t_NEVER : Tok} (m_NEVER : mg "NEVER" = some (.int 1000000 t_NEVER)) {t_ROW : Tok} (m_ROW : mg "ROW" = some (.str "row" t_ROW)) (m_enumerate : mg "enumerate" = none) (m_tuple : mg "tuple" = none) : FnOk P w K mg base CX0 7 f fd ["dictionary", "text"] (spD K G_written_told) :=
  def_ok (N := ["dictionary", "text", "levels", "place", "level"]) F sc_written_told (by rfl) (by rfl) (by decide) fun cdv A outer s H E fx hr => by
    have nd := sc_written_told.nd
    have hu := hr.units
    have hu1 := hu_of hr
    exact (dss_cons (ds_expr (de_call d_check_written hr (by rfl) (dar_cons (dv 0) (dar_cons (dv 1) dar_nil))))
    (dss_cons (ds_set (i := 2) nd (by rfl) (by first | exact Or.inl rfl | exact Or.inr rfl) (de_call d_levels_by hr (by rfl) (dar_cons (dv 0) (dar_cons (dv 1) dar_nil))))
    (dss_cons (ds_if (dt_cmp (op_eqA hu) (ok_eqA false) (de_ix (op_ixA hu1) ok_ixA (dv 2) (de_neg de_int) (fun _ _ => rfl)) (dg_int m_NEVER) (nomark _)) (dss_cons (ds_ret (de_tup (da_cons (dg_str m_LOT) (da_cons (de_bty call_tuple_of ok_tuple (by rfl) m_tuple PyProof.Rows.boot_tuple (dq_cons (de_lc (own := [("place", 3), ("level", 4)]) rfl nd (di_enum (by rfl) m_enumerate (da_cons (dv 2) da_nil)) (blkOk_by (by kernel_rfl)) (fun _ _ _ _ _ => (dgw_tup rfl (dgsw_cons (ws_name 3 nd) (dgsw_cons (ws_name 4 nd) dgsw_nil)))) (fun _ _ _ _ _ => (difs_one (dt_cmp (op_ltA hu) (ok_ltA false false) (dv 4) (dg_int m_NEVER) (nomark _)))) (fun _ _ _ _ _ => (dv 3))) dq_nil)) da_nil))))
    dss_nil) dss_nil)
    (dss_cons (ds_ret (de_tup (da_cons (dg_str m_ROW) (da_cons (de_ix (op_ixA hu1) ok_ixA (dv 2) (de_neg de_int) (fun _ _ => rfl)) (da_cons (de_call d_reading_by hr (by rfl) (dar_cons (dv 0) (dar_cons (dv 1) dar_nil))) (da_cons (de_bty call_tuple_of ok_tuple (by rfl) m_tuple PyProof.Rows.boot_tuple (dq_cons (dv 2) dq_nil)) da_nil))))))
    dss_nil))))
abbrev s_begun_on : Stmt := topS 29
theorem sc_begun_on : FnScope ["dictionary", "text", "best", "here", "found", "rest", "place", "number", "strokes", "there"] ["dictionary", "text", "best", "here"] (defScope s_begun_on) := ⟨rfl, rfl, rfl, by decide +kernel, rfl, by decide +kernel, by decide +kernel⟩
theorem ok_begun_on {f : Addr} {fd : FuncData} (F : Fun K "begun_on" "begun_on" s_begun_on f fd) (d_entries_on : DF P w K mg base 1 "entries_on" ["dictionary", "text", "place"] G_entries_on) : FnOk P w K mg base CX0 2 f fd ["dictionary", "text", "best", "here"] (spD K G_begun_on) :=
  def_ok (N := ["dictionary", "text", "best", "here", "found", "rest", "place", "number", "strokes", "there"]) F sc_begun_on (by rfl) (by rfl) (by decide) fun cdv A outer s H E fx hr => by
    have nd := sc_begun_on.nd
    have hu := hr.units
    have hu1 := hu_of hr
    exact (dss_cons (ds_set (i := 4) nd (by rfl) (by first | exact Or.inl rfl | exact Or.inr rfl) de_newT)
    (dss_cons (ds_forD (i := 3) PassesOwn.never rfl (by rfl) (by first | exact Or.inl rfl | exact Or.inr (Or.inl rfl) | exact Or.inr (Or.inr rfl)) (fun _ => (dg_tup rfl (dgs_cons (g_name 5 nd) (dgs_cons (g_name 6 nd) dgs_nil)))) (fun _ => (dss_cons (ds_if (dt_cmp (op_neA hu) (ok_eqA true) (dv 5) de_strc (nomark _)) (dss_cons (ds_put hu1 de_bl (dv 4) (de_tup (da_cons (dv 5) (da_cons (dv 6) da_nil))))
    dss_nil) (dss_cons (ds_for PassesOwn.never rfl (di_any (de_call d_entries_on hr (by rfl) (dar_cons (dv 0) (dar_cons (dv 1) (dar_cons (dv 6) dar_nil))))) (dg_tup rfl (dgs_cons (g_name 7 nd) (dgs_cons (g_name 8 nd) (dgs_cons (g_name 9 nd) dgs_nil)))) (dss_cons (ds_if (dt_cmp (op_eqA hu) (ok_eqA false) (de_bin op_addA ok_addA (dv 8) (de_ix (op_ixA hu1) ok_ixA (dv 2) (dv 9) (fun _ _ => rfl))) (de_ix (op_ixA hu1) ok_ixA (dv 2) (dv 6) (fun _ _ => rfl)) (nomark _)) (dss_cons (ds_put hu1 de_bl (dv 4) (de_tup (da_cons (de_ix (op_ixA hu1) ok_ixA (de_ix (op_ixA hu1) ok_ixA (dv 0) (dv 7) (fun _ _ => rfl)) de_int (fun _ _ => rfl)) (da_cons (dv 9) da_nil))))
    dss_nil) dss_nil)
    dss_nil))
    dss_nil))
    dss_nil)))
    (dss_cons (ds_ret (dv 4))
    dss_nil)))
abbrev s_least_written : Stmt := topS 28
theorem sc_least_written : FnScope ["dictionary", "text", "best", "found", "here", "stroke", "rest", "place"] ["dictionary", "text"] (defScope s_least_written) := ⟨rfl, rfl, rfl, by decide +kernel, rfl, by decide +kernel, by decide +kernel⟩
theorem ok_least_written {f : Addr} {fd : FuncData} (F : Fun K "least_written" "least_written" s_least_written f fd) (d_begun_on : DF P w K mg base 6 "begun_on" ["dictionary", "text", "best", "here"] G_begun_on) (d_strokes_on : DF P w K mg base 6 "strokes_on" ["dictionary", "text"] G_strokes_on) (d_check_written : DF P w K mg base 6 "check_written" ["dictionary", "text"] G_check_written) {t_NEVER : Tok} (m_NEVER : mg "NEVER" = some (.int 1000000 t_NEVER)) (m_dict : mg "dict" = none) (m_len : mg "len" = none) (m_min : mg "min" = none) : FnOk P w K mg base CX0 7 f fd ["dictionary", "text"] (spD K G_least_written) :=
  def_ok (N := ["dictionary", "text", "best", "found", "here", "stroke", "rest", "place"]) F sc_least_written (by rfl) (by rfl) (by decide) fun cdv A outer s H E fx hr => by
    have nd := sc_least_written.nd
    have hu := hr.units
    have hu1 := hu_of hr
    exact (dss_cons (ds_expr (de_call d_check_written hr (by rfl) (dar_cons (dv 0) (dar_cons (dv 1) dar_nil))))
    (dss_cons (ds_set (i := 2) nd (by rfl) (by first | exact Or.inl rfl | exact Or.inr rfl) (de_call d_strokes_on hr (by rfl) (dar_cons (dv 0) (dar_cons (dv 1) dar_nil))))
    (dss_cons (ds_if (dt_cmp (op_eqA hu) (ok_eqA false) (de_ix (op_ixA hu1) ok_ixA (dv 2) de_int (fun _ _ => rfl)) (dg_int m_NEVER) (nomark _)) (dss_cons (ds_ret de_non)
    dss_nil) dss_nil)
    (dss_cons (ds_par2 (i := 3) (j := 4) rfl nd (by rfl) (by rfl) (by decide) (by rfl) (by rfl) (dts_cons de_strc (dts_cons (de_dictT1 hu (de_tup (da_cons de_strc (da_cons de_int da_nil))) de_bl) dts_nil)) (by rfl))
    (dss_cons (ds_while PassesOwn.never (dt_cmp (op_ltA hu) (ok_ltA false false) (de_blt cr_lenA ok_len (by rfl) m_len PySem.boot_len (dq_cons (dv 3) dq_nil)) (de_ix (op_ixA hu1) ok_ixA (dv 2) de_int (fun _ _ => rfl)) (nomark _)) (dss_cons (ds_set (i := 4) nd (by rfl) (by first | exact Or.inl rfl | exact Or.inr rfl) (de_call d_begun_on hr (by rfl) (dar_cons (dv 0) (dar_cons (dv 1) (dar_cons (dv 2) (dar_cons (dv 4) dar_nil))))))
    (dss_cons (ds_set (i := 5) nd (by rfl) (by first | exact Or.inl rfl | exact Or.inr rfl) (de_blt (cr_minA rfl hu) ok_min (by rfl) m_min PyProof.Rows.boot_min (dq_cons (de_lcD (i := 4) (own := [("rest", 6), ("place", 7)]) rfl nd (by rfl) (by first | exact Or.inl rfl | exact Or.inr (Or.inl rfl) | exact Or.inr (Or.inr rfl)) (blkOk_by (by kernel_rfl)) (fun _ _ _ _ _ _ => (dgw_tup rfl (dgsw_cons (ws_name 6 nd) (dgsw_cons (ws_name 7 nd) dgsw_nil)))) (fun _ _ _ _ _ _ => difs_nil) (fun _ _ _ _ _ _ => (de_ix (op_ixA hu1) ok_ixA (dv 6) de_int (fun _ _ => rfl)))) dq_nil)))
    (dss_cons (ds_set (i := 3) nd (by rfl) (by first | exact Or.inl rfl | exact Or.inr rfl) (de_bin op_addA ok_addA (dv 3) (dv 5)))
    (dss_cons (ds_set (i := 4) nd (by rfl) (by first | exact Or.inl rfl | exact Or.inr rfl) (de_bty (cr_dictA rfl hu) ok_dict (by rfl) m_dict PyProof.Rows.boot_dict (dq_cons (de_lcD (i := 4) (own := [("rest", 6), ("place", 7)]) rfl nd (by rfl) (by first | exact Or.inl rfl | exact Or.inr (Or.inl rfl) | exact Or.inr (Or.inr rfl)) (blkOk_by (by kernel_rfl)) (fun _ _ _ _ _ _ => (dgw_tup rfl (dgsw_cons (ws_name 6 nd) (dgsw_cons (ws_name 7 nd) dgsw_nil)))) (fun _ _ _ _ _ _ => (difs_one (dt_cmp (op_eqA hu) (ok_eqA false) (de_ix (op_ixA hu1) ok_ixA (dv 6) de_int (fun _ _ => rfl)) (dv 5) (nomark _)))) (fun _ _ _ _ _ _ => (de_tup (da_cons (de_tup (da_cons (de_slice (dv 6) (do_some de_int) do_none) (da_cons (dv 7) da_nil))) (da_cons de_bl da_nil))))) dq_nil)))
    dss_nil)))))
    (dss_cons (ds_ret (dv 3))
    dss_nil))))))
abbrev s__law_take : Stmt := topS 33
theorem sc__law_take : FnScope ["pot", "upto", "prime", "blend", "digit"] ["pot", "upto"] (defScope s__law_take) := ⟨rfl, rfl, rfl, by decide +kernel, rfl, by decide +kernel, by decide +kernel⟩
theorem ok__law_take {f : Addr} {fd : FuncData} (F : Fun K "_law_take" "_law_take" s__law_take f fd) (m_int : mg "int" = none) : FnOk P w K mg base CX0 1 f fd ["pot", "upto"] (spD K G__law_take) :=
  def_ok (N := ["pot", "upto", "prime", "blend", "digit"]) F sc__law_take (by rfl) (by rfl) (by decide) fun cdv A outer s H E fx hr => by
    have nd := sc__law_take.nd
    have hu := hr.units
    have hu1 := hu_of hr
    exact (dss_cons (ds_if (dt_cmp (op_gtA hu) (ok_ltA false true) (de_ix (op_ixA hu1) ok_ixA (dv 0) de_int (fun _ _ => rfl)) de_int (nomark _)) (dss_cons (ds_set (i := 4) nd (by rfl) (by first | exact Or.inl rfl | exact Or.inr rfl) (de_bin op_mod ok_mod (de_bty call_int1 ok_int (by rfl) m_int PyProof.Rows.boot_int (dq_cons (de_ix (op_ixA hu1) ok_ixA (dv 0) de_int (fun _ _ => rfl)) dq_nil)) (dv 1)))
    (dss_cons (ds_put hu1 (de_bin op_fdivW ok_fdiv (de_ix (op_ixA hu1) ok_ixA (dv 0) de_int (fun _ _ => rfl)) (dv 1)) (dv 0) de_int)
    (dss_cons (ds_ret (dv 4))
    dss_nil))) dss_nil)
    (dss_cons (ds_put hu1 (de_bin op_addA ok_addA (de_ix (op_ixA hu1) ok_ixA (dv 0) de_int (fun _ _ => rfl)) de_int) (dv 0) de_int)
    (dss_cons (ds_set (i := 2) nd (by rfl) (by first | exact Or.inl rfl | exact Or.inr rfl) (de_ix (op_ixA hu1) ok_ixA (de_lst (n := 0) (da_cons de_int (da_cons de_int (da_cons de_int (da_cons de_int da_nil))))) (de_bin op_mod ok_mod (de_bty call_int1 ok_int (by rfl) m_int PyProof.Rows.boot_int (dq_cons (de_ix (op_ixA hu1) ok_ixA (dv 0) de_int (fun _ _ => rfl)) dq_nil)) de_int) (fun _ _ => rfl)))
    (dss_cons (ds_set (i := 3) nd (by rfl) (by first | exact Or.inl rfl | exact Or.inr rfl) (de_bin op_mod ok_mod (de_bty call_int1 ok_int (by rfl) m_int PyProof.Rows.boot_int (dq_cons (de_bin op_powW ok_pow (de_bty call_int1 ok_int (by rfl) m_int PyProof.Rows.boot_int (dq_cons (de_bin op_addA ok_addA (de_bin op_addA ok_addA (de_ix (op_ixA hu1) ok_ixA (dv 0) de_int (fun _ _ => rfl)) (de_bin op_mulB ok_mulB (de_bin op_mulB ok_mulB de_int (de_ix (op_ixA hu1) ok_ixA (dv 0) de_int (fun _ _ => rfl))) (de_ix (op_ixA hu1) ok_ixA (dv 0) de_int (fun _ _ => rfl)))) de_int) dq_nil)) de_int) dq_nil)) (dv 2)))
    (dss_cons (ds_ret (de_bin op_mod ok_mod (de_bty call_int1 ok_int (by rfl) m_int PyProof.Rows.boot_int (dq_cons (de_bin op_fdivW ok_fdiv (de_bin op_mulB ok_mulB (dv 3) (de_bin op_addA ok_addA (de_bin op_mod ok_mod (de_bty call_int1 ok_int (by rfl) m_int PyProof.Rows.boot_int (dq_cons (dv 3) dq_nil)) de_int) (de_bin op_mulB ok_mulB de_int (de_ix (op_ixA hu1) ok_ixA (dv 0) de_int (fun _ _ => rfl))))) de_int) dq_nil)) (dv 1)))
    dss_nil)))))
abbrev s__law_unlike : Stmt := topS 36
theorem sc__law_unlike : FnScope ["some", "one"] ["some"] (defScope s__law_unlike) := ⟨rfl, rfl, rfl, by decide +kernel, rfl, by decide +kernel, by decide +kernel⟩
theorem ok__law_unlike {f : Addr} {fd : FuncData} (F : Fun K "_law_unlike" "_law_unlike" s__law_unlike f fd) (m_dict : mg "dict" = none) (m_sorted : mg "sorted" = none) : FnOk P w K mg base CX0 1 f fd ["some"] (spD K G__law_unlike) :=
  def_ok (N := ["some", "one"]) F sc__law_unlike (by rfl) (by rfl) (by decide) fun cdv A outer s H E fx hr => by
    have nd := sc__law_unlike.nd
    have hu := hr.units
    have hu1 := hu_of hr
    exact (dss_cons (ds_ret (de_blt (cr_sortA rfl hu) ok_sortK (by rfl) m_sorted PyProof.Rows.boot_sorted (dq_cons (de_bty (cr_dictA rfl hu) ok_dict (by rfl) m_dict PyProof.Rows.boot_dict (dq_cons (de_lc (own := [("one", 1)]) rfl nd (di_any (dv 0)) (blkOk_by (by kernel_rfl)) (fun _ _ _ _ _ => (ws_name 1 nd)) (fun _ _ _ _ _ => difs_nil) (fun _ _ _ _ _ => (de_tup (da_cons (dv 1) (da_cons de_bl da_nil))))) dq_nil)) dq_nil)))
    dss_nil)
abbrev s__law_of : Stmt := topS 34
theorem sc__law_of : FnScope ["pot", "some"] ["pot", "some"] (defScope s__law_of) := ⟨rfl, rfl, rfl, by decide +kernel, rfl, by decide +kernel, by decide +kernel⟩
theorem ok__law_of {f : Addr} {fd : FuncData} (F : Fun K "_law_of" "_law_of" s__law_of f fd) (d__law_take : DF P w K mg base 1 "_law_take" ["pot", "upto"] G__law_take) (m_len : mg "len" = none) : FnOk P w K mg base CX0 2 f fd ["pot", "some"] (spD K G__law_of) :=
  def_ok (N := ["pot", "some"]) F sc__law_of (by rfl) (by rfl) (by decide) fun cdv A outer s H E fx hr => by
    have nd := sc__law_of.nd
    have hu := hr.units
    have hu1 := hu_of hr
    exact (dss_cons (ds_ret (de_ix (op_ixA hu1) ok_ixA (dv 1) (de_call d__law_take hr (by rfl) (dar_cons (dv 0) (dar_cons (de_blt cr_lenA ok_len (by rfl) m_len PySem.boot_len (dq_cons (dv 1) dq_nil)) dar_nil))) (fun _ _ => rfl)))
    dss_nil)
abbrev s__law_row : Stmt := topS 37
theorem sc__law_row : FnScope ["pot", "letters", "low", "high", "lap"] ["pot", "letters", "low", "high"] (defScope s__law_row) := ⟨rfl, rfl, rfl, by decide +kernel, rfl, by decide +kernel, by decide +kernel⟩
theorem ok__law_row {f : Addr} {fd : FuncData} (F : Fun K "_law_row" "_law_row" s__law_row f fd) (d__law_of : DF P w K mg base 2 "_law_of" ["pot", "some"] G__law_of) (d__law_take : DF P w K mg base 2 "_law_take" ["pot", "upto"] G__law_take) (m_range : mg "range" = none) : FnOk P w K mg base CX0 3 f fd ["pot", "letters", "low", "high"] (spD K G__law_row) :=
  def_ok (N := ["pot", "letters", "low", "high", "lap"]) F sc__law_row (by rfl) (by rfl) (by decide) fun cdv A outer s H E fx hr => by
    have nd := sc__law_row.nd
    have hu := hr.units
    have hu1 := hu_of hr
    exact (dss_cons (ds_ret (de_read PySem.F.plainAttrs_str PySem.F.slot_str_join PySem.F.type_str_join mt_joinD okr_join de_strc (da_cons (de_lc (own := [("lap", 4)]) rfl nd (di_range1 (by rfl) m_range (da_cons (de_bin op_addA ok_addA (dv 2) (de_call d__law_take hr (by rfl) (dar_cons (dv 0) (dar_cons (de_bin op_addA ok_addA (de_bin op_sub ok_sub (dv 3) (dv 2)) de_int) dar_nil)))) da_nil)) (blkOk_by (by kernel_rfl)) (fun _ _ _ _ _ => (ws_name 4 nd)) (fun _ _ _ _ _ => difs_nil) (fun _ _ _ _ _ => (de_call d__law_of hr (by rfl) (dar_cons (dv 0) (dar_cons (dv 1) dar_nil))))) da_nil)))
    dss_nil)
abbrev s__law_is_long_right : Stmt := topS 41
theorem sc__law_is_long_right : FnScope ["pot", "dictionary", "long", "size", "text", "row", "ones", "twos", "many", "least", "lap"] ["pot"] (defScope s__law_is_long_right) := ⟨rfl, rfl, rfl, by decide +kernel, rfl, by decide +kernel, by decide +kernel⟩
theorem ok__law_is_long_right {f : Addr} {fd : FuncData} (F : Fun K "_law_is_long_right" "_law_is_long_right" s__law_is_long_right f fd) (d_writings_many : DF P w K mg base 7 "writings_many" ["dictionary", "text"] G_writings_many) (d_written_told : DF P w K mg base 7 "written_told" ["dictionary", "text"] G_written_told) (d_least_written : DF P w K mg base 7 "least_written" ["dictionary", "text"] G_least_written) (d__law_take : DF P w K mg base 7 "_law_take" ["pot", "upto"] G__law_take) (d__law_unlike : DF P w K mg base 7 "_law_unlike" ["some"] G__law_unlike) (d__law_row : DF P w K mg base 7 "_law_row" ["pot", "letters", "low", "high"] G__law_row) (m_int : mg "int" = none) (m_len : mg "len" = none) (m_min : mg "min" = none) (m_range : mg "range" = none) (m_repr : mg "repr" = none) (m_tuple : mg "tuple" = none) : FnOk P w K mg base CX0 8 f fd ["pot"] (spD K G__law_is_long_right) :=
  def_ok (N := ["pot", "dictionary", "long", "size", "text", "row", "ones", "twos", "many", "least", "lap"]) F sc__law_is_long_right (by rfl) (by rfl) (by decide) fun cdv A outer s H E fx hr => by
    have nd := sc__law_is_long_right.nd
    have hu := hr.units
    have hu1 := hu_of hr
    exact (dss_cons (ds_par2 (i := 6) (j := 7) rfl nd (by rfl) (by rfl) (by decide) (by rfl) (by rfl) (dts_cons (de_call d__law_unlike hr (by rfl) (dar_cons (de_lc (own := [("lap", 10)]) rfl nd (di_range1 (by rfl) m_range (da_cons (de_bin op_addA ok_addA de_int (de_call d__law_take hr (by rfl) (dar_cons (dv 0) (dar_cons de_int dar_nil)))) da_nil)) (blkOk_by (by kernel_rfl)) (fun _ _ _ _ _ => (ws_name 10 nd)) (fun _ _ _ _ _ => difs_nil) (fun _ _ _ _ _ => (de_call d__law_row hr (by rfl) (dar_cons (dv 0) (dar_cons de_strc (dar_cons de_int (dar_cons de_int dar_nil))))))) dar_nil)) (dts_cons (de_call d__law_unlike hr (by rfl) (dar_cons (de_lc (own := [("lap", 10)]) rfl nd (di_range1 (by rfl) m_range (da_cons (de_bin op_addA ok_addA de_int (de_call d__law_take hr (by rfl) (dar_cons (dv 0) (dar_cons de_int dar_nil)))) da_nil)) (blkOk_by (by kernel_rfl)) (fun _ _ _ _ _ => (ws_name 10 nd)) (fun _ _ _ _ _ => difs_nil) (fun _ _ _ _ _ => (de_call d__law_row hr (by rfl) (dar_cons (dv 0) (dar_cons de_strc (dar_cons de_int (dar_cons de_int dar_nil))))))) dar_nil)) dts_nil)) (by rfl))
    (dss_cons (ds_set (i := 1) nd (by rfl) (by first | exact Or.inl rfl | exact Or.inr rfl) (de_bty call_tuple_of ok_tuple (by rfl) m_tuple PyProof.Rows.boot_tuple (dq_cons (de_call d__law_unlike hr (by rfl) (dar_cons (de_bin op_addA ok_addA (de_lc (own := [("row", 5)]) rfl nd (di_any (dv 6)) (blkOk_by (by kernel_rfl)) (fun _ _ _ _ _ => (ws_name 5 nd)) (fun _ _ _ _ _ => difs_nil) (fun _ _ _ _ _ => (de_tup (da_cons (dv 5) (da_cons de_strc da_nil))))) (de_lc (own := [("row", 5)]) rfl nd (di_any (dv 7)) (blkOk_by (by kernel_rfl)) (fun _ _ _ _ _ => (ws_name 5 nd)) (fun _ _ _ _ _ => difs_nil) (fun _ _ _ _ _ => (de_tup (da_cons (dv 5) (da_cons de_strc da_nil)))))) dar_nil)) dq_nil)))
    (dss_cons (ds_set (i := 2) nd (by rfl) (by first | exact Or.inl rfl | exact Or.inr rfl) (de_bin op_addA ok_addA de_int (de_call d__law_take hr (by rfl) (dar_cons (dv 0) (dar_cons de_int dar_nil)))))
    (dss_cons (ds_par2 (i := 8) (j := 9) rfl nd (by rfl) (by rfl) (by decide) (by rfl) (by rfl) (dts_cons (de_lst (n := 0) (da_cons de_int (da_cons (de_blt cr_lenA ok_len (by rfl) m_len PySem.boot_len (dq_cons (dv 6) dq_nil)) da_nil))) (dts_cons (de_lst (n := 0) (da_cons de_int (da_cons (de_blt (cr_minA rfl hu) ok_min (by rfl) m_min PyProof.Rows.boot_min (dq_cons (de_lc (own := [("row", 5)]) rfl nd (di_any (dv 6)) (blkOk_by (by kernel_rfl)) (fun _ _ _ _ _ => (ws_name 5 nd)) (fun _ _ _ _ _ => difs_nil) (fun _ _ _ _ _ => (de_blt cr_lenA ok_len (by rfl) m_len PySem.boot_len (dq_cons (dv 5) dq_nil)))) dq_nil)) da_nil))) dts_nil)) (by rfl))
    (dss_cons (ds_for PassesOwn.never rfl (di_range2 (by rfl) m_range (da_cons de_int (da_cons (de_bin op_addA ok_addA (dv 2) de_int) da_nil))) (g_name 3 nd) (dss_cons (ds_expr (de_meth PySem.F.plainAttrs_list PySem.F.slot_list_append PySem.F.type_list_append mt_append okm_append (dv 8) (da_cons (de_bin op_addA ok_addA (de_bin op_mulB ok_mulB (de_blt cr_lenA ok_len (by rfl) m_len PySem.boot_len (dq_cons (dv 6) dq_nil)) (de_ix (op_ixA hu1) ok_ixA (dv 8) (de_neg de_int) (fun _ _ => rfl))) (de_bin op_mulB ok_mulB (de_blt cr_lenA ok_len (by rfl) m_len PySem.boot_len (dq_cons (dv 7) dq_nil)) (de_ix (op_ixA hu1) ok_ixA (dv 8) (de_neg de_int) (fun _ _ => rfl)))) da_nil)))
    (dss_cons (ds_expr (de_meth PySem.F.plainAttrs_list PySem.F.slot_list_append PySem.F.type_list_append mt_append okm_append (dv 9) (da_cons (de_blt (cr_minA rfl hu) ok_min (by rfl) m_min PyProof.Rows.boot_min (dq_cons (de_lst (n := 0) (da_cons (de_bin op_addA ok_addA (de_ix (op_ixA hu1) ok_ixA (dv 9) (de_neg de_int) (fun _ _ => rfl)) (de_ix (op_ixA hu1) ok_ixA (dv 9) de_int (fun _ _ => rfl))) (da_cons (de_bin op_addA ok_addA (de_ix (op_ixA hu1) ok_ixA (dv 9) (de_neg de_int) (fun _ _ => rfl)) (de_blt (cr_minA rfl hu) ok_min (by rfl) m_min PyProof.Rows.boot_min (dq_cons (de_lc (own := [("row", 5)]) rfl nd (di_any (dv 7)) (blkOk_by (by kernel_rfl)) (fun _ _ _ _ _ => (ws_name 5 nd)) (fun _ _ _ _ _ => difs_nil) (fun _ _ _ _ _ => (de_blt cr_lenA ok_len (by rfl) m_len PySem.boot_len (dq_cons (dv 5) dq_nil)))) dq_nil))) da_nil))) dq_nil)) da_nil)))
    dss_nil)))
    (dss_cons (ds_set (i := 4) nd (by rfl) (by first | exact Or.inl rfl | exact Or.inr rfl) (de_bin op_mulB ok_mulB de_strc (dv 2)))
    (dss_cons (ds_set (i := 5) nd (by rfl) (by first | exact Or.inl rfl | exact Or.inr rfl) (de_call d_least_written hr (by rfl) (dar_cons (dv 1) (dar_cons (dv 4) dar_nil))))
    (dss_cons (ds_ret (de_and (de_cmp (op_eqA hu) (ok_eqA false) (de_blt cr_repr ok_repr (by rfl) m_repr PyProof.Rows.boot_repr (dq_cons (de_call d_writings_many hr (by rfl) (dar_cons (dv 1) (dar_cons (dv 4) dar_nil))) dq_nil)) (de_blt cr_repr ok_repr (by rfl) m_repr PyProof.Rows.boot_repr (dq_cons (de_bty call_int1 ok_int (by rfl) m_int PyProof.Rows.boot_int (dq_cons (de_ix (op_ixA hu1) ok_ixA (dv 8) (de_neg de_int) (fun _ _ => rfl)) dq_nil)) dq_nil)) (nomark _)) (de_one (de_chain (op_eqA hu) (op_eqA hu) (ok_eqA false) (ok_eqA false) (fun _ _ _ => eqF_bl) (de_ix (op_ixA hu1) ok_ixA (de_call d_written_told hr (by rfl) (dar_cons (dv 1) (dar_cons (dv 4) dar_nil))) de_int (fun _ _ => rfl)) (de_ix (op_ixA hu1) ok_ixA (dv 9) (de_neg de_int) (fun _ _ => rfl)) (de_blt cr_lenA ok_len (by rfl) m_len PySem.boot_len (dq_cons (dv 5) dq_nil))))))
    dss_nil))))))))
abbrev s__law_all_writings : Stmt := topS 39
theorem sc__law_all_writings : FnScope ["dictionary", "text", "found", "waiting", "reading", "place", "at", "outline", "its"] ["dictionary", "text"] (defScope s__law_all_writings) := ⟨rfl, rfl, rfl, by decide +kernel, rfl, by decide +kernel, by decide +kernel⟩
theorem ok__law_all_writings {f : Addr} {fd : FuncData} (F : Fun K "_law_all_writings" "_law_all_writings" s__law_all_writings f fd) (m_enumerate : mg "enumerate" = none) (m_len : mg "len" = none) : FnOk P w K mg base CX0 1 f fd ["dictionary", "text"] (spD K G__law_all_writings) :=
  def_ok (N := ["dictionary", "text", "found", "waiting", "reading", "place", "at", "outline", "its"]) F sc__law_all_writings (by rfl) (by rfl) (by decide) fun cdv A outer s H E fx hr => by
    have nd := sc__law_all_writings.nd
    have hu := hr.units
    have hu1 := hu_of hr
    exact (dss_cons (ds_par2 (i := 2) (j := 3) rfl nd (by rfl) (by rfl) (by decide) (by rfl) (by rfl) (dts_cons (de_lst (n := 0) da_nil) (dts_cons (de_lst (n := 0) (da_cons (de_tup (da_cons (de_tup da_nil) (da_cons de_int da_nil))) da_nil)) dts_nil)) (by rfl))
    (dss_cons (ds_while PassesOwn.never (dt_cmp (op_neA hu) (ok_eqA true) (dv 3) (de_lst (n := 0) da_nil) (nomark _)) (dss_cons (ds_asg (de_meth0 PySem.F.plainAttrs_list PySem.F.slot_list_pop PySem.F.type_list_pop mt_pop okm_pop (dv 3)) (dg_tup rfl (dgs_cons (g_name 4 nd) (dgs_cons (g_name 5 nd) dgs_nil))))
    (dss_cons (ds_expr (de_meth PySem.F.plainAttrs_list PySem.F.slot_list_extend PySem.F.type_list_extend mt_extend okm_extend (dv 2) (da_cons (de_if (dt_cmp (op_eqA hu) (ok_eqA false) (dv 5) (de_blt cr_lenA ok_len (by rfl) m_len PySem.boot_len (dq_cons (dv 1) dq_nil)) (nomark _)) (de_lst (n := 0) (da_cons (dv 4) da_nil)) (de_lst (n := 0) da_nil)) da_nil)))
    (dss_cons (ds_expr (de_meth PySem.F.plainAttrs_list PySem.F.slot_list_extend PySem.F.type_list_extend mt_extend okm_extend (dv 3) (da_cons (de_lc (own := [("at", 6), ("outline", 7), ("its", 8)]) rfl nd (di_enum (by rfl) m_enumerate (da_cons (dv 0) da_nil)) (blkOk_by (by kernel_rfl)) (fun _ _ _ _ _ => (dgw_tup rfl (dgsw_cons (ws_name 6 nd) (dgsw_cons (dgw_tup rfl (dgsw_cons (ws_name 7 nd) (dgsw_cons (ws_name 8 nd) dgsw_nil))) dgsw_nil)))) (fun _ _ _ _ _ => (difs_one (dt_w (dw_and (dt_cmp (op_neA hu) (ok_eqA true) (dv 8) de_strc (nomark _)) (dw_and1 (dt_cmp (op_eqA hu) (ok_eqA false) (de_slice (dv 1) (do_some (dv 5)) (do_some (de_bin op_addA ok_addA (dv 5) (de_blt cr_lenA ok_len (by rfl) m_len PySem.boot_len (dq_cons (dv 8) dq_nil))))) (dv 8) (nomark _))))))) (fun _ _ _ _ _ => (de_tup (da_cons (de_bin op_addA ok_addA (dv 4) (de_tup (da_cons (dv 6) da_nil))) (da_cons (de_bin op_addA ok_addA (dv 5) (de_blt cr_lenA ok_len (by rfl) m_len PySem.boot_len (dq_cons (dv 8) dq_nil))) da_nil))))) da_nil)))
    dss_nil))))
    (dss_cons (ds_ret (dv 2))
    dss_nil)))
abbrev s__law_dictionary : Stmt := topS 38
theorem sc__law_dictionary : FnScope ["pot", "entries", "lap"] ["pot"] (defScope s__law_dictionary) := ⟨rfl, rfl, rfl, by decide +kernel, rfl, by decide +kernel, by decide +kernel⟩
theorem ok__law_dictionary {f : Addr} {fd : FuncData} (F : Fun K "_law_dictionary" "_law_dictionary" s__law_dictionary f fd) (d__law_unlike : DF P w K mg base 3 "_law_unlike" ["some"] G__law_unlike) (d__law_row : DF P w K mg base 3 "_law_row" ["pot", "letters", "low", "high"] G__law_row) (d__law_of : DF P w K mg base 3 "_law_of" ["pot", "some"] G__law_of) (d__law_take : DF P w K mg base 3 "_law_take" ["pot", "upto"] G__law_take) (m_range : mg "range" = none) (m_tuple : mg "tuple" = none) : FnOk P w K mg base CX0 4 f fd ["pot"] (spD K G__law_dictionary) :=
  def_ok (N := ["pot", "entries", "lap"]) F sc__law_dictionary (by rfl) (by rfl) (by decide) fun cdv A outer s H E fx hr => by
    have nd := sc__law_dictionary.nd
    have hu := hr.units
    have hu1 := hu_of hr
    exact (dss_cons (ds_setLc (i := 1) (own := [("lap", 2)]) rfl nd (by rfl) (by rfl) (sw_true rfl rfl rfl (by kernel_rfl)) (di_range1 (by rfl) m_range (da_cons (de_bin op_addA ok_addA de_int (de_call d__law_take hr (by rfl) (dar_cons (dv 0) (dar_cons de_int dar_nil)))) da_nil)) (blkOk_by (by kernel_rfl)) (fun _ _ _ _ _ => (ws_name 2 nd)) (fun _ _ _ _ _ => difs_nil) (fun _ _ _ _ _ => (de_tup (da_cons (de_call d__law_row hr (by rfl) (dar_cons (dv 0) (dar_cons de_strc (dar_cons de_int (dar_cons de_int dar_nil))))) (da_cons (de_call d__law_row hr (by rfl) (dar_cons (dv 0) (dar_cons de_strc (dar_cons (de_call d__law_of hr (by rfl) (dar_cons (dv 0) (dar_cons (de_lst (n := 0) (da_cons de_int (da_cons de_int (da_cons de_int da_nil)))) dar_nil))) (dar_cons de_int dar_nil))))) da_nil)))))
    (dss_cons (ds_ret (de_bty call_tuple_of ok_tuple (by rfl) m_tuple PyProof.Rows.boot_tuple (dq_cons (de_call d__law_unlike hr (by rfl) (dar_cons (dv 1) dar_nil)) dq_nil)))
    dss_nil))
abbrev s__law_right : Stmt := topS 40
theorem sc__law_right : FnScope ["pot", "dictionary", "text", "every", "rows", "row", "reading", "lap", "at"] ["pot"] (defScope s__law_right) := ⟨rfl, rfl, rfl, by decide +kernel, rfl, by decide +kernel, by decide +kernel⟩
theorem ok__law_right {f : Addr} {fd : FuncData} (F : Fun K "_law_right" "_law_right" s__law_right f fd) (d_written_told : DF P w K mg base 7 "written_told" ["dictionary", "text"] G_written_told) (d__law_all_writings : DF P w K mg base 7 "_law_all_writings" ["dictionary", "text"] G__law_all_writings) (d__law_of : DF P w K mg base 7 "_law_of" ["pot", "some"] G__law_of) (d__law_row : DF P w K mg base 7 "_law_row" ["pot", "letters", "low", "high"] G__law_row) (d__law_take : DF P w K mg base 7 "_law_take" ["pot", "upto"] G__law_take) (d__law_dictionary : DF P w K mg base 7 "_law_dictionary" ["pot"] G__law_dictionary) {fa_least_written : Addr} {fd_least_written : FuncData} (hK_least_written : FnOk P w K mg base CX0 7 fa_least_written fd_least_written ["dictionary", "text"] (spD K G_least_written)) (fK_least_written : Fun K "least_written" "least_written" s_least_written fa_least_written fd_least_written) (mK_least_written : mg "least_written" = some (.ref fa_least_written)) {fa_writings_many : Addr} {fd_writings_many : FuncData} (hK_writings_many : FnOk P w K mg base CX0 7 fa_writings_many fd_writings_many ["dictionary", "text"] (spD K G_writings_many)) (fK_writings_many : Fun K "writings_many" "writings_many" s_writings_many fa_writings_many fd_writings_many) (mK_writings_many : mg "writings_many" = some (.ref fa_writings_many)) (m_len : mg "len" = none) (m_range : mg "range" = none) (m_repr : mg "repr" = none) (m_sorted : mg "sorted" = none) : FnOk P w K mg base CX0 8 f fd ["pot"] (spD K G__law_right) :=
  def_ok (N := ["pot", "dictionary", "text", "every", "rows", "row", "reading", "lap", "at"]) F sc__law_right (by rfl) (by rfl) (by decide) fun cdv A outer s H E fx hr => by
    have nd := sc__law_right.nd
    have hu := hr.units
    have hu1 := hu_of hr
    exact (dss_cons (ds_set (i := 1) nd (by rfl) (by first | exact Or.inl rfl | exact Or.inr rfl) (de_call d__law_dictionary hr (by rfl) (dar_cons (dv 0) dar_nil)))
    (dss_cons (ds_set (i := 2) nd (by rfl) (by first | exact Or.inl rfl | exact Or.inr rfl) (de_call d__law_of hr (by rfl) (dar_cons (dv 0) (dar_cons (de_lst (n := 0) (da_cons (de_slice (de_read PySem.F.plainAttrs_str PySem.F.slot_str_join PySem.F.type_str_join mt_joinD okr_join de_strc (da_cons (de_lc (own := [("lap", 7)]) rfl nd (di_range1 (by rfl) m_range (da_cons (de_call d__law_take hr (by rfl) (dar_cons (dv 0) (dar_cons de_int dar_nil))) da_nil)) (blkOk_by (by kernel_rfl)) (fun _ _ _ _ _ => (ws_name 7 nd)) (fun _ _ _ _ _ => difs_nil) (fun _ _ _ _ _ => (de_ix (op_ixA hu1) ok_ixA (de_call d__law_of hr (by rfl) (dar_cons (dv 0) (dar_cons (dv 1) dar_nil))) de_int (fun _ _ => rfl)))) da_nil)) do_none (do_some de_int)) (da_cons (de_call d__law_row hr (by rfl) (dar_cons (dv 0) (dar_cons de_strc (dar_cons de_int (dar_cons de_int dar_nil))))) da_nil))) dar_nil))))
    (dss_cons (ds_set (i := 3) nd (by rfl) (by first | exact Or.inl rfl | exact Or.inr rfl) (de_call d__law_all_writings hr (by rfl) (dar_cons (dv 1) (dar_cons (dv 2) dar_nil))))
    (dss_cons (ds_set (i := 4) nd (by rfl) (by first | exact Or.inl rfl | exact Or.inr rfl) (de_blt (cr_sortA rfl hu) ok_sortK (by rfl) m_sorted PyProof.Rows.boot_sorted (dq_cons (de_lc (own := [("row", 5)]) rfl nd (di_any (de_lc (own := [("reading", 6)]) rfl nd (di_any (dv 3)) (blkOk_by (by kernel_rfl)) (fun _ _ _ _ _ => (ws_name 6 nd)) (fun _ _ _ _ _ => difs_nil) (fun _ _ _ _ _ => (de_read PySem.F.plainAttrs_str PySem.F.slot_str_join PySem.F.type_str_join mt_joinD okr_join de_strc (da_cons (de_lc (own := [("at", 8)]) rfl nd (di_any (dv 6)) (blkOk_by (by kernel_rfl)) (fun _ _ _ _ _ => (ws_name 8 nd)) (fun _ _ _ _ _ => difs_nil) (fun _ _ _ _ _ => (de_ix (op_ixA hu1) ok_ixA (de_ix (op_ixA hu1) ok_ixA (dv 1) (dv 8) (fun _ _ => rfl)) de_int (fun _ _ => rfl)))) da_nil))))) (blkOk_by (by kernel_rfl)) (fun _ _ _ _ _ => (ws_name 5 nd)) (fun _ _ _ _ _ => difs_nil) (fun _ _ _ _ _ => (de_tup (da_cons (de_blt cr_lenA ok_len (by rfl) m_len PySem.boot_len (dq_cons (dv 5) dq_nil)) (da_cons (dv 5) da_nil))))) dq_nil)))
    (dss_cons (ds_if (dt_w (dw_or (dt_cmp (op_neA hu) (ok_eqA true) (de_blt cr_repr ok_repr (by rfl) m_repr PyProof.Rows.boot_repr (dq_cons (de_callK (ks := ["text", "dictionary"]) (idx := [1, 0]) (hK_writings_many.mono (by omega)) (fun _ _ _ => runDef_outs) fK_writings_many mK_writings_many (fun _ _ _ _ _ _ us hl => match us, hl with | [_, _], _ => rfl) hr (by rfl) (dk_cons (dv 2) (dk_cons (dv 1) dk_nil))) dq_nil)) (de_blt cr_repr ok_repr (by rfl) m_repr PyProof.Rows.boot_repr (dq_cons (de_blt cr_lenA ok_len (by rfl) m_len PySem.boot_len (dq_cons (dv 3) dq_nil)) dq_nil)) (nomark _)) (dw_or1 (dt_cmp (op_neA hu) (ok_eqA true) (de_cmp (op_eqA hu) (ok_eqA false) (de_ix (op_ixA hu1) ok_ixA (de_call d_written_told hr (by rfl) (dar_cons (dv 1) (dar_cons (dv 2) dar_nil))) de_int (fun _ _ => rfl)) de_strc (nomark _)) (de_cmp (op_eqA hu) (ok_eqA false) (dv 3) (de_lst (n := 0) da_nil) (nomark _)) (nomark _))))) (dss_cons (ds_ret de_bl)
    dss_nil) dss_nil)
    (dss_cons (ds_ret (de_cmp (op_eqA hu) (ok_eqA false) (de_blt cr_repr ok_repr (by rfl) m_repr PyProof.Rows.boot_repr (dq_cons (de_callK (ks := ["text", "dictionary"]) (idx := [1, 0]) (hK_least_written.mono (by omega)) (fun _ _ _ => runDef_outs) fK_least_written mK_least_written (fun _ _ _ _ _ _ us hl => match us, hl with | [_, _], _ => rfl) hr (by rfl) (dk_cons (dv 2) (dk_cons (dv 1) dk_nil))) dq_nil)) (de_blt cr_repr ok_repr (by rfl) m_repr PyProof.Rows.boot_repr (dq_cons (de_if (dt_cmp (op_neA hu) (ok_eqA true) (dv 4) (de_lst (n := 0) da_nil) (nomark _)) (de_ix (op_ixA hu1) ok_ixA (de_ix (op_ixA hu1) ok_ixA (dv 4) de_int (fun _ _ => rfl)) de_int (fun _ _ => rfl)) de_non) dq_nil)) (nomark _)))
    dss_nil))))))
abbrev s__law_pot : Stmt := topS 32
theorem sc__law_pot : FnScope ["script", "place", "cell", "own", "small"] ["script", "place"] (defScope s__law_pot) := ⟨rfl, rfl, rfl, by decide +kernel, rfl, by decide +kernel, by decide +kernel⟩
theorem ok__law_pot {f : Addr} {fd : FuncData} (F : Fun K "_law_pot" "_law_pot" s__law_pot f fd) (m_abs : mg "abs" = none) (m_int : mg "int" = none) (m_len : mg "len" = none) (m_sum : mg "sum" = none) : FnOk P w K mg base CX0 1 f fd ["script", "place"] (spD K G__law_pot) :=
  def_ok (N := ["script", "place", "cell", "own", "small"]) F sc__law_pot (by rfl) (by rfl) (by decide) fun cdv A outer s H E fx hr => by
    have nd := sc__law_pot.nd
    have hu := hr.units
    have hu1 := hu_of hr
    exact (dss_cons (ds_set (i := 2) nd (by rfl) (by first | exact Or.inl rfl | exact Or.inr rfl) (de_if (dt_cmp (op_ltA hu) (ok_ltA false false) (dv 1) (de_blt cr_lenA ok_len (by rfl) m_len PySem.boot_len (dq_cons (dv 0) dq_nil)) (nomark _)) (de_ix (op_ixA hu1) ok_ixA (dv 0) (dv 1) (fun _ _ => rfl)) (de_bin op_addA ok_addA (de_bin op_addA ok_addA (de_bin op_mod ok_mod (de_bty call_int1 ok_int (by rfl) m_int PyProof.Rows.boot_int (dq_cons (de_blt (cr_sum rfl) ok_sum (by rfl) m_sum PyProof.Rows.boot_sum (dq_cons (de_slice (dv 0) do_none (do_some de_int)) dq_nil)) dq_nil)) de_int) (de_bin op_mulB ok_mulB de_int (dv 1))) de_int)))
    (dss_cons (ds_set (i := 3) nd (by rfl) (by first | exact Or.inl rfl | exact Or.inr rfl) (de_bin op_mulB ok_mulB (de_bin op_mod ok_mod (de_bty call_int1 ok_int (by rfl) m_int PyProof.Rows.boot_int (dq_cons (de_blt call_abs ok_abs (by rfl) m_abs PyProof.Rows.boot_abs (dq_cons (dv 2) dq_nil)) dq_nil)) (de_bin op_powW ok_pow (de_bin op_powW ok_pow de_int de_int) de_int)) (de_bty call_int1 ok_int (by rfl) m_int PyProof.Rows.boot_int (dq_cons (de_cmp (op_geA hu) (ok_ltA true false) (de_blt call_abs ok_abs (by rfl) m_abs PyProof.Rows.boot_abs (dq_cons (dv 2) dq_nil)) (de_bin op_powW ok_pow de_int de_int) (nomark _)) dq_nil))))
    (dss_cons (ds_set (i := 4) nd (by rfl) (by first | exact Or.inl rfl | exact Or.inr rfl) (de_bin op_mod ok_mod (de_bty call_int1 ok_int (by rfl) m_int PyProof.Rows.boot_int (dq_cons (dv 2) dq_nil)) de_int))
    (dss_cons (ds_ret (de_lst (n := 0) (da_cons (dv 3) (da_cons (de_bin op_mod ok_mod (de_bty call_int1 ok_int (by rfl) m_int PyProof.Rows.boot_int (dq_cons (de_bin op_addA ok_addA (de_bin op_addA ok_addA (de_bin op_mulB ok_mulB (dv 4) de_int) (de_bin op_mulB ok_mulB (de_bin op_mulB ok_mulB de_int (dv 1)) (dv 1))) de_int) dq_nil)) de_int) (da_cons de_int da_nil)))))
    dss_nil))))
abbrev s_law : Stmt := topS 42
theorem sc_law : FnScope ["script", "place", "pot", "lap"] ["script"] (defScope s_law) := ⟨rfl, rfl, rfl, by decide +kernel, rfl, by decide +kernel, by decide +kernel⟩
theorem ok_law {f : Addr} {fd : FuncData} (F : Fun K "law" "law" s_law f fd) (d__law_cells : DF P w K mg base 8 "_law_cells" ["script", "limit"] G__law_cells) (d__law_is_long_right : DF P w K mg base 8 "_law_is_long_right" ["pot"] G__law_is_long_right) (d__law_right : DF P w K mg base 8 "_law_right" ["pot"] G__law_right) (d__law_pot : DF P w K mg base 8 "_law_pot" ["script", "place"] G__law_pot) (m_all : mg "all" = none) (m_range : mg "range" = none) : FnOk P w K mg base CX0 9 f fd ["script"] (spD K G_law) :=
  def_ok (N := ["script", "place", "pot", "lap"]) F sc_law (by rfl) (by rfl) (by decide) fun cdv A outer s H E fx hr => by
    have nd := sc_law.nd
    have hu := hr.units
    have hu1 := hu_of hr
    exact (dss_cons (ds_for PassesOwn.never rfl (di_any (de_call d__law_cells hr (by rfl) (dar_cons (dv 0) (dar_cons de_int dar_nil)))) (g_name 1 nd) (dss_cons (ds_set (i := 2) nd (by rfl) (by first | exact Or.inl rfl | exact Or.inr rfl) (de_call d__law_pot hr (by rfl) (dar_cons (dv 0) (dar_cons (dv 1) dar_nil))))
    (dss_cons (ds_if (dt_w (dw_or (dt_not (dt_val (de_call d__law_is_long_right hr (by rfl) (dar_cons (dv 2) dar_nil)))) (dw_or1 (dt_not (dt_val (de_blt (cr_all rfl) ok_all (by rfl) m_all PyProof.Rows.boot_all (dq_cons (de_lc (own := [("lap", 3)]) rfl nd (di_range1 (by rfl) m_range (da_cons de_int da_nil)) (blkOk_by (by kernel_rfl)) (fun _ _ _ _ _ => (ws_name 3 nd)) (fun _ _ _ _ _ => difs_nil) (fun _ _ _ _ _ => (de_call d__law_right hr (by rfl) (dar_cons (dv 2) dar_nil)))) dq_nil))))))) (dss_cons (ds_ret de_bl)
    dss_nil) dss_nil)
    dss_nil)))
    (dss_cons (ds_ret de_bl)
    dss_nil))
end
theorem all_mk {l : PySem.W.OpenLaw} {w : World} {K : PySem.W.Frag} {h : Heap} {mg : Str → Option Value} {fa f__law_cells f_entries_on f_are_signs f_is_tuple_of f_is_ascending f__law_take f__law_unlike f__law_all_writings f__law_pot f_is_signs f_strokes_on f_levels_by f_begun_on f__law_of f_is_row_of f_is_entry_of f_reading_by f__law_row f_is_dictionary_of f__law_dictionary f_check_dictionary f_check_written f_writings_many f_written_told f_least_written f__law_is_long_right f__law_right f_law : Addr} (X : K.In h) (G : h.Ns mainGlobals mg) (hfa : mg "law" = some (.ref fa)) {t_LOT : Tok} {t_MOST_ENTRIES : Tok} {t_MOST_OUTLINE : Tok} {t_MOST_ROW : Tok} {t_NEVER : Tok} {t_ROW : Tok} {t_SIGNS : Tok} 
    {od__law_cells an__law_cells : Option Addr} {sl__law_cells : Array (Option Value)} {oc__law_cells kV__law_cells dc__law_cells pm__law_cells cd__law_cells ct__law_cells : Value} {od_entries_on an_entries_on : Option Addr} {sl_entries_on : Array (Option Value)} {oc_entries_on kV_entries_on dc_entries_on pm_entries_on cd_entries_on ct_entries_on : Value} {od_are_signs an_are_signs : Option Addr} {sl_are_signs : Array (Option Value)} {oc_are_signs kV_are_signs dc_are_signs pm_are_signs cd_are_signs ct_are_signs : Value} {od_is_tuple_of an_is_tuple_of : Option Addr} {sl_is_tuple_of : Array (Option Value)} {oc_is_tuple_of kV_is_tuple_of dc_is_tuple_of pm_is_tuple_of cd_is_tuple_of ct_is_tuple_of : Value} {od_is_ascending an_is_ascending : Option Addr} {sl_is_ascending : Array (Option Value)} {oc_is_ascending kV_is_ascending dc_is_ascending pm_is_ascending cd_is_ascending ct_is_ascending : Value} {od__law_take an__law_take : Option Addr} {sl__law_take : Array (Option Value)} {oc__law_take kV__law_take dc__law_take pm__law_take cd__law_take ct__law_take : Value} {od__law_unlike an__law_unlike : Option Addr} {sl__law_unlike : Array (Option Value)} {oc__law_unlike kV__law_unlike dc__law_unlike pm__law_unlike cd__law_unlike ct__law_unlike : Value} {od__law_all_writings an__law_all_writings : Option Addr} {sl__law_all_writings : Array (Option Value)} {oc__law_all_writings kV__law_all_writings dc__law_all_writings pm__law_all_writings cd__law_all_writings ct__law_all_writings : Value} {od__law_pot an__law_pot : Option Addr} {sl__law_pot : Array (Option Value)} {oc__law_pot kV__law_pot dc__law_pot pm__law_pot cd__law_pot ct__law_pot : Value} {od_is_signs an_is_signs : Option Addr} {sl_is_signs : Array (Option Value)} {oc_is_signs kV_is_signs dc_is_signs pm_is_signs cd_is_signs ct_is_signs : Value} {od_strokes_on an_strokes_on : Option Addr} {sl_strokes_on : Array (Option Value)} {oc_strokes_on kV_strokes_on dc_strokes_on pm_strokes_on cd_strokes_on ct_strokes_on : Value} {od_levels_by an_levels_by : Option Addr} {sl_levels_by : Array (Option Value)} {oc_levels_by kV_levels_by dc_levels_by pm_levels_by cd_levels_by ct_levels_by : Value} {od_begun_on an_begun_on : Option Addr} {sl_begun_on : Array (Option Value)} {oc_begun_on kV_begun_on dc_begun_on pm_begun_on cd_begun_on ct_begun_on : Value} {od__law_of an__law_of : Option Addr} {sl__law_of : Array (Option Value)} {oc__law_of kV__law_of dc__law_of pm__law_of cd__law_of ct__law_of : Value} {od_is_row_of an_is_row_of : Option Addr} {sl_is_row_of : Array (Option Value)} {oc_is_row_of kV_is_row_of dc_is_row_of pm_is_row_of cd_is_row_of ct_is_row_of : Value} {od_is_entry_of an_is_entry_of : Option Addr} {sl_is_entry_of : Array (Option Value)} {oc_is_entry_of kV_is_entry_of dc_is_entry_of pm_is_entry_of cd_is_entry_of ct_is_entry_of : Value} {od_reading_by an_reading_by : Option Addr} {sl_reading_by : Array (Option Value)} {oc_reading_by kV_reading_by dc_reading_by pm_reading_by cd_reading_by ct_reading_by : Value} {od__law_row an__law_row : Option Addr} {sl__law_row : Array (Option Value)} {oc__law_row kV__law_row dc__law_row pm__law_row cd__law_row ct__law_row : Value} {od_is_dictionary_of an_is_dictionary_of : Option Addr} {sl_is_dictionary_of : Array (Option Value)} {oc_is_dictionary_of kV_is_dictionary_of dc_is_dictionary_of pm_is_dictionary_of cd_is_dictionary_of ct_is_dictionary_of : Value} {od__law_dictionary an__law_dictionary : Option Addr} {sl__law_dictionary : Array (Option Value)} {oc__law_dictionary kV__law_dictionary dc__law_dictionary pm__law_dictionary cd__law_dictionary ct__law_dictionary : Value} {od_check_dictionary an_check_dictionary : Option Addr} {sl_check_dictionary : Array (Option Value)} {oc_check_dictionary kV_check_dictionary dc_check_dictionary pm_check_dictionary cd_check_dictionary ct_check_dictionary : Value} {od_check_written an_check_written : Option Addr} {sl_check_written : Array (Option Value)} {oc_check_written kV_check_written dc_check_written pm_check_written cd_check_written ct_check_written : Value} {od_writings_many an_writings_many : Option Addr} {sl_writings_many : Array (Option Value)} {oc_writings_many kV_writings_many dc_writings_many pm_writings_many cd_writings_many ct_writings_many : Value} {od_written_told an_written_told : Option Addr} {sl_written_told : Array (Option Value)} {oc_written_told kV_written_told dc_written_told pm_written_told cd_written_told ct_written_told : Value} {od_least_written an_least_written : Option Addr} {sl_least_written : Array (Option Value)} {oc_least_written kV_least_written dc_least_written pm_least_written cd_least_written ct_least_written : Value} {od__law_is_long_right an__law_is_long_right : Option Addr} {sl__law_is_long_right : Array (Option Value)} {oc__law_is_long_right kV__law_is_long_right dc__law_is_long_right pm__law_is_long_right cd__law_is_long_right ct__law_is_long_right : Value} {od__law_right an__law_right : Option Addr} {sl__law_right : Array (Option Value)} {oc__law_right kV__law_right dc__law_right pm__law_right cd__law_right ct__law_right : Value} {od_law an_law : Option Addr} {sl_law : Array (Option Value)} {oc_law kV_law dc_law pm_law cd_law ct_law : Value}
    (a__law_cells : PySem.W.nsIn K mainGlobals "_law_cells" = some (some (.ref f__law_cells))) (l__law_cells : K.lookup f__law_cells = some ⟨oc__law_cells, od__law_cells, .func (PySem.W.fnOf "_law_cells" "_law_cells" (defArgs s__law_cells) (defBody s__law_cells) (defScope s__law_cells) .none kV__law_cells dc__law_cells pm__law_cells an__law_cells cd__law_cells ct__law_cells), sl__law_cells⟩) (c__law_cells : PySem.W.codeIn K cd__law_cells "_law_cells" = true) (k__law_cells : PySem.W.keepIn K (.ref f__law_cells) = true) (a_entries_on : PySem.W.nsIn K mainGlobals "entries_on" = some (some (.ref f_entries_on))) (l_entries_on : K.lookup f_entries_on = some ⟨oc_entries_on, od_entries_on, .func (PySem.W.fnOf "entries_on" "entries_on" (defArgs s_entries_on) (defBody s_entries_on) (defScope s_entries_on) .none kV_entries_on dc_entries_on pm_entries_on an_entries_on cd_entries_on ct_entries_on), sl_entries_on⟩) (c_entries_on : PySem.W.codeIn K cd_entries_on "entries_on" = true) (k_entries_on : PySem.W.keepIn K (.ref f_entries_on) = true) (a_are_signs : PySem.W.nsIn K mainGlobals "are_signs" = some (some (.ref f_are_signs))) (l_are_signs : K.lookup f_are_signs = some ⟨oc_are_signs, od_are_signs, .func (PySem.W.fnOf "are_signs" "are_signs" (defArgs s_are_signs) (defBody s_are_signs) (defScope s_are_signs) .none kV_are_signs dc_are_signs pm_are_signs an_are_signs cd_are_signs ct_are_signs), sl_are_signs⟩) (c_are_signs : PySem.W.codeIn K cd_are_signs "are_signs" = true) (k_are_signs : PySem.W.keepIn K (.ref f_are_signs) = true) (a_is_tuple_of : PySem.W.nsIn K mainGlobals "is_tuple_of" = some (some (.ref f_is_tuple_of))) (l_is_tuple_of : K.lookup f_is_tuple_of = some ⟨oc_is_tuple_of, od_is_tuple_of, .func (PySem.W.fnOf "is_tuple_of" "is_tuple_of" (defArgs s_is_tuple_of) (defBody s_is_tuple_of) (defScope s_is_tuple_of) .none kV_is_tuple_of dc_is_tuple_of pm_is_tuple_of an_is_tuple_of cd_is_tuple_of ct_is_tuple_of), sl_is_tuple_of⟩) (c_is_tuple_of : PySem.W.codeIn K cd_is_tuple_of "is_tuple_of" = true) (k_is_tuple_of : PySem.W.keepIn K (.ref f_is_tuple_of) = true) (a_is_ascending : PySem.W.nsIn K mainGlobals "is_ascending" = some (some (.ref f_is_ascending))) (l_is_ascending : K.lookup f_is_ascending = some ⟨oc_is_ascending, od_is_ascending, .func (PySem.W.fnOf "is_ascending" "is_ascending" (defArgs s_is_ascending) (defBody s_is_ascending) (defScope s_is_ascending) .none kV_is_ascending dc_is_ascending pm_is_ascending an_is_ascending cd_is_ascending ct_is_ascending), sl_is_ascending⟩) (c_is_ascending : PySem.W.codeIn K cd_is_ascending "is_ascending" = true) (k_is_ascending : PySem.W.keepIn K (.ref f_is_ascending) = true) (a__law_take : PySem.W.nsIn K mainGlobals "_law_take" = some (some (.ref f__law_take))) (l__law_take : K.lookup f__law_take = some ⟨oc__law_take, od__law_take, .func (PySem.W.fnOf "_law_take" "_law_take" (defArgs s__law_take) (defBody s__law_take) (defScope s__law_take) .none kV__law_take dc__law_take pm__law_take an__law_take cd__law_take ct__law_take), sl__law_take⟩) (c__law_take : PySem.W.codeIn K cd__law_take "_law_take" = true) (k__law_take : PySem.W.keepIn K (.ref f__law_take) = true) (a__law_unlike : PySem.W.nsIn K mainGlobals "_law_unlike" = some (some (.ref f__law_unlike))) (l__law_unlike : K.lookup f__law_unlike = some ⟨oc__law_unlike, od__law_unlike, .func (PySem.W.fnOf "_law_unlike" "_law_unlike" (defArgs s__law_unlike) (defBody s__law_unlike) (defScope s__law_unlike) .none kV__law_unlike dc__law_unlike pm__law_unlike an__law_unlike cd__law_unlike ct__law_unlike), sl__law_unlike⟩) (c__law_unlike : PySem.W.codeIn K cd__law_unlike "_law_unlike" = true) (k__law_unlike : PySem.W.keepIn K (.ref f__law_unlike) = true) (a__law_all_writings : PySem.W.nsIn K mainGlobals "_law_all_writings" = some (some (.ref f__law_all_writings))) (l__law_all_writings : K.lookup f__law_all_writings = some ⟨oc__law_all_writings, od__law_all_writings, .func (PySem.W.fnOf "_law_all_writings" "_law_all_writings" (defArgs s__law_all_writings) (defBody s__law_all_writings) (defScope s__law_all_writings) .none kV__law_all_writings dc__law_all_writings pm__law_all_writings an__law_all_writings cd__law_all_writings ct__law_all_writings), sl__law_all_writings⟩) (c__law_all_writings : PySem.W.codeIn K cd__law_all_writings "_law_all_writings" = true) (k__law_all_writings : PySem.W.keepIn K (.ref f__law_all_writings) = true) (a__law_pot : PySem.W.nsIn K mainGlobals "_law_pot" = some (some (.ref f__law_pot))) (l__law_pot : K.lookup f__law_pot = some ⟨oc__law_pot, od__law_pot, .func (PySem.W.fnOf "_law_pot" "_law_pot" (defArgs s__law_pot) (defBody s__law_pot) (defScope s__law_pot) .none kV__law_pot dc__law_pot pm__law_pot an__law_pot cd__law_pot ct__law_pot), sl__law_pot⟩) (c__law_pot : PySem.W.codeIn K cd__law_pot "_law_pot" = true) (k__law_pot : PySem.W.keepIn K (.ref f__law_pot) = true) (a_is_signs : PySem.W.nsIn K mainGlobals "is_signs" = some (some (.ref f_is_signs))) (l_is_signs : K.lookup f_is_signs = some ⟨oc_is_signs, od_is_signs, .func (PySem.W.fnOf "is_signs" "is_signs" (defArgs s_is_signs) (defBody s_is_signs) (defScope s_is_signs) .none kV_is_signs dc_is_signs pm_is_signs an_is_signs cd_is_signs ct_is_signs), sl_is_signs⟩) (c_is_signs : PySem.W.codeIn K cd_is_signs "is_signs" = true) (k_is_signs : PySem.W.keepIn K (.ref f_is_signs) = true) (a_strokes_on : PySem.W.nsIn K mainGlobals "strokes_on" = some (some (.ref f_strokes_on))) (l_strokes_on : K.lookup f_strokes_on = some ⟨oc_strokes_on, od_strokes_on, .func (PySem.W.fnOf "strokes_on" "strokes_on" (defArgs s_strokes_on) (defBody s_strokes_on) (defScope s_strokes_on) .none kV_strokes_on dc_strokes_on pm_strokes_on an_strokes_on cd_strokes_on ct_strokes_on), sl_strokes_on⟩) (c_strokes_on : PySem.W.codeIn K cd_strokes_on "strokes_on" = true) (k_strokes_on : PySem.W.keepIn K (.ref f_strokes_on) = true) (a_levels_by : PySem.W.nsIn K mainGlobals "levels_by" = some (some (.ref f_levels_by))) (l_levels_by : K.lookup f_levels_by = some ⟨oc_levels_by, od_levels_by, .func (PySem.W.fnOf "levels_by" "levels_by" (defArgs s_levels_by) (defBody s_levels_by) (defScope s_levels_by) .none kV_levels_by dc_levels_by pm_levels_by an_levels_by cd_levels_by ct_levels_by), sl_levels_by⟩) (c_levels_by : PySem.W.codeIn K cd_levels_by "levels_by" = true) (k_levels_by : PySem.W.keepIn K (.ref f_levels_by) = true) (a_begun_on : PySem.W.nsIn K mainGlobals "begun_on" = some (some (.ref f_begun_on))) (l_begun_on : K.lookup f_begun_on = some ⟨oc_begun_on, od_begun_on, .func (PySem.W.fnOf "begun_on" "begun_on" (defArgs s_begun_on) (defBody s_begun_on) (defScope s_begun_on) .none kV_begun_on dc_begun_on pm_begun_on an_begun_on cd_begun_on ct_begun_on), sl_begun_on⟩) (c_begun_on : PySem.W.codeIn K cd_begun_on "begun_on" = true) (k_begun_on : PySem.W.keepIn K (.ref f_begun_on) = true) (a__law_of : PySem.W.nsIn K mainGlobals "_law_of" = some (some (.ref f__law_of))) (l__law_of : K.lookup f__law_of = some ⟨oc__law_of, od__law_of, .func (PySem.W.fnOf "_law_of" "_law_of" (defArgs s__law_of) (defBody s__law_of) (defScope s__law_of) .none kV__law_of dc__law_of pm__law_of an__law_of cd__law_of ct__law_of), sl__law_of⟩) (c__law_of : PySem.W.codeIn K cd__law_of "_law_of" = true) (k__law_of : PySem.W.keepIn K (.ref f__law_of) = true) (a_is_row_of : PySem.W.nsIn K mainGlobals "is_row_of" = some (some (.ref f_is_row_of))) (l_is_row_of : K.lookup f_is_row_of = some ⟨oc_is_row_of, od_is_row_of, .func (PySem.W.fnOf "is_row_of" "is_row_of" (defArgs s_is_row_of) (defBody s_is_row_of) (defScope s_is_row_of) .none kV_is_row_of dc_is_row_of pm_is_row_of an_is_row_of cd_is_row_of ct_is_row_of), sl_is_row_of⟩) (c_is_row_of : PySem.W.codeIn K cd_is_row_of "is_row_of" = true) (k_is_row_of : PySem.W.keepIn K (.ref f_is_row_of) = true) (a_is_entry_of : PySem.W.nsIn K mainGlobals "is_entry_of" = some (some (.ref f_is_entry_of))) (l_is_entry_of : K.lookup f_is_entry_of = some ⟨oc_is_entry_of, od_is_entry_of, .func (PySem.W.fnOf "is_entry_of" "is_entry_of" (defArgs s_is_entry_of) (defBody s_is_entry_of) (defScope s_is_entry_of) .none kV_is_entry_of dc_is_entry_of pm_is_entry_of an_is_entry_of cd_is_entry_of ct_is_entry_of), sl_is_entry_of⟩) (c_is_entry_of : PySem.W.codeIn K cd_is_entry_of "is_entry_of" = true) (k_is_entry_of : PySem.W.keepIn K (.ref f_is_entry_of) = true) (a_reading_by : PySem.W.nsIn K mainGlobals "reading_by" = some (some (.ref f_reading_by))) (l_reading_by : K.lookup f_reading_by = some ⟨oc_reading_by, od_reading_by, .func (PySem.W.fnOf "reading_by" "reading_by" (defArgs s_reading_by) (defBody s_reading_by) (defScope s_reading_by) .none kV_reading_by dc_reading_by pm_reading_by an_reading_by cd_reading_by ct_reading_by), sl_reading_by⟩) (c_reading_by : PySem.W.codeIn K cd_reading_by "reading_by" = true) (k_reading_by : PySem.W.keepIn K (.ref f_reading_by) = true) (a__law_row : PySem.W.nsIn K mainGlobals "_law_row" = some (some (.ref f__law_row))) (l__law_row : K.lookup f__law_row = some ⟨oc__law_row, od__law_row, .func (PySem.W.fnOf "_law_row" "_law_row" (defArgs s__law_row) (defBody s__law_row) (defScope s__law_row) .none kV__law_row dc__law_row pm__law_row an__law_row cd__law_row ct__law_row), sl__law_row⟩) (c__law_row : PySem.W.codeIn K cd__law_row "_law_row" = true) (k__law_row : PySem.W.keepIn K (.ref f__law_row) = true) (a_is_dictionary_of : PySem.W.nsIn K mainGlobals "is_dictionary_of" = some (some (.ref f_is_dictionary_of))) (l_is_dictionary_of : K.lookup f_is_dictionary_of = some ⟨oc_is_dictionary_of, od_is_dictionary_of, .func (PySem.W.fnOf "is_dictionary_of" "is_dictionary_of" (defArgs s_is_dictionary_of) (defBody s_is_dictionary_of) (defScope s_is_dictionary_of) .none kV_is_dictionary_of dc_is_dictionary_of pm_is_dictionary_of an_is_dictionary_of cd_is_dictionary_of ct_is_dictionary_of), sl_is_dictionary_of⟩) (c_is_dictionary_of : PySem.W.codeIn K cd_is_dictionary_of "is_dictionary_of" = true) (k_is_dictionary_of : PySem.W.keepIn K (.ref f_is_dictionary_of) = true) (a__law_dictionary : PySem.W.nsIn K mainGlobals "_law_dictionary" = some (some (.ref f__law_dictionary))) (l__law_dictionary : K.lookup f__law_dictionary = some ⟨oc__law_dictionary, od__law_dictionary, .func (PySem.W.fnOf "_law_dictionary" "_law_dictionary" (defArgs s__law_dictionary) (defBody s__law_dictionary) (defScope s__law_dictionary) .none kV__law_dictionary dc__law_dictionary pm__law_dictionary an__law_dictionary cd__law_dictionary ct__law_dictionary), sl__law_dictionary⟩) (c__law_dictionary : PySem.W.codeIn K cd__law_dictionary "_law_dictionary" = true) (k__law_dictionary : PySem.W.keepIn K (.ref f__law_dictionary) = true) (a_check_dictionary : PySem.W.nsIn K mainGlobals "check_dictionary" = some (some (.ref f_check_dictionary))) (l_check_dictionary : K.lookup f_check_dictionary = some ⟨oc_check_dictionary, od_check_dictionary, .func (PySem.W.fnOf "check_dictionary" "check_dictionary" (defArgs s_check_dictionary) (defBody s_check_dictionary) (defScope s_check_dictionary) .none kV_check_dictionary dc_check_dictionary pm_check_dictionary an_check_dictionary cd_check_dictionary ct_check_dictionary), sl_check_dictionary⟩) (c_check_dictionary : PySem.W.codeIn K cd_check_dictionary "check_dictionary" = true) (k_check_dictionary : PySem.W.keepIn K (.ref f_check_dictionary) = true) (a_check_written : PySem.W.nsIn K mainGlobals "check_written" = some (some (.ref f_check_written))) (l_check_written : K.lookup f_check_written = some ⟨oc_check_written, od_check_written, .func (PySem.W.fnOf "check_written" "check_written" (defArgs s_check_written) (defBody s_check_written) (defScope s_check_written) .none kV_check_written dc_check_written pm_check_written an_check_written cd_check_written ct_check_written), sl_check_written⟩) (c_check_written : PySem.W.codeIn K cd_check_written "check_written" = true) (k_check_written : PySem.W.keepIn K (.ref f_check_written) = true) (a_writings_many : PySem.W.nsIn K mainGlobals "writings_many" = some (some (.ref f_writings_many))) (l_writings_many : K.lookup f_writings_many = some ⟨oc_writings_many, od_writings_many, .func (PySem.W.fnOf "writings_many" "writings_many" (defArgs s_writings_many) (defBody s_writings_many) (defScope s_writings_many) .none kV_writings_many dc_writings_many pm_writings_many an_writings_many cd_writings_many ct_writings_many), sl_writings_many⟩) (c_writings_many : PySem.W.codeIn K cd_writings_many "writings_many" = true) (k_writings_many : PySem.W.keepIn K (.ref f_writings_many) = true) (a_written_told : PySem.W.nsIn K mainGlobals "written_told" = some (some (.ref f_written_told))) (l_written_told : K.lookup f_written_told = some ⟨oc_written_told, od_written_told, .func (PySem.W.fnOf "written_told" "written_told" (defArgs s_written_told) (defBody s_written_told) (defScope s_written_told) .none kV_written_told dc_written_told pm_written_told an_written_told cd_written_told ct_written_told), sl_written_told⟩) (c_written_told : PySem.W.codeIn K cd_written_told "written_told" = true) (k_written_told : PySem.W.keepIn K (.ref f_written_told) = true) (a_least_written : PySem.W.nsIn K mainGlobals "least_written" = some (some (.ref f_least_written))) (l_least_written : K.lookup f_least_written = some ⟨oc_least_written, od_least_written, .func (PySem.W.fnOf "least_written" "least_written" (defArgs s_least_written) (defBody s_least_written) (defScope s_least_written) .none kV_least_written dc_least_written pm_least_written an_least_written cd_least_written ct_least_written), sl_least_written⟩) (c_least_written : PySem.W.codeIn K cd_least_written "least_written" = true) (k_least_written : PySem.W.keepIn K (.ref f_least_written) = true) (a__law_is_long_right : PySem.W.nsIn K mainGlobals "_law_is_long_right" = some (some (.ref f__law_is_long_right))) (l__law_is_long_right : K.lookup f__law_is_long_right = some ⟨oc__law_is_long_right, od__law_is_long_right, .func (PySem.W.fnOf "_law_is_long_right" "_law_is_long_right" (defArgs s__law_is_long_right) (defBody s__law_is_long_right) (defScope s__law_is_long_right) .none kV__law_is_long_right dc__law_is_long_right pm__law_is_long_right an__law_is_long_right cd__law_is_long_right ct__law_is_long_right), sl__law_is_long_right⟩) (c__law_is_long_right : PySem.W.codeIn K cd__law_is_long_right "_law_is_long_right" = true) (k__law_is_long_right : PySem.W.keepIn K (.ref f__law_is_long_right) = true) (a__law_right : PySem.W.nsIn K mainGlobals "_law_right" = some (some (.ref f__law_right))) (l__law_right : K.lookup f__law_right = some ⟨oc__law_right, od__law_right, .func (PySem.W.fnOf "_law_right" "_law_right" (defArgs s__law_right) (defBody s__law_right) (defScope s__law_right) .none kV__law_right dc__law_right pm__law_right an__law_right cd__law_right ct__law_right), sl__law_right⟩) (c__law_right : PySem.W.codeIn K cd__law_right "_law_right" = true) (k__law_right : PySem.W.keepIn K (.ref f__law_right) = true) (a_law : PySem.W.nsIn K mainGlobals "law" = some (some (.ref f_law))) (l_law : K.lookup f_law = some ⟨oc_law, od_law, .func (PySem.W.fnOf "law" "law" (defArgs s_law) (defBody s_law) (defScope s_law) .none kV_law dc_law pm_law an_law cd_law ct_law), sl_law⟩) (c_law : PySem.W.codeIn K cd_law "law" = true) (k_law : PySem.W.keepIn K (.ref f_law) = true) (z_LOT : PySem.W.nsIn K mainGlobals "LOT" = some (some (.str "lot" t_LOT))) (z_MOST_ENTRIES : PySem.W.nsIn K mainGlobals "MOST_ENTRIES" = some (some (.int 16 t_MOST_ENTRIES))) (z_MOST_OUTLINE : PySem.W.nsIn K mainGlobals "MOST_OUTLINE" = some (some (.int 8 t_MOST_OUTLINE))) (z_MOST_ROW : PySem.W.nsIn K mainGlobals "MOST_ROW" = some (some (.int 2000 t_MOST_ROW))) (z_NEVER : PySem.W.nsIn K mainGlobals "NEVER" = some (some (.int 1000000 t_NEVER))) (z_ROW : PySem.W.nsIn K mainGlobals "ROW" = some (some (.str "row" t_ROW))) (z_SIGNS : PySem.W.nsIn K mainGlobals "SIGNS" = some (some (.str "abcdefghijklmnopqrstuvwxyz" t_SIGNS))) (z_abs : PySem.W.nsIn K mainGlobals "abs" = some none) (z_all : PySem.W.nsIn K mainGlobals "all" = some none) (z_dict : PySem.W.nsIn K mainGlobals "dict" = some none) (z_enumerate : PySem.W.nsIn K mainGlobals "enumerate" = some none) (z_int : PySem.W.nsIn K mainGlobals "int" = some none) (z_isinstance : PySem.W.nsIn K mainGlobals "isinstance" = some none) (z_len : PySem.W.nsIn K mainGlobals "len" = some none) (z_list : PySem.W.nsIn K mainGlobals "list" = some none) (z_max : PySem.W.nsIn K mainGlobals "max" = some none) (z_min : PySem.W.nsIn K mainGlobals "min" = some none) (z_range : PySem.W.nsIn K mainGlobals "range" = some none) (z_repr : PySem.W.nsIn K mainGlobals "repr" = some none) (z_sorted : PySem.W.nsIn K mainGlobals "sorted" = some none) (z_str : PySem.W.nsIn K mainGlobals "str" = some none) (z_sum : PySem.W.nsIn K mainGlobals "sum" = some none) (z_tuple : PySem.W.nsIn K mainGlobals "tuple" = some none) (z_zip : PySem.W.nsIn K mainGlobals "zip" = some none) :
    ∃ fd : FuncData, (∀ (s : Shared) (v : Value), BindsTo s fd ⟨[v], []⟩ [("script", v)]) ∧ ∀ base : Heap, K.In base → base.Ns mainGlobals mg → FnOk l.prog w K mg base CX0 9 fa fd ["script"] (spD K G_law) := by
  have e := hfa.symm.trans (PySem.W.mg_of X G a_law)
  cases e
  have m_LOT := PySem.W.mg_of X G z_LOT
  have m_MOST_ENTRIES := PySem.W.mg_of X G z_MOST_ENTRIES
  have m_MOST_OUTLINE := PySem.W.mg_of X G z_MOST_OUTLINE
  have m_MOST_ROW := PySem.W.mg_of X G z_MOST_ROW
  have m_NEVER := PySem.W.mg_of X G z_NEVER
  have m_ROW := PySem.W.mg_of X G z_ROW
  have m_SIGNS := PySem.W.mg_of X G z_SIGNS
  have m_abs := PySem.W.mg_none_of X G z_abs
  have m_all := PySem.W.mg_none_of X G z_all
  have m_dict := PySem.W.mg_none_of X G z_dict
  have m_enumerate := PySem.W.mg_none_of X G z_enumerate
  have m_int := PySem.W.mg_none_of X G z_int
  have m_isinstance := PySem.W.mg_none_of X G z_isinstance
  have m_len := PySem.W.mg_none_of X G z_len
  have m_list := PySem.W.mg_none_of X G z_list
  have m_max := PySem.W.mg_none_of X G z_max
  have m_min := PySem.W.mg_none_of X G z_min
  have m_range := PySem.W.mg_none_of X G z_range
  have m_repr := PySem.W.mg_none_of X G z_repr
  have m_sorted := PySem.W.mg_none_of X G z_sorted
  have m_str := PySem.W.mg_none_of X G z_str
  have m_sum := PySem.W.mg_none_of X G z_sum
  have m_tuple := PySem.W.mg_none_of X G z_tuple
  have m_zip := PySem.W.mg_none_of X G z_zip
  have F__law_cells := fun_mk (st := s__law_cells) l__law_cells c__law_cells k__law_cells
  have F_entries_on := fun_mk (st := s_entries_on) l_entries_on c_entries_on k_entries_on
  have F_are_signs := fun_mk (st := s_are_signs) l_are_signs c_are_signs k_are_signs
  have F_is_tuple_of := fun_mk (st := s_is_tuple_of) l_is_tuple_of c_is_tuple_of k_is_tuple_of
  have F_is_ascending := fun_mk (st := s_is_ascending) l_is_ascending c_is_ascending k_is_ascending
  have F__law_take := fun_mk (st := s__law_take) l__law_take c__law_take k__law_take
  have F__law_unlike := fun_mk (st := s__law_unlike) l__law_unlike c__law_unlike k__law_unlike
  have F__law_all_writings := fun_mk (st := s__law_all_writings) l__law_all_writings c__law_all_writings k__law_all_writings
  have F__law_pot := fun_mk (st := s__law_pot) l__law_pot c__law_pot k__law_pot
  have F_is_signs := fun_mk (st := s_is_signs) l_is_signs c_is_signs k_is_signs
  have F_strokes_on := fun_mk (st := s_strokes_on) l_strokes_on c_strokes_on k_strokes_on
  have F_levels_by := fun_mk (st := s_levels_by) l_levels_by c_levels_by k_levels_by
  have F_begun_on := fun_mk (st := s_begun_on) l_begun_on c_begun_on k_begun_on
  have F__law_of := fun_mk (st := s__law_of) l__law_of c__law_of k__law_of
  have F_is_row_of := fun_mk (st := s_is_row_of) l_is_row_of c_is_row_of k_is_row_of
  have F_is_entry_of := fun_mk (st := s_is_entry_of) l_is_entry_of c_is_entry_of k_is_entry_of
  have F_reading_by := fun_mk (st := s_reading_by) l_reading_by c_reading_by k_reading_by
  have F__law_row := fun_mk (st := s__law_row) l__law_row c__law_row k__law_row
  have F_is_dictionary_of := fun_mk (st := s_is_dictionary_of) l_is_dictionary_of c_is_dictionary_of k_is_dictionary_of
  have F__law_dictionary := fun_mk (st := s__law_dictionary) l__law_dictionary c__law_dictionary k__law_dictionary
  have F_check_dictionary := fun_mk (st := s_check_dictionary) l_check_dictionary c_check_dictionary k_check_dictionary
  have F_check_written := fun_mk (st := s_check_written) l_check_written c_check_written k_check_written
  have F_writings_many := fun_mk (st := s_writings_many) l_writings_many c_writings_many k_writings_many
  have F_written_told := fun_mk (st := s_written_told) l_written_told c_written_told k_written_told
  have F_least_written := fun_mk (st := s_least_written) l_least_written c_least_written k_least_written
  have F__law_is_long_right := fun_mk (st := s__law_is_long_right) l__law_is_long_right c__law_is_long_right k__law_is_long_right
  have F__law_right := fun_mk (st := s__law_right) l__law_right c__law_right k__law_right
  have F_law := fun_mk (st := s_law) l_law c_law k_law
  have O__law_cells : ∀ base : Heap, K.In base → base.Ns mainGlobals mg → FnOk l.prog w K mg base CX0 1 f__law_cells _ ["script", "limit"] (spD K G__law_cells) := fun base hb hg => ok__law_cells F__law_cells m_len m_list m_max m_min m_range
  have D__law_cells : ∀ base : Heap, K.In base → base.Ns mainGlobals mg → ∀ {j : Nat}, 1 ≤ j → DF l.prog w K mg base j "_law_cells" ["script", "limit"] G__law_cells := fun base hb hg j hj => (df_mk F__law_cells (PySem.W.mg_of X G a__law_cells) (F__law_cells.binds (ps := ["script", "limit"]) fun _ _ _ _ _ _ us hl => match us, hl with | [_, _], _ => rfl) (O__law_cells base hb hg)).mono hj
  have O_entries_on : ∀ base : Heap, K.In base → base.Ns mainGlobals mg → FnOk l.prog w K mg base CX0 1 f_entries_on _ ["dictionary", "text", "place"] (spD K G_entries_on) := fun base hb hg => ok_entries_on F_entries_on m_enumerate m_len
  have D_entries_on : ∀ base : Heap, K.In base → base.Ns mainGlobals mg → ∀ {j : Nat}, 1 ≤ j → DF l.prog w K mg base j "entries_on" ["dictionary", "text", "place"] G_entries_on := fun base hb hg j hj => (df_mk F_entries_on (PySem.W.mg_of X G a_entries_on) (F_entries_on.binds (ps := ["dictionary", "text", "place"]) fun _ _ _ _ _ _ us hl => match us, hl with | [_, _, _], _ => rfl) (O_entries_on base hb hg)).mono hj
  have O_are_signs : ∀ base : Heap, K.In base → base.Ns mainGlobals mg → FnOk l.prog w K mg base CX0 1 f_are_signs _ ["value"] (spD K G_are_signs) := fun base hb hg => ok_are_signs F_are_signs m_SIGNS m_all m_isinstance m_str
  have D_are_signs : ∀ base : Heap, K.In base → base.Ns mainGlobals mg → ∀ {j : Nat}, 1 ≤ j → DF l.prog w K mg base j "are_signs" ["value"] G_are_signs := fun base hb hg j hj => (df_mk F_are_signs (PySem.W.mg_of X G a_are_signs) (F_are_signs.binds (ps := ["value"]) fun _ _ _ _ _ _ us hl => match us, hl with | [_], _ => rfl) (O_are_signs base hb hg)).mono hj
  have O_is_tuple_of : ∀ base : Heap, K.In base → base.Ns mainGlobals mg → FnOk l.prog w K mg base CX0 1 f_is_tuple_of _ ["value", "many"] (spD K G_is_tuple_of) := fun base hb hg => ok_is_tuple_of F_is_tuple_of m_isinstance m_len m_tuple
  have D_is_tuple_of : ∀ base : Heap, K.In base → base.Ns mainGlobals mg → ∀ {j : Nat}, 1 ≤ j → DF l.prog w K mg base j "is_tuple_of" ["value", "many"] G_is_tuple_of := fun base hb hg j hj => (df_mk F_is_tuple_of (PySem.W.mg_of X G a_is_tuple_of) (F_is_tuple_of.binds (ps := ["value", "many"]) fun _ _ _ _ _ _ us hl => match us, hl with | [_, _], _ => rfl) (O_is_tuple_of base hb hg)).mono hj
  have O_is_ascending : ∀ base : Heap, K.In base → base.Ns mainGlobals mg → FnOk l.prog w K mg base CX0 1 f_is_ascending _ ["value"] (spD K G_is_ascending) := fun base hb hg => ok_is_ascending F_is_ascending m_all m_zip
  have D_is_ascending : ∀ base : Heap, K.In base → base.Ns mainGlobals mg → ∀ {j : Nat}, 1 ≤ j → DF l.prog w K mg base j "is_ascending" ["value"] G_is_ascending := fun base hb hg j hj => (df_mk F_is_ascending (PySem.W.mg_of X G a_is_ascending) (F_is_ascending.binds (ps := ["value"]) fun _ _ _ _ _ _ us hl => match us, hl with | [_], _ => rfl) (O_is_ascending base hb hg)).mono hj
  have O__law_take : ∀ base : Heap, K.In base → base.Ns mainGlobals mg → FnOk l.prog w K mg base CX0 1 f__law_take _ ["pot", "upto"] (spD K G__law_take) := fun base hb hg => ok__law_take F__law_take m_int
  have D__law_take : ∀ base : Heap, K.In base → base.Ns mainGlobals mg → ∀ {j : Nat}, 1 ≤ j → DF l.prog w K mg base j "_law_take" ["pot", "upto"] G__law_take := fun base hb hg j hj => (df_mk F__law_take (PySem.W.mg_of X G a__law_take) (F__law_take.binds (ps := ["pot", "upto"]) fun _ _ _ _ _ _ us hl => match us, hl with | [_, _], _ => rfl) (O__law_take base hb hg)).mono hj
  have O__law_unlike : ∀ base : Heap, K.In base → base.Ns mainGlobals mg → FnOk l.prog w K mg base CX0 1 f__law_unlike _ ["some"] (spD K G__law_unlike) := fun base hb hg => ok__law_unlike F__law_unlike m_dict m_sorted
  have D__law_unlike : ∀ base : Heap, K.In base → base.Ns mainGlobals mg → ∀ {j : Nat}, 1 ≤ j → DF l.prog w K mg base j "_law_unlike" ["some"] G__law_unlike := fun base hb hg j hj => (df_mk F__law_unlike (PySem.W.mg_of X G a__law_unlike) (F__law_unlike.binds (ps := ["some"]) fun _ _ _ _ _ _ us hl => match us, hl with | [_], _ => rfl) (O__law_unlike base hb hg)).mono hj
  have O__law_all_writings : ∀ base : Heap, K.In base → base.Ns mainGlobals mg → FnOk l.prog w K mg base CX0 1 f__law_all_writings _ ["dictionary", "text"] (spD K G__law_all_writings) := fun base hb hg => ok__law_all_writings F__law_all_writings m_enumerate m_len
  have D__law_all_writings : ∀ base : Heap, K.In base → base.Ns mainGlobals mg → ∀ {j : Nat}, 1 ≤ j → DF l.prog w K mg base j "_law_all_writings" ["dictionary", "text"] G__law_all_writings := fun base hb hg j hj => (df_mk F__law_all_writings (PySem.W.mg_of X G a__law_all_writings) (F__law_all_writings.binds (ps := ["dictionary", "text"]) fun _ _ _ _ _ _ us hl => match us, hl with | [_, _], _ => rfl) (O__law_all_writings base hb hg)).mono hj
  have O__law_pot : ∀ base : Heap, K.In base → base.Ns mainGlobals mg → FnOk l.prog w K mg base CX0 1 f__law_pot _ ["script", "place"] (spD K G__law_pot) := fun base hb hg => ok__law_pot F__law_pot m_abs m_int m_len m_sum
  have D__law_pot : ∀ base : Heap, K.In base → base.Ns mainGlobals mg → ∀ {j : Nat}, 1 ≤ j → DF l.prog w K mg base j "_law_pot" ["script", "place"] G__law_pot := fun base hb hg j hj => (df_mk F__law_pot (PySem.W.mg_of X G a__law_pot) (F__law_pot.binds (ps := ["script", "place"]) fun _ _ _ _ _ _ us hl => match us, hl with | [_, _], _ => rfl) (O__law_pot base hb hg)).mono hj
  have O_is_signs : ∀ base : Heap, K.In base → base.Ns mainGlobals mg → FnOk l.prog w K mg base CX0 2 f_is_signs _ ["value", "low", "high"] (spD K G_is_signs) := fun base hb hg => ok_is_signs F_is_signs (D_are_signs base hb hg (by omega)) m_isinstance m_len m_str
  have D_is_signs : ∀ base : Heap, K.In base → base.Ns mainGlobals mg → ∀ {j : Nat}, 2 ≤ j → DF l.prog w K mg base j "is_signs" ["value", "low", "high"] G_is_signs := fun base hb hg j hj => (df_mk F_is_signs (PySem.W.mg_of X G a_is_signs) (F_is_signs.binds (ps := ["value", "low", "high"]) fun _ _ _ _ _ _ us hl => match us, hl with | [_, _, _], _ => rfl) (O_is_signs base hb hg)).mono hj
  have O_strokes_on : ∀ base : Heap, K.In base → base.Ns mainGlobals mg → FnOk l.prog w K mg base CX0 2 f_strokes_on _ ["dictionary", "text"] (spD K G_strokes_on) := fun base hb hg => ok_strokes_on F_strokes_on (D_entries_on base hb hg (by omega)) m_NEVER m_len m_min m_range
  have D_strokes_on : ∀ base : Heap, K.In base → base.Ns mainGlobals mg → ∀ {j : Nat}, 2 ≤ j → DF l.prog w K mg base j "strokes_on" ["dictionary", "text"] G_strokes_on := fun base hb hg j hj => (df_mk F_strokes_on (PySem.W.mg_of X G a_strokes_on) (F_strokes_on.binds (ps := ["dictionary", "text"]) fun _ _ _ _ _ _ us hl => match us, hl with | [_, _], _ => rfl) (O_strokes_on base hb hg)).mono hj
  have O_levels_by : ∀ base : Heap, K.In base → base.Ns mainGlobals mg → FnOk l.prog w K mg base CX0 2 f_levels_by _ ["dictionary", "text"] (spD K G_levels_by) := fun base hb hg => ok_levels_by F_levels_by (D_entries_on base hb hg (by omega)) m_NEVER m_len m_min m_range
  have D_levels_by : ∀ base : Heap, K.In base → base.Ns mainGlobals mg → ∀ {j : Nat}, 2 ≤ j → DF l.prog w K mg base j "levels_by" ["dictionary", "text"] G_levels_by := fun base hb hg j hj => (df_mk F_levels_by (PySem.W.mg_of X G a_levels_by) (F_levels_by.binds (ps := ["dictionary", "text"]) fun _ _ _ _ _ _ us hl => match us, hl with | [_, _], _ => rfl) (O_levels_by base hb hg)).mono hj
  have O_begun_on : ∀ base : Heap, K.In base → base.Ns mainGlobals mg → FnOk l.prog w K mg base CX0 2 f_begun_on _ ["dictionary", "text", "best", "here"] (spD K G_begun_on) := fun base hb hg => ok_begun_on F_begun_on (D_entries_on base hb hg (by omega))
  have D_begun_on : ∀ base : Heap, K.In base → base.Ns mainGlobals mg → ∀ {j : Nat}, 2 ≤ j → DF l.prog w K mg base j "begun_on" ["dictionary", "text", "best", "here"] G_begun_on := fun base hb hg j hj => (df_mk F_begun_on (PySem.W.mg_of X G a_begun_on) (F_begun_on.binds (ps := ["dictionary", "text", "best", "here"]) fun _ _ _ _ _ _ us hl => match us, hl with | [_, _, _, _], _ => rfl) (O_begun_on base hb hg)).mono hj
  have O__law_of : ∀ base : Heap, K.In base → base.Ns mainGlobals mg → FnOk l.prog w K mg base CX0 2 f__law_of _ ["pot", "some"] (spD K G__law_of) := fun base hb hg => ok__law_of F__law_of (D__law_take base hb hg (by omega)) m_len
  have D__law_of : ∀ base : Heap, K.In base → base.Ns mainGlobals mg → ∀ {j : Nat}, 2 ≤ j → DF l.prog w K mg base j "_law_of" ["pot", "some"] G__law_of := fun base hb hg j hj => (df_mk F__law_of (PySem.W.mg_of X G a__law_of) (F__law_of.binds (ps := ["pot", "some"]) fun _ _ _ _ _ _ us hl => match us, hl with | [_, _], _ => rfl) (O__law_of base hb hg)).mono hj
  have O_is_row_of : ∀ base : Heap, K.In base → base.Ns mainGlobals mg → FnOk l.prog w K mg base CX0 3 f_is_row_of _ ["value"] (spD K G_is_row_of) := fun base hb hg => ok_is_row_of F_is_row_of (D_is_signs base hb hg (by omega)) m_MOST_ROW
  have D_is_row_of : ∀ base : Heap, K.In base → base.Ns mainGlobals mg → ∀ {j : Nat}, 3 ≤ j → DF l.prog w K mg base j "is_row_of" ["value"] G_is_row_of := fun base hb hg j hj => (df_mk F_is_row_of (PySem.W.mg_of X G a_is_row_of) (F_is_row_of.binds (ps := ["value"]) fun _ _ _ _ _ _ us hl => match us, hl with | [_], _ => rfl) (O_is_row_of base hb hg)).mono hj
  have O_is_entry_of : ∀ base : Heap, K.In base → base.Ns mainGlobals mg → FnOk l.prog w K mg base CX0 3 f_is_entry_of _ ["value"] (spD K G_is_entry_of) := fun base hb hg => ok_is_entry_of F_is_entry_of (D_is_tuple_of base hb hg (by omega)) (D_is_signs base hb hg (by omega)) m_MOST_OUTLINE
  have D_is_entry_of : ∀ base : Heap, K.In base → base.Ns mainGlobals mg → ∀ {j : Nat}, 3 ≤ j → DF l.prog w K mg base j "is_entry_of" ["value"] G_is_entry_of := fun base hb hg j hj => (df_mk F_is_entry_of (PySem.W.mg_of X G a_is_entry_of) (F_is_entry_of.binds (ps := ["value"]) fun _ _ _ _ _ _ us hl => match us, hl with | [_], _ => rfl) (O_is_entry_of base hb hg)).mono hj
  have O_reading_by : ∀ base : Heap, K.In base → base.Ns mainGlobals mg → FnOk l.prog w K mg base CX0 3 f_reading_by _ ["dictionary", "text"] (spD K G_reading_by) := fun base hb hg => ok_reading_by F_reading_by (D_entries_on base hb hg (by omega)) (D_strokes_on base hb hg (by omega)) m_len m_tuple
  have D_reading_by : ∀ base : Heap, K.In base → base.Ns mainGlobals mg → ∀ {j : Nat}, 3 ≤ j → DF l.prog w K mg base j "reading_by" ["dictionary", "text"] G_reading_by := fun base hb hg j hj => (df_mk F_reading_by (PySem.W.mg_of X G a_reading_by) (F_reading_by.binds (ps := ["dictionary", "text"]) fun _ _ _ _ _ _ us hl => match us, hl with | [_, _], _ => rfl) (O_reading_by base hb hg)).mono hj
  have O__law_row : ∀ base : Heap, K.In base → base.Ns mainGlobals mg → FnOk l.prog w K mg base CX0 3 f__law_row _ ["pot", "letters", "low", "high"] (spD K G__law_row) := fun base hb hg => ok__law_row F__law_row (D__law_of base hb hg (by omega)) (D__law_take base hb hg (by omega)) m_range
  have D__law_row : ∀ base : Heap, K.In base → base.Ns mainGlobals mg → ∀ {j : Nat}, 3 ≤ j → DF l.prog w K mg base j "_law_row" ["pot", "letters", "low", "high"] G__law_row := fun base hb hg j hj => (df_mk F__law_row (PySem.W.mg_of X G a__law_row) (F__law_row.binds (ps := ["pot", "letters", "low", "high"]) fun _ _ _ _ _ _ us hl => match us, hl with | [_, _, _, _], _ => rfl) (O__law_row base hb hg)).mono hj
  have O_is_dictionary_of : ∀ base : Heap, K.In base → base.Ns mainGlobals mg → FnOk l.prog w K mg base CX0 4 f_is_dictionary_of _ ["value"] (spD K G_is_dictionary_of) := fun base hb hg => ok_is_dictionary_of F_is_dictionary_of (D_is_entry_of base hb hg (by omega)) (D_is_ascending base hb hg (by omega)) m_MOST_ENTRIES m_all m_isinstance m_len m_tuple
  have D_is_dictionary_of : ∀ base : Heap, K.In base → base.Ns mainGlobals mg → ∀ {j : Nat}, 4 ≤ j → DF l.prog w K mg base j "is_dictionary_of" ["value"] G_is_dictionary_of := fun base hb hg j hj => (df_mk F_is_dictionary_of (PySem.W.mg_of X G a_is_dictionary_of) (F_is_dictionary_of.binds (ps := ["value"]) fun _ _ _ _ _ _ us hl => match us, hl with | [_], _ => rfl) (O_is_dictionary_of base hb hg)).mono hj
  have O__law_dictionary : ∀ base : Heap, K.In base → base.Ns mainGlobals mg → FnOk l.prog w K mg base CX0 4 f__law_dictionary _ ["pot"] (spD K G__law_dictionary) := fun base hb hg => ok__law_dictionary F__law_dictionary (D__law_unlike base hb hg (by omega)) (D__law_row base hb hg (by omega)) (D__law_of base hb hg (by omega)) (D__law_take base hb hg (by omega)) m_range m_tuple
  have D__law_dictionary : ∀ base : Heap, K.In base → base.Ns mainGlobals mg → ∀ {j : Nat}, 4 ≤ j → DF l.prog w K mg base j "_law_dictionary" ["pot"] G__law_dictionary := fun base hb hg j hj => (df_mk F__law_dictionary (PySem.W.mg_of X G a__law_dictionary) (F__law_dictionary.binds (ps := ["pot"]) fun _ _ _ _ _ _ us hl => match us, hl with | [_], _ => rfl) (O__law_dictionary base hb hg)).mono hj
  have O_check_dictionary : ∀ base : Heap, K.In base → base.Ns mainGlobals mg → FnOk l.prog w K mg base CX0 5 f_check_dictionary _ ["value"] (spD K G_check_dictionary) := fun base hb hg => ok_check_dictionary F_check_dictionary (D_is_dictionary_of base hb hg (by omega))
  have D_check_dictionary : ∀ base : Heap, K.In base → base.Ns mainGlobals mg → ∀ {j : Nat}, 5 ≤ j → DF l.prog w K mg base j "check_dictionary" ["value"] G_check_dictionary := fun base hb hg j hj => (df_mk F_check_dictionary (PySem.W.mg_of X G a_check_dictionary) (F_check_dictionary.binds (ps := ["value"]) fun _ _ _ _ _ _ us hl => match us, hl with | [_], _ => rfl) (O_check_dictionary base hb hg)).mono hj
  have O_check_written : ∀ base : Heap, K.In base → base.Ns mainGlobals mg → FnOk l.prog w K mg base CX0 6 f_check_written _ ["dictionary", "text"] (spD K G_check_written) := fun base hb hg => ok_check_written F_check_written (D_is_row_of base hb hg (by omega)) (D_check_dictionary base hb hg (by omega))
  have D_check_written : ∀ base : Heap, K.In base → base.Ns mainGlobals mg → ∀ {j : Nat}, 6 ≤ j → DF l.prog w K mg base j "check_written" ["dictionary", "text"] G_check_written := fun base hb hg j hj => (df_mk F_check_written (PySem.W.mg_of X G a_check_written) (F_check_written.binds (ps := ["dictionary", "text"]) fun _ _ _ _ _ _ us hl => match us, hl with | [_, _], _ => rfl) (O_check_written base hb hg)).mono hj
  have O_writings_many : ∀ base : Heap, K.In base → base.Ns mainGlobals mg → FnOk l.prog w K mg base CX0 7 f_writings_many _ ["dictionary", "text"] (spD K G_writings_many) := fun base hb hg => ok_writings_many F_writings_many (D_entries_on base hb hg (by omega)) (D_check_written base hb hg (by omega)) m_len m_range
  have D_writings_many : ∀ base : Heap, K.In base → base.Ns mainGlobals mg → ∀ {j : Nat}, 7 ≤ j → DF l.prog w K mg base j "writings_many" ["dictionary", "text"] G_writings_many := fun base hb hg j hj => (df_mk F_writings_many (PySem.W.mg_of X G a_writings_many) (F_writings_many.binds (ps := ["dictionary", "text"]) fun _ _ _ _ _ _ us hl => match us, hl with | [_, _], _ => rfl) (O_writings_many base hb hg)).mono hj
  have O_written_told : ∀ base : Heap, K.In base → base.Ns mainGlobals mg → FnOk l.prog w K mg base CX0 7 f_written_told _ ["dictionary", "text"] (spD K G_written_told) := fun base hb hg => ok_written_told F_written_told (D_reading_by base hb hg (by omega)) (D_levels_by base hb hg (by omega)) (D_check_written base hb hg (by omega)) m_LOT m_NEVER m_ROW m_enumerate m_tuple
  have D_written_told : ∀ base : Heap, K.In base → base.Ns mainGlobals mg → ∀ {j : Nat}, 7 ≤ j → DF l.prog w K mg base j "written_told" ["dictionary", "text"] G_written_told := fun base hb hg j hj => (df_mk F_written_told (PySem.W.mg_of X G a_written_told) (F_written_told.binds (ps := ["dictionary", "text"]) fun _ _ _ _ _ _ us hl => match us, hl with | [_, _], _ => rfl) (O_written_told base hb hg)).mono hj
  have O_least_written : ∀ base : Heap, K.In base → base.Ns mainGlobals mg → FnOk l.prog w K mg base CX0 7 f_least_written _ ["dictionary", "text"] (spD K G_least_written) := fun base hb hg => ok_least_written F_least_written (D_begun_on base hb hg (by omega)) (D_strokes_on base hb hg (by omega)) (D_check_written base hb hg (by omega)) m_NEVER m_dict m_len m_min
  have D_least_written : ∀ base : Heap, K.In base → base.Ns mainGlobals mg → ∀ {j : Nat}, 7 ≤ j → DF l.prog w K mg base j "least_written" ["dictionary", "text"] G_least_written := fun base hb hg j hj => (df_mk F_least_written (PySem.W.mg_of X G a_least_written) (F_least_written.binds (ps := ["dictionary", "text"]) fun _ _ _ _ _ _ us hl => match us, hl with | [_, _], _ => rfl) (O_least_written base hb hg)).mono hj
  have O__law_is_long_right : ∀ base : Heap, K.In base → base.Ns mainGlobals mg → FnOk l.prog w K mg base CX0 8 f__law_is_long_right _ ["pot"] (spD K G__law_is_long_right) := fun base hb hg => ok__law_is_long_right F__law_is_long_right (D_writings_many base hb hg (by omega)) (D_written_told base hb hg (by omega)) (D_least_written base hb hg (by omega)) (D__law_take base hb hg (by omega)) (D__law_unlike base hb hg (by omega)) (D__law_row base hb hg (by omega)) m_int m_len m_min m_range m_repr m_tuple
  have D__law_is_long_right : ∀ base : Heap, K.In base → base.Ns mainGlobals mg → ∀ {j : Nat}, 8 ≤ j → DF l.prog w K mg base j "_law_is_long_right" ["pot"] G__law_is_long_right := fun base hb hg j hj => (df_mk F__law_is_long_right (PySem.W.mg_of X G a__law_is_long_right) (F__law_is_long_right.binds (ps := ["pot"]) fun _ _ _ _ _ _ us hl => match us, hl with | [_], _ => rfl) (O__law_is_long_right base hb hg)).mono hj
  have O__law_right : ∀ base : Heap, K.In base → base.Ns mainGlobals mg → FnOk l.prog w K mg base CX0 8 f__law_right _ ["pot"] (spD K G__law_right) := fun base hb hg => ok__law_right F__law_right (D_written_told base hb hg (by omega)) (D__law_all_writings base hb hg (by omega)) (D__law_of base hb hg (by omega)) (D__law_row base hb hg (by omega)) (D__law_take base hb hg (by omega)) (D__law_dictionary base hb hg (by omega)) (O_least_written base hb hg) F_least_written (PySem.W.mg_of X G a_least_written) (O_writings_many base hb hg) F_writings_many (PySem.W.mg_of X G a_writings_many) m_len m_range m_repr m_sorted
  have D__law_right : ∀ base : Heap, K.In base → base.Ns mainGlobals mg → ∀ {j : Nat}, 8 ≤ j → DF l.prog w K mg base j "_law_right" ["pot"] G__law_right := fun base hb hg j hj => (df_mk F__law_right (PySem.W.mg_of X G a__law_right) (F__law_right.binds (ps := ["pot"]) fun _ _ _ _ _ _ us hl => match us, hl with | [_], _ => rfl) (O__law_right base hb hg)).mono hj
  exact ⟨PySem.W.fnOf "law" "law" (defArgs s_law) (defBody s_law) (defScope s_law) .none kV_law dc_law pm_law an_law cd_law ct_law, fun s v => .of_eq rfl, fun base hb hg => ok_law F_law (D__law_cells base hb hg (by omega)) (D__law_is_long_right base hb hg (by omega)) (D__law_right base hb hg (by omega)) (D__law_pot base hb hg (by omega)) m_all m_range⟩
end DD

namespace DD
open PySem PySem.Spec PyProof.Rows L2
/-! ### how meanings run: each combinator as a match -/
section
variable {Fa Fb Fc : FE} {A B : FB} {g g' : D → D → Option T} {e : DEnv} {L : FL} {Q : FQs} {R : FAr} {O P : FO} {U : FTs} {I : FI} {gg : GD} {S1 S2 : FS} {i : Nat} {d : D} {G : GF}
@[simp] theorem r_f2 : f2 g Fa Fb e = match Fa e with
  | some (ta, e1) => match Fb e1 with
    | some (tb, e2) => match rd ta e2 with
      | some x => match rd tb e2 with
        | some y => match g x y with
          | some t => some (t, e2)
          | none => none
        | none => none
      | none => none
    | none => none
  | none => none := by
  unfold f2
  simp only [Option.bind_eq_bind]
  rcases (Fa e) with _ | ⟨ta, e1⟩
  · rfl
  simp only [Option.bind_some]
  rcases (Fb e1) with _ | ⟨tb, e2⟩
  · rfl
  simp only [Option.bind_some]
  rcases (rd ta e2) with _ | x
  · rfl
  simp only [Option.bind_some]
  rcases (rd tb e2) with _ | y
  · rfl
  simp only [Option.bind_some]
  rcases (g x y) with _ | t
  · rfl
  rfl
@[simp] theorem r_fB : fB Fa e = match Fa e with
  | some (t, e1) => match rd t e1 with
    | some (.bl c) => some (c, e1)
    | _ => none
  | none => none := by
  unfold fB
  simp only [Option.bind_eq_bind]
  rcases (Fa e) with _ | ⟨t, e1⟩
  · rfl
  simp only [Option.bind_some]
  rcases (rd t e1) with _ | d
  · rfl
  simp only [Option.bind_some]
  cases d <;> rfl
@[simp] theorem r_fAndT : fAndT A B e = match A e with
  | some (c, e1) => if c = true then B e1 else some (false, e1)
  | none => none := by
  unfold fAndT
  simp only [Option.bind_eq_bind]
  rcases (A e) with _ | ⟨c, e1⟩
  · rfl
  rfl
@[simp] theorem r_fOrT : fOrT A B e = match A e with
  | some (c, e1) => if c = true then some (true, e1) else B e1
  | none => none := by
  unfold fOrT
  simp only [Option.bind_eq_bind]
  rcases (A e) with _ | ⟨c, e1⟩
  · rfl
  rfl
@[simp] theorem r_fNotT : fNotT A e = match A e with
  | some (c, e1) => some (!c, e1)
  | none => none := by
  unfold fNotT
  simp only [Option.bind_eq_bind]
  rcases (A e) with _ | ⟨c, e1⟩
  · rfl
  rfl
@[simp] theorem r_fAnd : fAnd Fa Fb e = match Fa e with
  | some (t, e1) => match rd t e1 with
    | some (.bl true) => Fb e1
    | some (.bl false) => some (.sh (.bl false), e1)
    | _ => none
  | none => none := by
  unfold fAnd
  simp only [Option.bind_eq_bind]
  rcases (Fa e) with _ | ⟨t, e1⟩
  · rfl
  simp only [Option.bind_some]
  rcases (rd t e1) with _ | d
  · rfl
  simp only [Option.bind_some]
  cases d with
  | bl c => cases c <;> rfl
  | _ => rfl
@[simp] theorem r_fOr : fOr Fa Fb e = match Fa e with
  | some (t, e1) => match rd t e1 with
    | some (.bl false) => Fb e1
    | some (.bl true) => some (.sh (.bl true), e1)
    | _ => none
  | none => none := by
  unfold fOr
  simp only [Option.bind_eq_bind]
  rcases (Fa e) with _ | ⟨t, e1⟩
  · rfl
  simp only [Option.bind_some]
  rcases (rd t e1) with _ | d
  · rfl
  simp only [Option.bind_some]
  cases d with
  | bl c => cases c <;> rfl
  | _ => rfl
@[simp] theorem r_fNot : fNot Fa e = match Fa e with
  | some (t, e1) => match rd t e1 with
    | some (.bl c) => some (.sh (.bl (!c)), e1)
    | _ => none
  | none => none := by
  unfold fNot
  simp only [Option.bind_eq_bind]
  rcases (Fa e) with _ | ⟨t, e1⟩
  · rfl
  simp only [Option.bind_some]
  rcases (rd t e1) with _ | d
  · rfl
  simp only [Option.bind_some]
  cases d <;> rfl
@[simp] theorem r_fIf : fIf A Fa Fb e = match A e with
  | some (c, e1) => if c = true then Fa e1 else Fb e1
  | none => none := by
  unfold fIf
  simp only [Option.bind_eq_bind]
  rcases (A e) with _ | ⟨c, e1⟩
  · rfl
  rfl
@[simp] theorem r_fChain : fChain g g' Fa Fb Fc e = match Fa e with
  | some (ta, e1) => match Fb e1 with
    | some (tb, e2) => match rd ta e2 with
      | some x => match rd tb e2 with
        | some y => match g x y with
          | some (.sh (.bl true)) => match Fc e2 with
            | some (tc, e3) => match rd tb e3 with
              | some y' => match rd tc e3 with
                | some z => match g' y' z with
                  | some t' => some (t', e3)
                  | none => none
                | none => none
              | none => none
            | none => none
          | some (.sh (.bl false)) => some (.sh (.bl false), e2)
          | _ => none
        | none => none
      | none => none
    | none => none
  | none => none := by
  unfold fChain
  simp only [Option.bind_eq_bind]
  rcases (Fa e) with _ | ⟨ta, e1⟩
  · rfl
  simp only [Option.bind_some]
  rcases (Fb e1) with _ | ⟨tb, e2⟩
  · rfl
  simp only [Option.bind_some]
  rcases (rd ta e2) with _ | x
  · rfl
  simp only [Option.bind_some]
  rcases (rd tb e2) with _ | y
  · rfl
  simp only [Option.bind_some]
  rcases (g x y) with _ | t
  · rfl
  simp only [Option.bind_some]
  cases t with
  | sh d => cases d with
    | bl c => cases c with
      | false => rfl
      | true =>
        simp only [Option.bind_eq_bind]
        cases Fc e2 with
        | none => rfl
        | some p =>
          obtain ⟨tc, e3⟩ := p
          simp only [Option.bind_some]
          cases rd tb e3 with
          | none => rfl
          | some y' =>
            simp only [Option.bind_some]
            cases rd tc e3 with
            | none => rfl
            | some z =>
              simp only [Option.bind_some]
              cases g' y' z <;> rfl
    | _ => rfl
  | _ => rfl
@[simp] theorem r_fPart : fPart Fa e = match Fa e with
  | some (t, e1) => match rd t e1 with
    | some (.int i) => some (some i, e1)
    | _ => none
  | none => none := by
  unfold fPart
  simp only [Option.bind_eq_bind]
  rcases (Fa e) with _ | ⟨t, e1⟩
  · rfl
  simp only [Option.bind_some]
  rcases (rd t e1) with _ | d
  · rfl
  simp only [Option.bind_some]
  cases d <;> rfl
@[simp] theorem r_fSl : fSl Fa O P e = match Fa e with
  | some (t, e1) => match O e1 with
    | some (lo, e2) => match P e2 with
      | some (hi, e3) => match rd t e3 with
        | some x => match slD x lo hi with
          | some r => some (r, e3)
          | none => none
        | none => none
      | none => none
    | none => none
  | none => none := by
  unfold fSl
  simp only [Option.bind_eq_bind]
  rcases (Fa e) with _ | ⟨t, e1⟩
  · rfl
  simp only [Option.bind_some]
  rcases (O e1) with _ | ⟨lo, e2⟩
  · rfl
  simp only [Option.bind_some]
  rcases (P e2) with _ | ⟨hi, e3⟩
  · rfl
  simp only [Option.bind_some]
  rcases (rd t e3) with _ | x
  · rfl
  simp only [Option.bind_some]
  rcases (slD x lo hi) with _ | r
  · rfl
  rfl
@[simp] theorem r_fCons : fCons Fa L e = match Fa e with
  | some (t, e1) => match toSh t e1 with
    | some (d, e2) => match L e2 with
      | some (ds, e3) => some (d :: ds, e3)
      | none => none
    | none => none
  | none => none := by
  unfold fCons
  simp only [Option.bind_eq_bind]
  rcases (Fa e) with _ | ⟨t, e1⟩
  · rfl
  simp only [Option.bind_some]
  rcases (toSh t e1) with _ | ⟨d, e2⟩
  · rfl
  simp only [Option.bind_some]
  rcases (L e2) with _ | ⟨ds, e3⟩
  · rfl
  rfl
@[simp] theorem r_fStar : fStar Fa L e = match Fa e with
  | some (t, e1) => match rd t e1 with
    | some d => match itemsD d with
      | some xs => match L e1 with
        | some (ds, e3) => some (xs ++ ds, e3)
        | none => none
      | none => none
    | none => none
  | none => none := by
  unfold fStar
  simp only [Option.bind_eq_bind]
  rcases (Fa e) with _ | ⟨t, e1⟩
  · rfl
  simp only [Option.bind_some]
  rcases (rd t e1) with _ | d
  · rfl
  simp only [Option.bind_some]
  rcases (itemsD d) with _ | xs
  · rfl
  simp only [Option.bind_some]
  rcases (L e1) with _ | ⟨ds, e3⟩
  · rfl
  rfl
@[simp] theorem r_fTup : fTup L e = match L e with
  | some (ds, e1) => if ds.length ≤ sizeLine then some (.sh (.tup ds), e1) else none
  | none => none := by
  unfold fTup
  simp only [Option.bind_eq_bind]
  rcases (L e) with _ | ⟨ds, e1⟩
  · rfl
  rfl
@[simp] theorem r_fLst : fLst L e = match L e with
  | some (ds, e1) => if ds.length ≤ sizeLine then some (.ow (.lst ds), e1) else none
  | none => none := by
  unfold fLst
  simp only [Option.bind_eq_bind]
  rcases (L e) with _ | ⟨ds, e1⟩
  · rfl
  rfl
@[simp] theorem r_aCons : aCons Fa R e = match Fa e with
  | some (t, e1) => match toAr t e1 with
    | some (a, e2) => match R e2 with
      | some (as, e3) => some (a :: as, e3)
      | none => none
    | none => none
  | none => none := by
  unfold aCons
  simp only [Option.bind_eq_bind]
  rcases (Fa e) with _ | ⟨t, e1⟩
  · rfl
  simp only [Option.bind_some]
  rcases (toAr t e1) with _ | ⟨a, e2⟩
  · rfl
  simp only [Option.bind_some]
  rcases (R e2) with _ | ⟨as, e3⟩
  · rfl
  rfl
@[simp] theorem r_fCall : fCall G R e = match R e with
  | some (as, e1) => match argDs e1 as with
    | some xs => if (locs as).Nodup then (match G xs with
      | some (r, os) => some (resT r, back as os e1)
      | none => none) else none
    | none => none
  | none => none := by
  unfold fCall
  simp only [Option.bind_eq_bind]
  rcases (R e) with _ | ⟨as, e1⟩
  · rfl
  simp only [Option.bind_some]
  rcases (argDs e1 as) with _ | xs
  · rfl
  simp only [Option.bind_some]
  by_cases hif : (locs as).Nodup
  case neg => simp only [if_neg hif]
  simp only [if_pos hif]
  rcases (G xs) with _ | ⟨r, os⟩
  · rfl
  rfl
@[simp] theorem r_fCallK {n : Nat} {ix : List Nat} : fCallK n ix G R e = match R e with
  | some (as0, e1) => if as0.length = n ∧ ix.all (fun i => decide (i < as0.length)) = true then (match argDs e1 (permL ix as0 (.sh .non)) with
    | some xs => if (locs (permL ix as0 (.sh .non))).Nodup then (match G xs with
      | some (r, os) => some (resT r, back (permL ix as0 (.sh .non)) os e1)
      | none => none) else none
    | none => none) else none
  | none => none := by
  unfold fCallK
  simp only [Option.bind_eq_bind]
  rcases (R e) with _ | ⟨as0, e1⟩
  · rfl
  simp only [Option.bind_some]
  by_cases hif : as0.length = n ∧ ix.all (fun i => decide (i < as0.length)) = true
  case neg => simp only [if_neg hif]
  simp only [if_pos hif]
  rcases (argDs e1 (permL ix as0 (.sh .non))) with _ | xs
  · rfl
  simp only [Option.bind_some]
  by_cases hif : (locs (permL ix as0 (.sh .non))).Nodup
  case neg => simp only [if_neg hif]
  simp only [if_pos hif]
  rcases (G xs) with _ | ⟨r, os⟩
  · rfl
  rfl
@[simp] theorem r_tsCons : tsCons Fa U e = match Fa e with
  | some (t, e1) => match noLoc t e1 with
    | some (t', e2) => match U e2 with
      | some (ts, e3) => some (t' :: ts, e3)
      | none => none
    | none => none
  | none => none := by
  unfold tsCons
  simp only [Option.bind_eq_bind]
  rcases (Fa e) with _ | ⟨t, e1⟩
  · rfl
  simp only [Option.bind_some]
  rcases (noLoc t e1) with _ | ⟨tt, e2⟩
  · rfl
  simp only [Option.bind_some]
  rcases (U e2) with _ | ⟨ts, e3⟩
  · rfl
  rfl
@[simp] theorem r_fMeth {Ty : String} {m : MD} : fMeth Ty m Fa L e = match Fa e with
  | some (.loc i, e1) => match ownD e1 i with
    | some x0 => if tyD Ty x0 = true then (match L e1 with
      | some (ds, e2) => match ownD e2 i with
        | some x => match m x ds with
          | some (ans, x') => some (.sh ans, setD e2 i x')
          | none => none
        | none => none
      | none => none) else none
    | none => none
  | _ => none := by
  unfold fMeth
  simp only [Option.bind_eq_bind]
  rcases (Fa e) with _ | ⟨t, e1⟩
  · rfl
  cases t with
  | sh d => rfl
  | ow d => rfl
  | loc i =>
    simp only [Option.bind_some]
    rcases (ownD e1 i) with _ | x0
    · rfl
    simp only [Option.bind_some]
    by_cases hif : tyD Ty x0 = true
    case neg => simp only [if_neg hif]
    simp only [if_pos hif]
    rcases (L e1) with _ | ⟨ds, e2⟩
    · rfl
    simp only [Option.bind_some]
    rcases (ownD e2 i) with _ | x
    · rfl
    simp only [Option.bind_some]
    rcases (m x ds) with _ | ⟨ans, x'⟩
    · rfl
    rfl
@[simp] theorem r_fRead {Ty : String} {m : RD} : fRead Ty m Fa L e = match Fa e with
  | some (t, e1) => match rd t e1 with
    | some x0 => if tyR Ty x0 = true then (match L e1 with
      | some (ds, e2) => match rd t e2 with
        | some x => match m x ds with
          | some r => some (r, e2)
          | none => none
        | none => none
      | none => none) else none
    | none => none
  | none => none := by
  unfold fRead
  simp only [Option.bind_eq_bind]
  rcases (Fa e) with _ | ⟨t, e1⟩
  · rfl
  simp only [Option.bind_some]
  rcases (rd t e1) with _ | x0
  · rfl
  simp only [Option.bind_some]
  by_cases hif : tyR Ty x0 = true
  case neg => simp only [if_neg hif]
  simp only [if_pos hif]
  rcases (L e1) with _ | ⟨ds, e2⟩
  · rfl
  simp only [Option.bind_some]
  rcases (rd t e2) with _ | x
  · rfl
  simp only [Option.bind_some]
  rcases (m x ds) with _ | r
  · rfl
  rfl
@[simp] theorem r_qCons : qCons Fa Q e = match Fa e with
  | some (t, e1) => match Q e1 with
    | some (ts, e3) => some (t :: ts, e3)
    | none => none
  | none => none := by
  unfold qCons
  simp only [Option.bind_eq_bind]
  rcases (Fa e) with _ | ⟨t, e1⟩
  · rfl
  simp only [Option.bind_some]
  rcases (Q e1) with _ | ⟨ts, e3⟩
  · rfl
  rfl
@[simp] theorem r_fBlt {m : BD} : fBlt m Q e = match Q e with
  | some (ts, e1) => match rds e1 ts with
    | some ds => match m ds with
      | some t => some (t, e1)
      | none => none
    | none => none
  | none => none := by
  unfold fBlt
  simp only [Option.bind_eq_bind]
  rcases (Q e) with _ | ⟨ts, e1⟩
  · rfl
  simp only [Option.bind_some]
  rcases (rds e1 ts) with _ | ds
  · rfl
  simp only [Option.bind_some]
  rcases (m ds) with _ | t
  · rfl
  rfl
@[simp] theorem r_fIsi {Ty : String} : fIsi Ty Fa e = match Fa e with
  | some (t, e1) => match rd t e1 with
    | some d => match isiD Ty d with
      | some b => some (.sh (.bl b), e1)
      | none => none
    | none => none
  | none => none := by
  unfold fIsi
  simp only [Option.bind_eq_bind]
  rcases (Fa e) with _ | ⟨t, e1⟩
  · rfl
  simp only [Option.bind_some]
  rcases (rd t e1) with _ | d
  · rfl
  simp only [Option.bind_some]
  rcases (isiD Ty d) with _ | b
  · rfl
  rfl
@[simp] theorem r_fLrg1 : fLrg1 Fa e = match Fa e with
  | some (t, e1) => match rd t e1 with
    | some (.int n) => if smallI n = true ∧ n.toNat ≤ 2 ^ 24 then some (.ow (.lst (rangeD 0 n.toNat)), e1) else none
    | _ => none
  | none => none := by
  unfold fLrg1
  simp only [Option.bind_eq_bind]
  rcases (Fa e) with _ | ⟨t, e1⟩
  · rfl
  simp only [Option.bind_some]
  rcases (rd t e1) with _ | d
  · rfl
  simp only [Option.bind_some]
  cases d <;> rfl
@[simp] theorem r_fNeg : fNeg Fa e = match Fa e with
  | some (t, e1) => match rd t e1 with
    | some (.int i) => some (.sh (.int (-i)), e1)
    | _ => none
  | none => none := by
  unfold fNeg
  simp only [Option.bind_eq_bind]
  rcases (Fa e) with _ | ⟨t, e1⟩
  · rfl
  simp only [Option.bind_some]
  rcases (rd t e1) with _ | d
  · rfl
  simp only [Option.bind_some]
  cases d <;> rfl
@[simp] theorem r_fDictT1 : fDictT1 Fa Fb e = match Fa e with
  | some (tk, e1) => match toSh tk e1 with
    | some (dk, e2) => match Fb e2 with
      | some (tv, e3) => match toSh tv e3 with
        | some (dv, e4) => match dk with
          | .tup ks => match keysOf ks with
            | some k => some (.ow (.dT [k] [dv]), e4)
            | none => none
          | _ => none
        | none => none
      | none => none
    | none => none
  | none => none := by
  unfold fDictT1
  simp only [Option.bind_eq_bind]
  rcases (Fa e) with _ | ⟨tk, e1⟩
  · rfl
  simp only [Option.bind_some]
  rcases (toSh tk e1) with _ | ⟨dk, e2⟩
  · rfl
  simp only [Option.bind_some]
  rcases (Fb e2) with _ | ⟨tv, e3⟩
  · rfl
  simp only [Option.bind_some]
  rcases (toSh tv e3) with _ | ⟨dv, e4⟩
  · rfl
  simp only [Option.bind_some]
  cases dk with
  | tup ks => cases h : keysOf ks <;> simp [h]
  | _ => rfl
@[simp] theorem r_sPut : sPut Fa Fb Fc e = match Fa e with
  | some (t, e1) => match toSh t e1 with
    | some (d, e2) => match Fb e2 with
      | some (o, e3) => match Fc e3 with
        | some (ti, e4) => match rd ti e4 with
          | some key => match o with
            | .loc i => match ownD e4 i with
              | some x => match putDat x key d with
                | some x' => some (.nx (setD e4 i x'))
                | none => none
              | none => none
            | _ => none
          | none => none
        | none => none
      | none => none
    | none => none
  | none => none := by
  unfold sPut
  simp only [Option.bind_eq_bind]
  rcases (Fa e) with _ | ⟨t, e1⟩
  · rfl
  simp only [Option.bind_some]
  rcases (toSh t e1) with _ | ⟨d, e2⟩
  · rfl
  simp only [Option.bind_some]
  rcases (Fb e2) with _ | ⟨o, e3⟩
  · rfl
  simp only [Option.bind_some]
  rcases (Fc e3) with _ | ⟨ti, e4⟩
  · rfl
  simp only [Option.bind_some]
  rcases (rd ti e4) with _ | key
  · rfl
  simp only [Option.bind_some]
  cases o with
  | loc i => cases h : ownD e4 i with
    | none => simp [h]
    | some x => simp only [h, Option.bind_some]; cases putDat x key d <;> rfl
  | _ => rfl
@[simp] theorem r_fIter : fIter Fa e = match Fa e with
  | some (t, e1) => match toSh t e1 with
    | some (d, e2) => match seqD d with
      | some ds => some (ds, e2)
      | none => none
    | none => none
  | none => none := by
  unfold fIter
  simp only [Option.bind_eq_bind]
  rcases (Fa e) with _ | ⟨t, e1⟩
  · rfl
  simp only [Option.bind_some]
  rcases (toSh t e1) with _ | ⟨d, e2⟩
  · rfl
  simp only [Option.bind_some]
  rcases (seqD d) with _ | ds
  · rfl
  rfl
@[simp] theorem r_endDef {np : Nat} {as : List (Bool × D)} {t : T} : endDef np as t e = match retD t e with
  | some (r, e1) => match outsD np as e1 with
    | some os => some (r, os)
    | none => none
  | none => none := by
  unfold endDef
  simp only [Option.bind_eq_bind]
  rcases (retD t e) with _ | ⟨r, e1⟩
  · rfl
  simp only [Option.bind_some]
  rcases (outsD np as e1) with _ | os
  · rfl
  rfl
end
@[simp] theorem r_rds0 {e : DEnv} : rds e [] = some [] := rfl
@[simp] theorem r_rds1 {e : DEnv} {t : T} {ts : List T} : rds e (t :: ts) = match rd t e with
  | some d => match rds e ts with
    | some ds => some (d :: ds)
    | none => none
  | none => none := by
  rw [rds]
  cases rd t e with
  | none => rfl
  | some d => cases rds e ts <;> rfl
@[simp] theorem r_argDs0 {e : DEnv} : argDs e [] = some [] := rfl
@[simp] theorem r_argDs1 {e : DEnv} {t : Ar} {ts : List Ar} : argDs e (t :: ts) = match argD e t with
  | some d => match argDs e ts with
    | some ds => some (d :: ds)
    | none => none
  | none => none := by
  rw [argDs]
  cases argD e t with
  | none => rfl
  | some d => cases argDs e ts <;> rfl
/-- what comes back, place by place -/
def outsR : List (Bool × D) → DEnv → Option (List (Bool × D))
  | [], _ => some []
  | (true, _) :: as, some s :: e => if s.lent = true then (match outsR as e with
    | some os => some ((s.own, s.d) :: os)
    | none => none) else none
  | (false, _) :: as, _ :: e => match outsR as e with
    | some os => some ((false, .non) :: os)
    | none => none
  | _, _ => none
theorem mapM_succ {β : Type} (f : Nat → Option β) (n : Nat) : (List.range (n + 1)).mapM f = match f 0 with
    | some b => match (List.range n).mapM (fun j => f (j + 1)) with
      | some bs => some (b :: bs)
      | none => none
    | none => none := by
  rw [List.range_succ_eq_map, List.mapM_cons, List.mapM_map]
  simp only [Option.bind_eq_bind]
  rcases f 0 with _ | b
  · rfl
  simp only [Option.bind_some]
  show (List.mapM (fun j => f (j + 1)) (List.range n)).bind _ = _
  rcases (List.mapM (fun j => f (j + 1)) (List.range n)) with _ | bs
  · rfl
  · rfl
theorem outs_eq : ∀ {as : List (Bool × D)} {e : DEnv} {np : Nat}, as.length = np → np ≤ e.length → outsD np as e = outsR as e
  | [], e, np, h, _ => by subst h; rfl
  | a :: as, [], np, h, h2 => by subst h; simp at h2
  | a :: as, s :: e, np, h, h2 => by
    subst h
    have ih := outs_eq (as := as) (e := e) rfl (by simpa using h2)
    unfold outsD at ih ⊢
    rw [List.length_cons, mapM_succ]
    simp only [List.getElem?_cons_zero, List.getElem?_cons_succ]
    rw [ih]
    obtain ⟨a1, a2⟩ := a
    cases a1 with
    | false =>
      rw [outsR]
      rcases (outsR as e) with _ | os <;> rfl
    | true =>
      cases s with
      | none => rfl
      | some s =>
        dsimp only
        rw [outsR]
        rcases (outsR as e) with _ | os <;> cases s.lent <;> rfl
@[simp] theorem kb1 : kitB "tuple" "tuple" = some true := by decide +kernel
@[simp] theorem kb2 : kitB "str" "str" = some true := by decide +kernel
@[simp] theorem kb3 : kitB "str" "tuple" = some false := by decide +kernel
@[simp] theorem kb4 : kitB "tuple" "str" = some false := by decide +kernel
section
variable {F : FE} {A : FB} {S1 S2 : FS} {e : DEnv} {i : Nat} {d : D} {U : FTs} {is : List Nat} {gg : GD} {g : GD} {h : GDs} {ds : List D} {I : FI} {L : FL}
@[simp] theorem r_fVar : fVar i e = match e[i]? with
  | some (some s) => some (if s.own = true then .loc i else .sh s.d, e)
  | _ => none := rfl
@[simp] theorem r_fC : fC d e = some (.sh d, e) := rfl
@[simp] theorem r_sNil : sNil e = some (.nx e) := rfl
@[simp] theorem r_sSeq : sSeq S1 S2 e = match S1 e with
  | some (.nx e1) => S2 e1
  | o => o := rfl
@[simp] theorem r_sRet : sRet F e = match F e with
  | some (t, e1) => some (.rt t e1)
  | none => none := rfl
@[simp] theorem r_sRetN : sRetN e = some (.rt (.sh .non) e) := rfl
@[simp] theorem r_sExpr : sExpr F e = match F e with
  | some (_, e1) => some (.nx e1)
  | none => none := rfl
@[simp] theorem r_sIf : sIf A S1 S2 e = match A e with
  | some (c, e1) => if c = true then S1 e1 else S2 e1
  | none => none := rfl
@[simp] theorem r_sSet : sSet i F e = match F e with
  | some (t, e1) => match stT i t e1 with
    | some e2 => some (.nx e2)
    | none => none
  | none => none := rfl
@[simp] theorem r_sPar : sPar is U e = match U e with
  | some (ts, e1) => match stAll is ts e1 with
    | some e2 => some (.nx e2)
    | none => none
  | none => none := rfl
@[simp] theorem r_sAsg : sAsg F gg e = match F e with
  | some (t, e1) => match toSh t e1 with
    | some (d, e2) => match gg d e2 with
      | some e3 => some (.nx e3)
      | none => none
    | none => none
  | none => none := rfl
@[simp] theorem r_fNil : fNil e = some ([], e) := rfl
@[simp] theorem r_aNil : aNil e = some ([], e) := rfl
@[simp] theorem r_qNil : qNil e = some ([], e) := rfl
@[simp] theorem r_tsNil : tsNil e = some ([], e) := rfl
@[simp] theorem r_fYes : fYes e = some (true, e) := rfl
@[simp] theorem r_fNoPart : fNoPart e = some (none, e) := rfl
@[simp] theorem r_fNewT : fNewT e = some (.ow (.dT [] []), e) := rfl
@[simp] theorem r_fNewK : fNewK e = some (.ow (.dK [] []), e) := rfl
@[simp] theorem r_gN : gN i d e = stT i (.sh d) e := rfl
@[simp] theorem r_gsNil : gsNil [] e = some e := rfl
@[simp] theorem r_gsCons : gsCons g h (d :: ds) e = match g d e with
  | some e1 => h ds e1
  | none => none := rfl
@[simp] theorem r_gTupD {n : Nat} : gTupD n h (.tup ds) e = if ds.length = n then h ds e else none := rfl
@[simp] theorem r_stT {t : T} : stT i t e = match e[i]? with
  | none => none
  | some (some ⟨true, _, _⟩) => none
  | _ => stT1 i t e := rfl
@[simp] theorem r_stT1o : stT1 i (.ow d) e = some (e.set i (some ⟨false, true, d⟩)) := rfl
@[simp] theorem r_stT1s : stT1 i (.sh d) e = some (e.set i (some ⟨false, false, d⟩)) := rfl
@[simp] theorem r_stT1l {j : Nat} : stT1 i (.loc j) e = match toSh (.loc j) e with
    | some (d, e') => some (e'.set i (some ⟨false, false, d⟩))
    | none => none := rfl
@[simp] theorem r_toShs : toSh (.sh d) e = some (d, e) := rfl
@[simp] theorem r_toSho : toSh (.ow d) e = some (d, e) := rfl
@[simp] theorem r_toShl {j : Nat} : toSh (.loc j) e = match e[j]? with
    | some (some s) => some (s.d, e.set j (some { s with own := false }))
    | _ => none := rfl
@[simp] theorem r_rds : rd (.sh d) e = some d := rfl
@[simp] theorem r_rdo : rd (.ow d) e = some d := rfl
@[simp] theorem r_rdl {j : Nat} : rd (.loc j) e = match e[j]? with
    | some (some s) => some s.d
    | _ => none := rfl
@[simp] theorem r_toArs : toAr (.sh d) e = some (.sh d, e) := rfl
@[simp] theorem r_toAro : toAr (.ow d) e = some (.sh d, e) := rfl
@[simp] theorem r_toArl {j : Nat} : toAr (.loc j) e = some (.loc j, e) := rfl
@[simp] theorem r_argDs : argD e (.sh d) = some (false, d) := rfl
@[simp] theorem r_argDl {j : Nat} : argD e (.loc j) = match e[j]? with
    | some (some s) => some (s.own, s.d)
    | _ => none := rfl
@[simp] theorem r_locs0 : locs [] = [] := rfl
@[simp] theorem r_locsl {as : List Ar} : locs (.loc i :: as) = i :: locs as := rfl
@[simp] theorem r_locss {as : List Ar} : locs (.sh d :: as) = locs as := rfl
@[simp] theorem r_back0 {os : List (Bool × D)} : back [] os e = e := by cases os <;> rfl
@[simp] theorem r_backs {as : List Ar} {o : Bool × D} {os : List (Bool × D)} : back (.sh d :: as) (o :: os) e = back as os e := rfl
@[simp] theorem r_backl {as : List Ar} {o : Bool × D} {os : List (Bool × D)} : back (.loc i :: as) (o :: os) e = back as os (match e[i]? with
    | some (some s) => if s.own = true then e.set i (some { s with own := o.1, d := o.2 }) else e
    | _ => e) := rfl
@[simp] theorem r_resT0 : resT (false, d) = .sh d := rfl
@[simp] theorem r_resT1 : resT (true, d) = .ow d := rfl
@[simp] theorem r_noLocs : noLoc (.sh d) e = some (.sh d, e) := rfl
@[simp] theorem r_noLoco : noLoc (.ow d) e = some (.ow d, e) := rfl
@[simp] theorem r_noLocl {j : Nat} : noLoc (.loc j) e = match toSh (.loc j) e with
    | some (d, e') => some (.sh d, e')
    | none => none := rfl
@[simp] theorem r_stAll0 : stAll [] [] e = some e := rfl
@[simp] theorem r_stAll1 {t : T} {ts : List T} : stAll (i :: is) (t :: ts) e = match stT i t e with
    | some e1 => stAll is ts e1
    | none => none := rfl
@[simp] theorem r_ownD : ownD e i = match e[i]? with
  | some (some s) => if s.own = true then some s.d else none
  | _ => none := rfl
@[simp] theorem r_setD : setD e i d = match e[i]? with
  | some (some s) => e.set i (some { s with d := d })
  | _ => e := rfl
@[simp] theorem r_retDs : retD (.sh d) e = some ((false, d), e) := rfl
@[simp] theorem r_retDo : retD (.ow d) e = some ((true, d), e) := rfl
@[simp] theorem r_retDl : retD (.loc i) e = match e[i]? with
    | some (some s) => if s.own = true ∧ s.lent = false then some ((true, s.d), e) else if s.own = false then some ((false, s.d), e) else none
    | _ => none := rfl
@[simp] theorem r_sFor {S : FS} : sFor I g S e = match I e with
  | some (ds, e1) => loopF g S ds e1
  | none => none := rfl
@[simp] theorem r_fWalk {r : List D → Option (List D)} : fWalk r L e = match L e with
  | some (ds, e1) => match r ds with
    | some xs => some (xs, e1)
    | none => none
  | none => none := rfl
@[simp] theorem r_fLc {vs : List Nat} : fLc I vs g A F e = match I e with
  | some (ds, e1) => match lcF vs g A F ds [] (wipeE e1 vs) with
    | some (acc, e2) => some (.ow (.lst acc), unwipe e1 e2 vs)
    | none => none
  | none => none := rfl
@[simp] theorem r_runDef {np n : Nat} {S : FS} {as : List (Bool × D)} : runDef np n S as = if as.length = np then match S (argSlots as ++ List.replicate (n - np) none) with
  | some (.rt t e) => endDef np as t e
  | some (.nx e) => endDef np as (.sh .non) e
  | _ => none
  else none := rfl
end
@[simp] theorem r_isiD {Ty : String} {d : D} : isiD Ty d = match tyN d with
  | some n => kitB n Ty
  | none => none := by
  unfold isiD
  cases tyN d <;> rfl
section
variable {i j : Int} {x y d : D} {z : Str} {ds es : List D} {ns : List Int} {n : Nat} {e : DEnv} {vs : List Nat} {v : Nat} {c c' : Bool} {t : T}
@[simp] theorem t_non : tyN .non = some "NoneType" := rfl
@[simp] theorem t_bl : tyN (.bl c) = some "bool" := rfl
@[simp] theorem t_int : tyN (.int i) = some "int" := rfl
@[simp] theorem t_str : tyN (.str z) = some "str" := rfl
@[simp] theorem t_lst : tyN (.lst ds) = some "list" := rfl
@[simp] theorem t_tup : tyN (.tup ds) = some "tuple" := rfl
@[simp] theorem l_str : lenD [.str z] = if z.length ≤ sizeLine then some (.sh (.int (z.length : Nat))) else none := rfl
@[simp] theorem l_lst : lenD [.lst ds] = some (.sh (.int (ds.length : Nat))) := rfl
@[simp] theorem l_tup : lenD [.tup ds] = some (.sh (.int (ds.length : Nat))) := rfl
@[simp] theorem l_scr : lenD [.scr ns] = some (.sh (.int (ns.length : Nat))) := rfl
@[simp] theorem a_int : absD [.int i] = some (.sh (.int (if i < 0 then -i else i))) := rfl
@[simp] theorem i_int : intD [.int i] = some (.sh (.int i)) := rfl
@[simp] theorem i_bl : intD [.bl c] = some (.sh (.int (if c = true then 1 else 0))) := rfl
@[simp] theorem o_add : addD (.int i) (.int j) = some (.sh (.int (i + j))) := rfl
@[simp] theorem o_addL : addD (.lst ds) (.lst es) = if ds.length + es.length ≤ sizeLine then some (.ow (.lst (ds ++ es))) else none := rfl
@[simp] theorem o_addT : addD (.tup ds) (.tup es) = if ds.length + es.length ≤ sizeLine then some (.sh (.tup (ds ++ es))) else none := rfl
@[simp] theorem o_sub : subD (.int i) (.int j) = some (.sh (.int (i - j))) := rfl
@[simp] theorem o_mod : modD (.int i) (.int j) = if 0 < j then some (.sh (.int (i % j))) else none := rfl
@[simp] theorem o_fdiv : fdivD (.int i) (.int j) = if 0 < j ∧ j.natAbs.log2 < 9000 then some (.sh (.int (i / j))) else none := rfl
@[simp] theorem o_mul : mulF (.int i) (.int j) = if i.natAbs.log2 + j.natAbs.log2 < 1000000 then some (.sh (.int (i * j))) else none := rfl
@[simp] theorem o_mulL : mulF (.lst ds) (.int j) = if 0 ≤ j ∧ j ≤ 16777216 ∧ ds.length * j.toNat ≤ sizeLine then some (.ow (.lst (List.replicate j.toNat ds).flatten)) else none := rfl
@[simp] theorem o_mulS : mulF (.str z) (.int j) = if 2 ≤ j ∧ 0 < z.length ∧ z.length * j.toNat ≤ 16777216 then some (.sh (.str (repS z j.toNat))) else none := rfl
@[simp] theorem o_pow : powD (.int i) (.int j) = if 0 ≤ j ∧ (Builtin.Int.intBits i : Int) * j ≤ 2 ^ 27 then some (.sh (.int (i ^ j.toNat))) else none := rfl
@[simp] theorem x_lst : ixD (.lst ds) (.int i) = (atI ds i).map .sh := rfl
@[simp] theorem x_tup : ixD (.tup ds) (.int i) = (atI ds i).map .sh := rfl
@[simp] theorem x_scr : ixD (.scr ns) (.int i) = (atI ns i).map fun n => .sh (.int n) := rfl
@[simp] theorem x_str : ixD (.str z) (.int i) = if z.length ≤ sizeLine then (atI z.cps.toList i).map fun c => .sh (.str ⟨#[c]⟩) else none := rfl
@[simp] theorem s_lst : seqD (.lst ds) = some ds := rfl
@[simp] theorem s_tup : seqD (.tup ds) = some ds := rfl
@[simp] theorem s_str : seqD (.str z) = some (signsD z) := rfl
@[simp] theorem it_lst : itemsD (.lst ds) = some ds := rfl
@[simp] theorem it_tup : itemsD (.tup ds) = some ds := rfl
@[simp] theorem tu_lst : tupleD [.lst ds] = some (.sh (.tup ds)) := rfl
@[simp] theorem tu_tup : tupleD [.tup ds] = some (.sh (.tup ds)) := rfl
@[simp] theorem e_int : eqF (.int i) (.int j) = some (.sh (.bl (decide (i = j)))) := by
  simp [eqF, eqv, isScal, toV, scal]
@[simp] theorem e_intN : neF (.int i) (.int j) = some (.sh (.bl (decide (i ≠ j)))) := by
  simp [neF, eqv, isScal, toV, scal]
  try (by_cases h : i = j <;> simp [h])
@[simp] theorem e_str {z z' : Str} : eqF (.str z) (.str z') = some (.sh (.bl (decide (z = z')))) := by
  simp [eqF, eqv, isScal, toV, scal]
@[simp] theorem e_strN {z z' : Str} : neF (.str z) (.str z') = some (.sh (.bl (decide (z ≠ z')))) := by
  simp [neF, eqv, isScal, toV, scal]
  try (by_cases h : z = z' <;> simp [h])
@[simp] theorem e_bl : eqF (.bl c) (.bl c') = some (.sh (.bl (decide (c = c')))) := by
  simp [eqF, eqv, isScal, toV, scal]
@[simp] theorem e_blN : neF (.bl c) (.bl c') = some (.sh (.bl (decide (c ≠ c')))) := by
  simp [neF, eqv, isScal, toV, scal]
  try (cases c <;> cases c' <;> simp)
@[simp] theorem lt1 : ltF false false (.int i) (.int j) = some (.sh (.bl (decide (i < j)))) := by simp [ltF, ltv]
@[simp] theorem lt2 : ltF false true (.int i) (.int j) = some (.sh (.bl (decide (j < i)))) := by simp [ltF, ltv]
@[simp] theorem lt3 : ltF true true (.int i) (.int j) = some (.sh (.bl (decide (i ≤ j)))) := by
  simp [ltF, ltv]
  try (by_cases h : i ≤ j <;> simp [h] <;> omega)
@[simp] theorem lt4 : ltF true false (.int i) (.int j) = some (.sh (.bl (decide (j ≤ i)))) := by
  simp [ltF, ltv]
  try (by_cases h : j ≤ i <;> simp [h] <;> omega)
@[simp] theorem p_lst : putDat (.lst ds) (.int i) d = (ixN ds.length i).map fun j => .lst (ds.set j d) := rfl
@[simp] theorem m_app : mAppend (.lst ds) [d] = if ds.length < sizeLine then some (.non, .lst (ds ++ [d])) else none := rfl
@[simp] theorem m_ext : mExtend (.lst ds) [.lst es] = if ds.length + es.length ≤ sizeLine then some (.non, .lst (ds ++ es)) else none := rfl
@[simp] theorem m_pop : mPop (.lst ds) [] = (ds[ds.length - 1]?).map fun d => (d, .lst ds.dropLast) := rfl
@[simp] theorem tyD_l : tyD "list" (.lst ds) = true := rfl
@[simp] theorem tyR_s : tyR "str" (.str z) = true := rfl
@[simp] theorem w_0 : wipeE e [] = e := rfl
@[simp] theorem w_1 : wipeE e (v :: vs) = (wipeE e vs).set v none := rfl
@[simp] theorem u_0 {e' : DEnv} : unwipe e e' [] = e' := rfl
@[simp] theorem u_1 {e' : DEnv} : unwipe e e' (v :: vs) = (unwipe e e' vs).set v (keepS e v) := rfl
@[simp] theorem k_S : keepS e v = match e[v]? with
  | some (some s) => if s.own = true then none else some s
  | _ => none := rfl
@[simp] theorem g_1 : rng1 [.int j] = if smallI j = true then some (rangeD 0 j.toNat) else none := rfl
@[simp] theorem g_2 : rng2 [.int i, .int j] = if smallI i = true ∧ smallI j = true then some (rangeD i (j - i).toNat) else none := rfl
@[simp] theorem g_3 {k : Int} : rng3 [.int i, .int j, .int k] = if smallI i = true ∧ smallI j = true ∧ k = -1 then some (rangeC i (-1) (i - j).toNat) else none := rfl
@[simp] theorem or_0 : outsR [] e = some [] := rfl
@[simp] theorem or_t {as : List (Bool × D)} {s : Slot} : outsR ((true, d) :: as) (some s :: e) = if s.lent = true then (match outsR as e with
    | some os => some ((s.own, s.d) :: os)
    | none => none) else none := rfl
@[simp] theorem or_f {as : List (Bool × D)} {s : Option Slot} : outsR ((false, d) :: as) (s :: e) = match outsR as e with
    | some os => some ((false, .non) :: os)
    | none => none := by rw [outsR]
@[simp] theorem arg_0 : argSlots [] = [] := rfl
@[simp] theorem arg_1 {a : Bool × D} {as : List (Bool × D)} : argSlots (a :: as) = some ⟨a.1, a.1, a.2⟩ :: argSlots as := rfl
@[simp] theorem small_i : smallI i = decide (-(2 ^ 62) ≤ i ∧ i < 2 ^ 62) := rfl
end
theorem atI_n {α : Type} {xs : List α} {n : Nat} {x : α} (h : xs[n]? = some x) : atI xs (n : Int) = some x := by
  have hl := (List.getElem?_eq_some_iff.mp h).1
  unfold atI ixN
  rw [if_pos (by omega), if_pos (by omega)]
  simpa using h
theorem x1 (ds : List D) (n : Int) : G_is_tuple_of [(false, .tup ds), (false, .int n)] = some ((false, .bl (decide ((ds.length : Int) = n))), [(false, .non), (false, .non)]) := by
  simp [G_is_tuple_of, S_is_tuple_of, outs_eq]
end DD

namespace DD
open PySem PySem.Spec PyProof.Rows L2
/-! ### the tank a law draws from -/
def potD (o m c : Int) : D := .lst [.int o, .int m, .int c]
def Pot (n : Nat) (d : D) : Prop := ∃ o m c : Int, d = potD o m c ∧ 0 ≤ o ∧ 0 ≤ m ∧ m < 2305843009213693921 ∧ 0 ≤ c ∧ c ≤ n
theorem Pot.mono {n k : Nat} {d : D} (h : Pot n d) (l : n ≤ k) : Pot k d := by
  obtain ⟨o, m, c, e, h1, h2, h3, h4, h5⟩ := h
  exact ⟨o, m, c, e, h1, h2, h3, h4, by omega⟩
theorem log2_lt {i : Int} {k : Nat} (h : i.natAbs < 2 ^ k) (hk : 0 < k) : i.natAbs.log2 < k := by
  by_cases h0 : i.natAbs = 0
  · rw [h0]; simpa using hk
  · exact (Nat.log2_lt h0).mpr h
theorem sz : sizeLine = 16777216 := sizeLine_eq
@[simp] theorem at_0 {α : Type} {x : α} {xs : List α} : atI (x :: xs) 0 = some x := by
  unfold atI ixN
  simp
@[simp] theorem at_1 {α : Type} {x y : α} {xs : List α} : atI (x :: y :: xs) 1 = some y := by
  unfold atI ixN
  have : (1 : Int) < (xs.length : Int) + 1 + 1 := by omega
  simp [this]
@[simp] theorem at_2 {α : Type} {x y z : α} {xs : List α} : atI (x :: y :: z :: xs) 2 = some z := by
  unfold atI ixN
  have : (2 : Int) < (xs.length : Int) + 1 + 1 + 1 := by omega
  simp [this]
theorem take_pos {o m c u : Int} (ho : 0 < o) (hu : 0 < u) (hu2 : u < 1000000) : G__law_take [(true, potD o m c), (false, .int u)] = some ((false, .int (o % u)), [(true, potD (o / u) m c), (false, .non)]) := by
  have h1 : u.natAbs.log2 < 9000 := Nat.lt_of_lt_of_le (log2_lt (k := 20) (by omega) (by omega)) (by omega)
  simp [G__law_take, S__law_take, potD, outs_eq, ixN, ho, hu, h1]
theorem log2_int {i : Int} {k : Nat} (h0 : 0 ≤ i) (h : i < 2 ^ k) (hk : 0 < k) : i.natAbs.log2 < k := log2_lt (by
  have : (i.natAbs : Int) < ((2 ^ k : Nat) : Int) := by
    rw [Int.natAbs_of_nonneg h0]; exact_mod_cast h
  exact_mod_cast this) hk
theorem bits_int {i : Int} {k : Nat} (h0 : 0 ≤ i) (h : i < 2 ^ k) : Builtin.Int.intBits i ≤ k := by
  unfold Builtin.Int.intBits
  by_cases hz : i = 0
  · subst hz; simp
  · by_cases hk : k = 0
    · subst hk; simp at h; omega
    · have := log2_int h0 h (by omega)
      rw [if_neg (by simpa using hz)]
      omega
theorem primes4 {n : Int} (h0 : 0 ≤ n) (h : n < 4) : ∃ p : Int, atI [D.int 2147483647, .int 2147483629, .int 2147483587, .int 2147483579] n = some (.int p) ∧ 0 < p ∧ p < 2147483648 := by
  have : n = 0 ∨ n = 1 ∨ n = 2 ∨ n = 3 := by omega
  rcases this with rfl | rfl | rfl | rfl
  · exact ⟨2147483647, rfl, by omega, by omega⟩
  · exact ⟨2147483629, rfl, by omega, by omega⟩
  · exact ⟨2147483587, rfl, by omega, by omega⟩
  · exact ⟨2147483579, rfl, by omega, by omega⟩
theorem take_zero {n : Nat} {m c u : Int} (hm : 0 ≤ m) (hm2 : m < 2305843009213693921) (hc : 0 ≤ c) (hcn : c ≤ n) (hn : n < 1000000) (hu : 0 < u) (hu2 : u < 1000000) :
    ∃ x, G__law_take [(true, potD 0 m c), (false, .int u)] = some ((false, .int (x % u)), [(true, potD 0 m (c + 1)), (false, .non)]) := by
  obtain ⟨p, hp, p0, p1⟩ := primes4 (Int.emod_nonneg (c + 1) (by omega : (4 : Int) ≠ 0)) (Int.emod_lt_of_pos (c + 1) (by omega))
  have c1 : c + 1 ≤ 1000000 := by omega
  have k1 : (194604 : Int).natAbs.log2 + (c + 1).natAbs.log2 < 1000000 := by
    have := log2_int (i := c + 1) (k := 30) (by omega) (by omega) (by omega)
    have := log2_int (i := 194604) (k := 30) (by omega) (by omega) (by omega)
    omega
  have m1 : 0 ≤ 194604 * (c + 1) ∧ 194604 * (c + 1) ≤ 194604 * 1000000 := ⟨by omega, by omega⟩
  have k2 : (194604 * (c + 1)).natAbs.log2 + (c + 1).natAbs.log2 < 1000000 := by
    have := log2_int (i := c + 1) (k := 30) (by omega) (by omega) (by omega)
    have := log2_int (i := 194604 * (c + 1)) (k := 60) (by omega) (by omega) (by omega)
    omega
  have m2 : 0 ≤ 194604 * (c + 1) * (c + 1) ∧ 194604 * (c + 1) * (c + 1) ≤ 194604 * 1000000 * 1000000 := ⟨Int.mul_nonneg (by omega) (by omega), Int.mul_le_mul m1.2 c1 (by omega) (by omega)⟩
  have k3 : (Builtin.Int.intBits (m + 194604 * (c + 1) * (c + 1) + 6688) : Int) * 3 ≤ 134217728 := by
    have : Builtin.Int.intBits (m + 194604 * (c + 1) * (c + 1) + 6688) ≤ 100 := bits_int (by omega) (by omega)
    omega
  have b0 : 0 ≤ (m + 194604 * (c + 1) * (c + 1) + 6688) ^ 3 % p := Int.emod_nonneg _ (by omega)
  have b1 : (m + 194604 * (c + 1) * (c + 1) + 6688) ^ 3 % p < p := Int.emod_lt_of_pos _ p0
  generalize hx : (m + 194604 * (c + 1) * (c + 1) + 6688) ^ 3 % p = x at b0 b1
  have c0 := Int.emod_nonneg x (by omega : (10007 : Int) ≠ 0)
  have c2 := Int.emod_lt_of_pos x (by omega : (0 : Int) < 10007)
  have k4 : (6188 : Int).natAbs.log2 + (c + 1).natAbs.log2 < 1000000 := by
    have := log2_int (i := c + 1) (k := 30) (by omega) (by omega) (by omega)
    have := log2_int (i := 6188) (k := 30) (by omega) (by omega) (by omega)
    omega
  have k5 : x.natAbs.log2 + (x % 10007 + 6188 * (c + 1)).natAbs.log2 < 1000000 := by
    have := log2_int (i := x) (k := 40) (by omega) (by omega) (by omega)
    have := log2_int (i := x % 10007 + 6188 * (c + 1)) (k := 60) (by omega) (by omega) (by omega)
    omega
  have k6 : (307 : Int).natAbs.log2 < 9000 := Nat.lt_of_lt_of_le (log2_int (k := 20) (by omega) (by omega) (by omega)) (by omega)
  have k1 : Nat.log2 194604 + (c + 1).natAbs.log2 < 1000000 := k1
  have k4 : Nat.log2 6188 + (c + 1).natAbs.log2 < 1000000 := k4
  have k6 : Nat.log2 307 < 9000 := k6
  refine ⟨x * (x % 10007 + 6188 * (c + 1)) / 307, ?_⟩
  simp [G__law_take, S__law_take, potD, outs_eq, hu, ixN, hp, k1, k2, k3, k4, k5, k6, hx, p0, sz]

theorem take_ok {n : Nat} {p : D} {u : Int} (h : Pot n p) (hn : n < 1000000) (hu : 0 < u) (hu2 : u < 1000000) :
    ∃ (v : Int) (p' : D), G__law_take [(true, p), (false, .int u)] = some ((false, .int v), [(true, p'), (false, .non)]) ∧ 0 ≤ v ∧ v < u ∧ Pot (n + 1) p' := by
  obtain ⟨o, m, c, rfl, h1, h2, h3, h4, h5⟩ := h
  by_cases ho : 0 < o
  · exact ⟨_, _, take_pos ho hu hu2, Int.emod_nonneg _ (by omega), Int.emod_lt_of_pos _ hu, o / u, m, c, rfl, Int.ediv_nonneg h1 (by omega), h2, h3, h4, by omega⟩
  · have : o = 0 := by omega
    subst this
    obtain ⟨x, hx⟩ := take_zero h2 h3 h4 h5 hn hu hu2
    exact ⟨_, _, hx, Int.emod_nonneg _ (by omega), Int.emod_lt_of_pos _ hu, 0, m, c + 1, rfl, by omega, h2, h3, by omega, by omega⟩
theorem at_lt {α : Type} {xs : List α} {v : Int} (h0 : 0 ≤ v) (h1 : v < xs.length) : ∃ x, atI xs v = some x ∧ x ∈ xs := by
  have hl : v.toNat < xs.length := by omega
  refine ⟨xs[v.toNat], ?_, List.getElem_mem hl⟩
  have := atI_n (xs := xs) (n := v.toNat) (x := xs[v.toNat]) (List.getElem?_eq_getElem hl)
  rwa [Int.toNat_of_nonneg h0] at this
theorem of_lst {n : Nat} {p : D} {ds : List D} (h : Pot n p) (hn : n < 1000000) (h0 : ds ≠ []) (hl : ds.length < 1000000) :
    ∃ (d : D) (p' : D), G__law_of [(true, p), (false, .lst ds)] = some ((false, d), [(true, p'), (false, .non)]) ∧ d ∈ ds ∧ Pot (n + 1) p' := by
  have h0' : 0 < ds.length := List.length_pos_iff.mpr h0
  obtain ⟨v, p', e, h1, h2, h3⟩ := take_ok (u := (ds.length : Nat)) h hn (by omega) (by omega)
  obtain ⟨d, g1, g2⟩ := at_lt h1 h2
  exact ⟨d, p', by simp [G__law_of, S__law_of, outs_eq, e, g1], g2, h3⟩
theorem of_tup {n : Nat} {p : D} {ds : List D} (h : Pot n p) (hn : n < 1000000) (h0 : ds ≠ []) (hl : ds.length < 1000000) :
    ∃ (d : D) (p' : D), G__law_of [(true, p), (false, .tup ds)] = some ((false, d), [(true, p'), (false, .non)]) ∧ d ∈ ds ∧ Pot (n + 1) p' := by
  have h0' : 0 < ds.length := List.length_pos_iff.mpr h0
  obtain ⟨v, p', e, h1, h2, h3⟩ := take_ok (u := (ds.length : Nat)) h hn (by omega) (by omega)
  obtain ⟨d, g1, g2⟩ := at_lt h1 h2
  exact ⟨d, p', by simp [G__law_of, S__law_of, outs_eq, e, g1], g2, h3⟩
theorem of_str {n : Nat} {p : D} {z : Str} (h : Pot n p) (hn : n < 1000000) (h0 : 0 < z.length) (hl : z.length < 1000000) :
    ∃ (c : Nat) (p' : D), G__law_of [(true, p), (false, .str z)] = some ((false, .str ⟨#[c]⟩), [(true, p'), (false, .non)]) ∧ c ∈ z.cps.toList ∧ Pot (n + 1) p' := by
  obtain ⟨v, p', e, h1, h2, h3⟩ := take_ok (u := (z.length : Nat)) h hn (by omega) (by omega)
  obtain ⟨d, g1, g2⟩ := at_lt (xs := z.cps.toList) h1 (by simpa [Str.length] using h2)
  have hz : z.length ≤ sizeLine := by rw [sz]; omega
  exact ⟨d, p', by simp [G__law_of, S__law_of, outs_eq, e, g1, hz], g2, h3⟩
end DD

namespace DD
open PySem PySem.Spec PyProof.Rows L2
/-! ### texts by their signs -/
def Sx (l : List Nat) : Str := ⟨l.toArray⟩
abbrev tx (l : List Nat) : D := .str (Sx l)
theorem Sx_cps (l : List Nat) : (Sx l).cps.toList = l := rfl
theorem Sx_of (z : Str) : z = Sx z.cps.toList := by
  unfold Sx
  rw [Array.toArray_toList]
theorem Sx_inj {a b : List Nat} : Sx a = Sx b ↔ a = b := by
  constructor
  · intro h
    have := congrArg (fun z : Str => z.cps.toList) h
    simpa [Sx] using this
  · intro h; rw [h]
@[simp] theorem Sx_eq {a b : List Nat} : (Sx a = Sx b) = (a = b) := propext Sx_inj
@[simp] theorem Sx_len (l : List Nat) : (Sx l).length = l.length := by simp [Sx, Str.length]
theorem Sx_add (a b : List Nat) : Sx a ++ Sx b = Sx (a ++ b) := by
  show Str.mk ((Sx a).cps ++ (Sx b).cps) = Sx (a ++ b)
  unfold Sx
  simp
theorem Sx_cut (l : List Nat) (lo hi : Option Int) : cutS (Sx l) lo hi = Sx (cutD l lo hi) := by
  unfold cutS cutD Sx
  simp [Str.length]
theorem signs_Sx (l : List Nat) : signsD (Sx l) = l.map fun c => tx [c] := by
  unfold signsD Sx
  rfl
theorem str_empty : (("" : Str)) = Sx [] := by decide +kernel
theorem str_ab : (("ab" : Str)) = Sx [97, 98] := by decide +kernel
theorem str_xy : (("xy" : Str)) = Sx [120, 121] := by decide +kernel
theorem str_x : (("x" : Str)) = Sx [120] := by decide +kernel
theorem str_xx : (("xx" : Str)) = Sx [120, 120] := by decide +kernel
theorem glue_fold : ∀ (ps : List (List Nat)) (a : List Nat), (ps.map Sx).foldl (fun acc p => acc ++ (Sx []).cps ++ p.cps) a.toArray = (a ++ ps.flatten).toArray
  | [], a => by simp
  | p :: ps, a => by
    have h : a.toArray ++ (Sx []).cps ++ (Sx p).cps = (a ++ p).toArray := by simp [Sx]
    rw [List.map_cons, List.foldl_cons, h, glue_fold ps]
    simp
theorem join_Sx (ps : List (List Nat)) : Txt.join (Sx []) (ps.map Sx) = Sx ps.flatten := by
  unfold Txt.join Builtin.Str.glued
  cases ps with
  | nil => rfl
  | cons p ps =>
    simp only [List.map_cons, List.headD_cons, List.drop_succ_cons, List.drop_zero]
    show Str.mk (List.foldl _ (Sx p).cps (ps.map Sx)) = _
    rw [show (Sx p).cps = p.toArray from rfl, glue_fold]
    rfl
theorem strs_tx : ∀ ps : List (List Nat), strsOf (ps.map tx) = some (ps.map Sx)
  | [] => rfl
  | p :: ps => by
    rw [List.map_cons, strsOf, strs_tx ps]
    rfl
theorem len_tx (ps : List (List Nat)) : ((ps.map Sx).map (·.length)).sum = ps.flatten.length := by
  induction ps with
  | nil => rfl
  | cons p ps ih => simp only [List.map_cons, List.sum_cons, ih, List.flatten_cons, List.length_append, Sx_len]
theorem join_tx (ps : List (List Nat)) (h : ps.flatten.length ≤ 16777216) : joinD (tx []) [.lst (ps.map tx)] = some (.sh (tx ps.flatten)) := by
  unfold joinD
  simp only [strs_tx, Option.bind_some]
  rw [if_pos, join_Sx]
  rw [len_tx]
  simpa using h
theorem flat_one (l : List Nat) : (l.map fun c => [c]).flatten = l := by
  induction l with
  | nil => rfl
  | cons c l ih => simp [ih]
/-! ### comprehensions that draw -/
/-- one turn: what it yields, and the slots behind it -/
def turnF (vs : List Nat) (g : GD) (A : FB) (F : FE) (d : D) (e : DEnv) : Option (Option D × DEnv) := match g d e with
  | some e1 => match A e1 with
    | some (true, e2) => match F e2 with
      | some (t, e3) => match toSh t e3 with
        | some (y, e4) => some (some y, wipeE e4 vs)
        | none => none
      | none => none
    | some (false, e2) => some (none, wipeE e2 vs)
    | none => none
  | none => none
theorem lcF_cons {vs : List Nat} {g : GD} {A : FB} {F : FE} {d : D} {ds acc : List D} {e : DEnv} : lcF vs g A F (d :: ds) acc e = match turnF vs g A F d e with
  | some (some y, e') => if acc.length < sizeLine then lcF vs g A F ds (acc ++ [y]) e' else none
  | some (none, e') => lcF vs g A F ds acc e'
  | none => none := by
  rw [lcF, turnF]
  rcases (g d e) with _ | e1
  · rfl
  dsimp only
  rcases (A e1) with _ | ⟨c, e2⟩
  · rfl
  cases c with
  | false => rfl
  | true =>
    dsimp only
    rcases (F e2) with _ | ⟨t, e3⟩
    · rfl
    dsimp only
    rcases (toSh t e3) with _ | ⟨y, e4⟩ <;> rfl
theorem lcF_inv {vs : List Nat} {g : GD} {A : FB} {F : FE} (I : Nat → DEnv → Prop) (P : D → Prop) : ∀ (ds : List D) (acc : List D) (j : Nat) (e : DEnv), acc.length + ds.length ≤ sizeLine → I j e →
    (∀ j' d e, j ≤ j' → j' < j + ds.length → d ∈ ds → I j' e → ∃ y e', turnF vs g A F d e = some (some y, e') ∧ P y ∧ I (j' + 1) e') →
    ∃ ys e', lcF vs g A F ds acc e = some (acc ++ ys, e') ∧ ys.length = ds.length ∧ (∀ y ∈ ys, P y) ∧ I (j + ds.length) e'
  | [], acc, j, e, _, i, _ => ⟨[], e, by rw [lcF, List.append_nil], rfl, by simp, i⟩
  | d :: ds, acc, j, e, hl, i, h => by
    rw [List.length_cons] at hl
    obtain ⟨y, e1, h1, h5, h6⟩ := h j d e (Nat.le_refl _) (by simp) List.mem_cons_self i
    obtain ⟨ys, e', g1, g2, g3, g4⟩ := lcF_inv I P ds (acc ++ [y]) (j + 1) e1 (by simp; omega) h6 fun j' d' e' a b c => h j' d' e' (by omega) (by rw [List.length_cons]; omega) (List.mem_cons_of_mem _ c)
    have hj : j + (d :: ds).length = j + 1 + ds.length := by rw [List.length_cons]; omega
    refine ⟨y :: ys, e', ?_, by simp [g2], fun x hx => ?_, by rw [hj]; exact g4⟩
    · rw [lcF_cons, h1]
      dsimp only
      rw [if_pos (by omega), g1, List.append_assoc]
      rfl
    · rcases List.mem_cons.mp hx with rfl | hx
      · exact h5
      · exact g3 x hx
theorem of_tx {n : Nat} {p : D} {S : List Nat} (h : Pot n p) (hn : n < 1000000) (h0 : S ≠ []) (hl : S.length < 1000000) :
    ∃ (c : Nat) (p' : D), G__law_of [(true, p), (false, tx S)] = some ((false, tx [c]), [(true, p'), (false, .non)]) ∧ c ∈ S ∧ Pot (n + 1) p' :=
  of_str (z := Sx S) h hn (by simpa using List.length_pos_iff.mpr h0) (by simpa using hl)
theorem ones_of {S : List Nat} : ∀ {ys : List D}, (∀ y ∈ ys, ∃ c, c ∈ S ∧ y = tx [c]) → ∃ l : List Nat, ys = (l.map fun c => [c]).map tx ∧ (∀ c ∈ l, c ∈ S) ∧ l.length = ys.length
  | [], _ => ⟨[], rfl, by simp, rfl⟩
  | y :: ys, h => by
    obtain ⟨c, hc, rfl⟩ := h y List.mem_cons_self
    obtain ⟨l, h1, h2, h3⟩ := ones_of (ys := ys) fun x hx => h x (List.mem_cons_of_mem _ hx)
    refine ⟨c :: l, by rw [h1]; rfl, fun x hx => ?_, by simp [h3]⟩
    rcases List.mem_cons.mp hx with rfl | hx
    · exact hc
    · exact h2 x hx
@[simp] theorem rangeD_len (lo : Int) (n : Nat) : (rangeD lo n).length = n := by simp [rangeD]
theorem row_ok {n : Nat} {p : D} {S : List Nat} {lo hi : Int} (h : Pot n p) (hn : n + hi.toNat + 2 < 1000000) (h0 : 0 ≤ lo) (h1 : lo ≤ hi) (hs : S ≠ []) (hl : S.length < 1000000) :
    ∃ (l : List Nat) (p' : D), G__law_row [(true, p), (false, tx S), (false, .int lo), (false, .int hi)] = some ((false, tx l), [(true, p'), (false, .non), (false, .non), (false, .non)]) ∧ (∀ c ∈ l, c ∈ S) ∧ lo ≤ l.length ∧ l.length ≤ hi ∧ Pot (n + 1 + hi.toNat) p' := by
  obtain ⟨v, p1, e1, v0, v1, q1⟩ := take_ok (u := hi - lo + 1) h (by omega) (by omega) (by omega)
  have hs' : 0 < S.length := List.length_pos_iff.mpr hs
  obtain ⟨ys, e', g1, g2, g3, p2, q2, rfl⟩ := lcF_inv (vs := [4]) (g := gN 4) (A := fYes) (F := fCall G__law_of (aCons (fVar 0) (aCons (fVar 1) aNil))) (fun j e => ∃ p2, Pot (n + 1 + j) p2 ∧ e = [some ⟨true, true, p2⟩, some ⟨false, false, tx S⟩, some ⟨false, false, .int lo⟩, some ⟨false, false, .int hi⟩, none]) (fun y => ∃ c, c ∈ S ∧ y = tx [c])
    (rangeD 0 (lo + v).toNat) [] 0 [some ⟨true, true, p1⟩, some ⟨false, false, tx S⟩, some ⟨false, false, .int lo⟩, some ⟨false, false, .int hi⟩, none] (by rw [sz]; simp; omega) ⟨p1, q1, rfl⟩ (by
      rintro j d e hj1 hj2 hd ⟨p2, hp2, rfl⟩
      rw [rangeD_len] at hj2
      obtain ⟨c, p3, w1, w2, w3⟩ := of_tx (S := S) hp2 (by omega) hs hl
      exact ⟨tx [c], _, by simp [turnF, w1], ⟨c, w2, rfl⟩, p3, w3, rfl⟩)
  obtain ⟨l, hl1, hl2, hl3⟩ := ones_of g3
  rw [rangeD_len] at g2
  have hlen : l.length = (lo + v).toNat := hl3.trans g2
  refine ⟨l, p2, ?_, hl2, by omega, by omega, q2.mono (by rw [rangeD_len]; omega)⟩
  have small : (-4611686018427387904 ≤ lo + v ∧ lo + v < 4611686018427387904) := by omega
  have jn := join_tx (l.map fun c => [c]) (by rw [flat_one]; omega)
  rw [← hl1, flat_one] at jn
  rw [List.nil_append] at g1
  simp [G__law_row, S__law_row, outs_eq, e1, small, g1, str_empty, jn]
end DD

namespace DD
open PySem PySem.Spec PyProof.Rows L2
/-! ### comprehensions that leave the slots as they are -/
theorem lcF_fm {vs : List Nat} {g : GD} {A : FB} {F : FE} {e : DEnv} (f : D → Option D) : ∀ (ds acc : List D), acc.length + ds.length ≤ sizeLine → (∀ d ∈ ds, turnF vs g A F d e = some (f d, e)) → lcF vs g A F ds acc e = some (acc ++ ds.filterMap f, e)
  | [], acc, _, _ => by rw [lcF, List.filterMap_nil, List.append_nil]
  | d :: ds, acc, hl, h => by
    rw [List.length_cons] at hl
    have h1 := h d List.mem_cons_self
    have h2 : ∀ d' ∈ ds, turnF vs g A F d' e = some (f d', e) := fun d' hd => h d' (List.mem_cons_of_mem _ hd)
    rw [lcF_cons, h1]
    cases hf : f d with
    | none =>
      dsimp only
      rw [lcF_fm f ds acc (by omega) h2, List.filterMap_cons, hf]
    | some y =>
      dsimp only
      rw [if_pos (by omega), lcF_fm f ds (acc ++ [y]) (by simp; omega) h2, List.filterMap_cons, hf, List.append_assoc]
      rfl
theorem lcF_map {vs : List Nat} {g : GD} {A : FB} {F : FE} {e : DEnv} (f : D → D) (ds acc : List D) (hl : acc.length + ds.length ≤ sizeLine) (h : ∀ d ∈ ds, turnF vs g A F d e = some (some (f d), e)) : lcF vs g A F ds acc e = some (acc ++ ds.map f, e) := by
  rw [lcF_fm (fun d => some (f d)) ds acc hl h]
  rw [show (ds.filterMap fun d => some (f d)) = ds.map f from congrFun (List.filterMap_eq_map (f := f)) ds]
/-! ### once each -/
section
variable {κ : Type} [DecidableEq κ]
def ded (acc : List κ) (ks : List κ) : List κ := ks.foldl (fun a k => if (a.any fun x => decide (x = k)) = true then a else a ++ [k]) acc
theorem merge_keys : ∀ (more : List (κ × D)) (acc : List κ × List D), (mergeD acc more).1 = ded acc.1 (more.map (·.1))
  | [], _ => rfl
  | kd :: more, acc => by
    show (mergeD (putD acc.1 acc.2 kd.1 kd.2) more).1 = ded (if _ then _ else _) (more.map (·.1))
    rw [merge_keys more]
    unfold putD
    split <;> rfl
theorem ded_mem : ∀ (ks acc : List κ) (x : κ), x ∈ ded acc ks ↔ x ∈ acc ∨ x ∈ ks
  | [], acc, x => by simp [ded]
  | k :: ks, acc, x => by
    show x ∈ ded (if _ then _ else _) ks ↔ _
    rw [ded_mem ks]
    split
    · rename_i h
      rw [List.any_eq_true] at h
      obtain ⟨y, hy, e⟩ := h
      have e : y = k := by simpa using e
      subst e
      constructor
      · rintro (h | h)
        · exact .inl h
        · exact .inr (List.mem_cons_of_mem _ h)
      · rintro (h | h)
        · exact .inl h
        · rcases List.mem_cons.mp h with rfl | h
          · exact .inl hy
          · exact .inr h
    · simp only [List.mem_append, List.mem_singleton, List.mem_cons, or_assoc, List.not_mem_nil, or_false, false_or]
theorem ded_nodup : ∀ (ks acc : List κ), acc.Nodup → (ded acc ks).Nodup
  | [], acc, h => h
  | k :: ks, acc, h => by
    show (ded (if _ then _ else _) ks).Nodup
    refine ded_nodup ks _ ?_
    split
    · exact h
    · rename_i hn
      rw [List.nodup_append]
      refine ⟨h, by simp, fun a ha b hb => ?_⟩
      rw [List.mem_singleton] at hb
      subst hb
      intro z
      subst z
      exact hn (List.any_eq_true.mpr ⟨a, ha, by simp⟩)
theorem ded_len : ∀ (ks acc : List κ), (ded acc ks).length ≤ acc.length + ks.length
  | [], acc => by simp [ded]
  | k :: ks, acc => by
    show (ded (if _ then _ else _) ks).length ≤ _
    rw [List.length_cons]
    split
    · have := ded_len ks acc
      omega
    · have := ded_len ks (acc ++ [k])
      rw [List.length_append, List.length_singleton] at this
      omega
end
/-! ### sorted -/
def ltD (x y : D) : Prop := PySem.W.dataLt (py x) (py y) = true
theorem sortD_perm (ds : List D) : (sortD ds).Perm ds := List.mergeSort_perm _ _
theorem ltD_total {x y : D} (h : ¬ ltD y x) (hne : PySem.W.keyToks (py x) ≠ PySem.W.keyToks (py y)) : ltD x y := by
  unfold ltD PySem.W.dataLt at *
  cases q : PyProof.Rows.lexLt PyProof.Rows.itemOrd (PySem.W.keyToks (py x)) (PySem.W.keyToks (py y)) with
  | true => rfl
  | false =>
    have h : PyProof.Rows.lexLt PyProof.Rows.itemOrd (PySem.W.keyToks (py y)) (PySem.W.keyToks (py x)) = false := by simpa using h
    exact absurd (PyProof.Rows.lex_total _ _ q h) hne
theorem sortD_sorted (ds : List D) : (sortD ds).Pairwise fun x y => ¬ ltD y x := by
  have := PySem.W.sort_pairwise (PySem.W.sortLe_total (PyProof.Rows.listOrd PyProof.Rows.itemOrd) false fun b => PySem.W.keyToks (py b)) ds
  refine this.imp fun {a b} h => ?_
  unfold ltD PySem.W.dataLt
  simpa [PySem.W.sortLe] using h
/-- texts by their signs' order -/
theorem ltD_tx {a b : List Nat} : ltD (tx a) (tx b) ↔ a < b := by
  unfold ltD
  show PySem.W.dataLt (.str (Sx a)) (.str (Sx b)) = true ↔ _
  rw [PySem.W.dataLt_str]
  exact ⟨fun h => of_decide_eq_true h, fun h => decide_eq_true h⟩
abbrev Ent := List Nat × List Nat
def ent (e : Ent) : D := .tup [tx e.1, tx e.2]
def ltE (e f : Ent) : Prop := e.1 < f.1 ∨ (e.1 = f.1 ∧ e.2 < f.2)
theorem eqv_tx {a b : List Nat} : PyData.eqv (.str (Sx a)) (.str (Sx b)) = decide (a = b) := by
  unfold PyData.eqv
  by_cases h : a = b
  · subst h; simp
  · simp [h]
theorem irr_list (a : List Nat) : ¬ a < a := List.lt_irrefl a
theorem tri_list : ∀ {a b : List Nat}, ¬ b < a → a ≠ b → a < b
  | [], [], _, h => absurd rfl h
  | [], y :: b, _, _ => List.nil_lt_cons y b
  | x :: a, [], h, _ => absurd (List.nil_lt_cons x a) h
  | x :: a, y :: b, h1, h2 => by
    rw [List.cons_lt_cons_iff] at h1 ⊢
    by_cases h : x = y
    · subst h
      exact .inr ⟨rfl, tri_list (fun w => h1 (.inr ⟨rfl, w⟩)) fun w => h2 (by rw [w])⟩
    · left
      have : ¬ y < x := fun w => h1 (.inl w)
      omega
theorem ltD_ent {e f : Ent} : ltD (ent e) (ent f) ↔ ltE e f := by
  unfold ltD ent
  show PySem.W.dataLt (.tuple [.str (Sx e.1), .str (Sx e.2)]) (.tuple [.str (Sx f.1), .str (Sx f.2)]) = true ↔ _
  rw [PySem.W.dataLt_pair rfl rfl, eqv_tx, eqv_tx]
  unfold ltE
  by_cases h1 : e.1 = f.1
  · simp only [h1, decide_true, if_true, irr_list, true_and, false_or]
    by_cases h2 : e.2 = f.2
    · simp [h2, irr_list]
    · simp only [h2, decide_false, Bool.false_eq_true, if_false]
      exact ltD_tx
  · simp only [h1, decide_false, Bool.false_eq_true, if_false, false_and, or_false]
    exact ltD_tx
theorem tri_ent {e f : Ent} (h1 : ¬ ltE f e) (h2 : e ≠ f) : ltE e f := by
  unfold ltE at *
  by_cases h : e.1 = f.1
  · right
    refine ⟨h, tri_list (fun w => h1 (.inr ⟨h.symm, w⟩)) fun w => h2 (Prod.ext h w)⟩
  · left
    exact tri_list (fun w => h1 (.inl w)) h
/-! ### unlike ones, sorted -/
theorem sort_map {α : Type} {f : α → D} {R : α → α → Prop} (hR : ∀ a b, ltD (f a) (f b) ↔ R a b) (tri : ∀ a b, ¬ R b a → a ≠ b → R a b) (inj : ∀ a b, f a = f b → a = b) {l : List α} (nd : l.Nodup) :
    ∃ us : List α, sortD (l.map f) = us.map f ∧ us.Perm l ∧ us.Pairwise R := by
  have hus : sortD (l.map f) = (l.mergeSort fun a b => PySem.W.dataLe false py (f a) (f b)).map f := (PySem.W.sort_maps f fun a _ b _ => rfl).symm
  have hp2 := List.mergeSort_perm l fun a b => PySem.W.dataLe false py (f a) (f b)
  generalize (l.mergeSort fun a b => PySem.W.dataLe false py (f a) (f b)) = us at hus hp2
  refine ⟨us, hus, hp2, ?_⟩
  have hs := sortD_sorted (l.map f)
  rw [hus, List.pairwise_map] at hs
  have nd2 : us.Pairwise (· ≠ ·) := hp2.nodup_iff.mpr nd
  exact (hs.and nd2).imp fun {a b} h => tri a b (fun w => h.1 ((hR b a).mpr w)) h.2
theorem tx_inj {a b : List Nat} (h : tx a = tx b) : a = b := by
  have := D.str.inj h
  exact Sx_inj.mp this
theorem ent_inj {a b : Ent} (h : ent a = ent b) : a = b := by
  obtain ⟨a1, a2⟩ := a
  obtain ⟨b1, b2⟩ := b
  have h := D.tup.inj h
  simp only [List.cons.injEq, and_true] at h
  rw [tx_inj h.1, tx_inj h.2]
end DD

namespace DD
open PySem PySem.Spec PyProof.Rows L2
section
variable {κ κ' : Type} [DecidableEq κ] [DecidableEq κ']
theorem ded_map (f : κ → κ') (inj : ∀ a b, f a = f b → a = b) : ∀ (ks acc : List κ), ded (acc.map f) (ks.map f) = (ded acc ks).map f
  | [], acc => rfl
  | k :: ks, acc => by
    show ded (if _ then _ else _) (ks.map f) = (ded (if _ then _ else _) ks).map f
    have e : ((acc.map f).any fun x => decide (x = f k)) = acc.any fun x => decide (x = k) := by
      rw [List.any_map]
      congr 1
      funext x
      simp only [Function.comp, decide_eq_decide]
      exact ⟨inj x k, fun h => by rw [h]⟩
    rw [e]
    split
    · exact ded_map f inj ks acc
    · have := ded_map f inj ks (acc ++ [k])
      rw [List.map_append] at this
      exact this
end
def kx (l : List Nat) : Key := .inr (Sx l)
def kE (e : Ent) : List Key := [kx e.1, kx e.2]
theorem kx_inj {a b : List Nat} (h : kx a = kx b) : a = b := Sx_inj.mp (Sum.inr.inj h)
theorem kE_inj {a b : Ent} (h : kE a = kE b) : a = b := by
  obtain ⟨a1, a2⟩ := a
  obtain ⟨b1, b2⟩ := b
  simp only [kE, List.cons.injEq, and_true] at h
  rw [kx_inj h.1, kx_inj h.2]
theorem pairsK_tx : ∀ ls : List (List Nat), pairsK (ls.map fun l => .tup [tx l, .bl true]) = some (ls.map fun l => (kx l, .bl true))
  | [] => rfl
  | l :: ls => by
    rw [List.map_cons, pairsK, pairsK_tx ls]
    rfl
theorem pairsT_ent : ∀ ls : List Ent, pairsT (ls.map fun l => .tup [ent l, .bl true]) = some (ls.map fun l => (kE l, .bl true))
  | [] => rfl
  | l :: ls => by
    rw [List.map_cons]
    unfold ent
    rw [pairsT]
    have := pairsT_ent ls
    unfold ent at this
    rw [this]
    rfl
theorem pairsK_ent {e : Ent} {ls : List Ent} : pairsK ((e :: ls).map fun l => .tup [ent l, .bl true]) = none := by
  rw [List.map_cons]
  unfold ent
  rw [pairsK]
  rfl
theorem flatL_map {α : Type} {f : α → D} (h : ∀ a, flat (f a) = true) : ∀ ls : List α, flatL (ls.map f) = true
  | [] => rfl
  | l :: ls => by
    rw [List.map_cons, flatL, h, flatL_map h ls]
    rfl
theorem sortOk_map {α : Type} {f : α → D} (h1 : ∀ a, flat (f a) = true) (h2 : ∀ a b, PySem.W.alike (py (f a)) (py (f b)) = true) (h3 : (∀ a, isTup1 (f a) = true) ∨ ∀ a, isNon (f a) = false ∧ isTup0 (f a) = false) (h4 : ∀ a, (py (f a)).depth ≤ 60) {ls : List α} (hl : ls.length ≤ sizeLine) : sortOk (ls.map f) = true := by
  unfold sortOk
  rw [flatL_map h1]
  have a : alikes (ls.map f) = true := by
    unfold alikes
    simp only [List.all_map, List.all_eq_true, Function.comp]
    intro a _ b _
    exact h2 a b
  have s : sortable (ls.map f) = true := by
    unfold sortable
    rw [Bool.or_eq_true]
    rcases h3 with h3 | h3
    · left
      simp only [List.all_map, List.all_eq_true, Function.comp]
      intro a _
      exact h3 a
    · right
      simp only [List.all_map, List.all_eq_true, Function.comp]
      intro a _
      simp [h3 a]
  rw [a, s]
  simp only [List.length_map, hl, decide_true, Bool.true_and, List.all_map, List.all_eq_true, Function.comp, decide_eq_true_eq]
  intro a _
  exact h4 a
theorem sortOk_tx {ls : List (List Nat)} (hl : ls.length ≤ sizeLine) : sortOk (ls.map tx) = true := sortOk_map (fun _ => rfl) (fun _ _ => rfl) (.inr fun _ => ⟨rfl, rfl⟩) (fun _ => by show (0 : Nat) ≤ 60; omega) hl
theorem sortOk_ent {ls : List Ent} (hl : ls.length ≤ sizeLine) : sortOk (ls.map ent) = true := sortOk_map (fun _ => rfl) (fun _ _ => rfl) (.inl fun _ => rfl) (fun _ => by show (1 : Nat) ≤ 60; omega) hl
theorem unlike_str {b : Bool} {ls : List (List Nat)} (hl : ls.length ≤ 1000) : ∃ us : List (List Nat), G__law_unlike [(b, .lst (ls.map tx))] = some ((true, .lst (us.map tx)), [(false, if b = true then .lst (ls.map tx) else .non)]) ∧ us.Pairwise (· < ·) ∧ (∀ x, x ∈ us ↔ x ∈ ls) ∧ us.length ≤ ls.length := by
  have hd := ded_len ls []
  rw [List.length_nil, Nat.zero_add] at hd
  obtain ⟨us, e1, e2, e3⟩ := sort_map (f := tx) (R := (· < ·)) (fun a b => ltD_tx) (fun a b => tri_list) (fun a b => tx_inj) (ded_nodup ls [] .nil)
  have ks : keysD (.dK (mergeD ([], []) (ls.map fun l => (kx l, D.bl true))).1 (mergeD ([], []) (ls.map fun l => (kx l, D.bl true))).2) = some ((ded [] ls).map tx) := by
    have h := merge_keys (ls.map fun l => (kx l, D.bl true)) ([], [])
    rw [List.map_map] at h
    have h2 := ded_map kx (fun a b => kx_inj) ls []
    show some ((mergeD ([], []) (ls.map fun l => (kx l, D.bl true))).1.map keyD) = _
    rw [h]
    show some ((ded (List.map kx []) (ls.map kx)).map keyD) = _
    rw [h2, List.map_map]
    rfl
  have so := sortOk_tx (ls := ded [] ls) (by rw [sz]; omega)
  have lc : ∀ e : DEnv, e.length = 2 → lcF [1] (gN 1) fYes (fTup (fCons (fVar 1) (fCons (fC (.bl true)) fNil))) (ls.map tx) [] (e.set 1 none) = some ((ls.map tx).map fun d => .tup [d, .bl true], e.set 1 none) := by
    intro e he
    match e, he with
    | [s0, s1], _ =>
      have := lcF_map (vs := [1]) (g := gN 1) (A := fYes) (F := fTup (fCons (fVar 1) (fCons (fC (.bl true)) fNil))) (e := [s0, none]) (fun d => .tup [d, .bl true]) (ls.map tx) [] (by rw [sz]; simp; omega) fun d _ => by simp [turnF, sz]
      simpa using this
  have dd : dictD [.lst ((ls.map tx).map fun d => .tup [d, .bl true])] = some (.ow (.dK (mergeD ([], []) (ls.map fun l => (kx l, D.bl true))).1 (mergeD ([], []) (ls.map fun l => (kx l, D.bl true))).2)) := by
    unfold dictD
    rw [List.map_map]
    have := pairsK_tx ls
    simp only [Function.comp_def]
    rw [this]
  refine ⟨us, ?_, e3, fun x => ?_, by rw [e2.length_eq]; exact hd⟩
  · have srt : sortedK [.dK (mergeD ([], []) (ls.map fun l => (kx l, D.bl true))).1 (mergeD ([], []) (ls.map fun l => (kx l, D.bl true))).2] = some (.ow (.lst (us.map tx))) := by
      unfold sortedK
      simp only [ks, Option.bind_some]
      rw [if_pos so, e1]
    have l1 := lc [some ⟨b, false, .lst (ls.map tx)⟩, none] rfl
    cases b with
    | true => simp [G__law_unlike, S__law_unlike, outs_eq, -List.map_map] at l1 ⊢; simp [l1, dd, srt, outs_eq, -List.map_map]
    | false => simp [G__law_unlike, S__law_unlike, outs_eq, -List.map_map] at l1 ⊢; simp [l1, dd, srt, outs_eq, -List.map_map]
  · rw [e2.mem_iff, ded_mem]
    simp

theorem unlike_ent {b : Bool} {ls : List Ent} (h0 : ls ≠ []) (hl : ls.length ≤ 1000) : ∃ us : List Ent, G__law_unlike [(b, .lst (ls.map ent))] = some ((true, .lst (us.map ent)), [(false, if b = true then .lst (ls.map ent) else .non)]) ∧ us.Pairwise ltE ∧ (∀ x, x ∈ us ↔ x ∈ ls) ∧ us.length ≤ ls.length ∧ us.Perm (ded [] ls) := by
  have hd := ded_len ls []
  rw [List.length_nil, Nat.zero_add] at hd
  obtain ⟨us, e1, e2, e3⟩ := sort_map (f := ent) (R := ltE) (fun a b => ltD_ent) (fun a b => tri_ent) (fun a b => ent_inj) (ded_nodup ls [] .nil)
  have ks : keysD (.dT (mergeD ([], []) (ls.map fun l => (kE l, D.bl true))).1 (mergeD ([], []) (ls.map fun l => (kE l, D.bl true))).2) = some ((ded [] ls).map ent) := by
    have h := merge_keys (ls.map fun l => (kE l, D.bl true)) ([], [])
    rw [List.map_map] at h
    have h2 := ded_map kE (fun a b => kE_inj) ls []
    show some ((mergeD ([], []) (ls.map fun l => (kE l, D.bl true))).1.map fun k => D.tup (k.map keyD)) = _
    rw [h]
    show some ((ded (List.map kE []) (ls.map kE)).map fun k => D.tup (k.map keyD)) = _
    rw [h2, List.map_map]
    rfl
  have so := sortOk_ent (ls := ded [] ls) (by rw [sz]; omega)
  have lc : ∀ s0, lcF [1] (gN 1) fYes (fTup (fCons (fVar 1) (fCons (fC (.bl true)) fNil))) (ls.map ent) [] [s0, none] = some ((ls.map ent).map fun d => .tup [d, .bl true], [s0, none]) := by
    intro s0
    have := lcF_map (vs := [1]) (g := gN 1) (A := fYes) (F := fTup (fCons (fVar 1) (fCons (fC (.bl true)) fNil))) (e := [s0, none]) (fun d => .tup [d, .bl true]) (ls.map ent) [] (by rw [sz]; simp; omega) fun d _ => by simp [turnF, sz]
    simpa using this
  have dd : dictD [.lst ((ls.map ent).map fun d => .tup [d, .bl true])] = some (.ow (.dT (mergeD ([], []) (ls.map fun l => (kE l, D.bl true))).1 (mergeD ([], []) (ls.map fun l => (kE l, D.bl true))).2)) := by
    unfold dictD
    rw [List.map_map]
    simp only [Function.comp_def]
    rw [pairsT_ent ls]
    match ls, h0 with
    | e :: ls, _ => rw [pairsK_ent]
  have srt : sortedK [.dT (mergeD ([], []) (ls.map fun l => (kE l, D.bl true))).1 (mergeD ([], []) (ls.map fun l => (kE l, D.bl true))).2] = some (.ow (.lst (us.map ent))) := by
    unfold sortedK
    simp only [ks, Option.bind_some]
    rw [if_pos so, e1]
  refine ⟨us, ?_, e3, fun x => ?_, by rw [e2.length_eq]; exact hd, e2⟩
  · have l1 := lc (some ⟨b, false, .lst (ls.map ent)⟩)
    cases b with
    | true => simp [G__law_unlike, S__law_unlike, outs_eq, l1, dd, srt, -List.map_map]
    | false => simp [G__law_unlike, S__law_unlike, outs_eq, l1, dd, srt, -List.map_map]
  · rw [e2.mem_iff, ded_mem]
    simp
end DD

namespace DD
open PySem PySem.Spec PyProof.Rows L2
def dicD (us : List Ent) : D := .tup (us.map ent)
structure Dic (us : List Ent) : Prop where
  ne : us ≠ []
  few : us.length ≤ 16
  asc : us.Pairwise ltE
  o1 : ∀ e ∈ us, 1 ≤ e.1.length ∧ e.1.length ≤ 8
  t8 : ∀ e ∈ us, e.2.length ≤ 8
  so : ∀ e ∈ us, ∀ c ∈ e.1, 97 ≤ c ∧ c ≤ 122
  st : ∀ e ∈ us, ∀ c ∈ e.2, 97 ≤ c ∧ c ≤ 122
theorem ents_of {P : Ent → Prop} : ∀ {ys : List D}, (∀ y ∈ ys, ∃ e, P e ∧ y = ent e) → ∃ l : List Ent, ys = l.map ent ∧ (∀ e ∈ l, P e) ∧ l.length = ys.length
  | [], _ => ⟨[], rfl, by simp, rfl⟩
  | y :: ys, h => by
    obtain ⟨c, hc, rfl⟩ := h y List.mem_cons_self
    obtain ⟨l, h1, h2, h3⟩ := ents_of (ys := ys) fun x hx => h x (List.mem_cons_of_mem _ hx)
    refine ⟨c :: l, by rw [h1]; rfl, fun x hx => ?_, by simp [h3]⟩
    rcases List.mem_cons.mp hx with rfl | hx
    · exact hc
    · exact h2 x hx
theorem dictionary_ok {n : Nat} {p : D} (h : Pot n p) (hn : n + 100 < 1000000) :
    ∃ (us : List Ent) (p' : D), G__law_dictionary [(true, p)] = some ((false, dicD us), [(true, p')]) ∧ Dic us ∧ us.length ≤ 5 ∧ (∀ e ∈ us, e.1.length ≤ 3 ∧ e.2.length ≤ 2 ∧ ∀ c ∈ e.2, c = 120 ∨ c = 121) ∧ Pot (n + 50) p' := by
  obtain ⟨v, p1, e1, v0, v1, q1⟩ := take_ok (u := 5) h (by omega) (by omega) (by omega)
  obtain ⟨ys, e', g1, g2, g3, p2, q2, rfl⟩ := lcF_inv (vs := [2]) (g := gN 2) (A := fYes) (F := (fTup (fCons (fCall G__law_row (aCons (fVar 0) (aCons (fC (.str "ab")) (aCons (fC (.int 1)) (aCons (fC (.int 3)) aNil))))) (fCons (fCall G__law_row (aCons (fVar 0) (aCons (fC (.str "xy")) (aCons (fCall G__law_of (aCons (fVar 0) (aCons (fLst (fCons (fC (.int 0)) (fCons (fC (.int 1)) (fCons (fC (.int 1)) fNil)))) aNil))) (aCons (fC (.int 2)) aNil))))) fNil))))
    (fun j e => ∃ p2, Pot (n + 1 + 8 * j) p2 ∧ e = [some ⟨true, true, p2⟩, none, none]) (fun y => ∃ e : Ent, (1 ≤ e.1.length ∧ e.1.length ≤ 3 ∧ e.2.length ≤ 2 ∧ (∀ c ∈ e.1, 97 ≤ c ∧ c ≤ 122) ∧ ∀ c ∈ e.2, c = 120 ∨ c = 121) ∧ y = ent e)
    (rangeD 0 (1 + v).toNat) [] 0 [some ⟨true, true, p1⟩, none, none] (by rw [sz]; simp; omega) ⟨p1, q1, rfl⟩ (by
      rintro j d e hj1 hj2 hd ⟨p2, hp2, rfl⟩
      rw [rangeD_len] at hj2
      obtain ⟨l1, p3, w1, w2, w3, w4, w5⟩ := row_ok (S := [97, 98]) (lo := 1) (hi := 3) hp2 (by omega) (by omega) (by omega) (by simp) (by simp)
      obtain ⟨d0, p4, x1, x2, x3⟩ := of_lst (ds := [.int 0, .int 1, .int 1]) w5 (by omega) (by simp) (by simp)
      have x4 : ∃ i : Int, d0 = .int i ∧ 0 ≤ i ∧ i ≤ 2 := by
        simp only [List.mem_cons, List.not_mem_nil, or_false] at x2
        rcases x2 with rfl | rfl | rfl
        · exact ⟨0, rfl, by omega, by omega⟩
        · exact ⟨1, rfl, by omega, by omega⟩
        · exact ⟨1, rfl, by omega, by omega⟩
      obtain ⟨i, rfl, i0, i1⟩ := x4
      obtain ⟨l2, p5, y1, y2, y3, y4, y5⟩ := row_ok (S := [120, 121]) (lo := i) (hi := 2) x3 (by omega) (by omega) (by omega) (by simp) (by simp)
      refine ⟨ent (l1, l2), [some ⟨true, true, p5⟩, none, none], ?_, ⟨(l1, l2), ⟨by dsimp only; omega, by dsimp only; omega, by dsimp only; omega, fun c hc => ?_, fun c hc => ?_⟩, rfl⟩, p5, y5.mono (by omega), rfl⟩
      · simp [turnF, str_ab, str_xy, w1, x1, y1, ent, sz]
      · have := w2 c hc
        simp at this
        omega
      · have := y2 c hc
        simpa using this)
  obtain ⟨l, hl1, hl2, hl3⟩ := ents_of g3
  rw [rangeD_len] at g2
  have hlen : l.length = (1 + v).toNat := hl3.trans g2
  have l0 : l ≠ [] := fun z => by rw [z] at hlen; simp at hlen; omega
  obtain ⟨us, f1, f2, f3, f4, _⟩ := unlike_ent (b := true) l0 (by omega)
  have mem : ∀ e ∈ us, 1 ≤ e.1.length ∧ e.1.length ≤ 3 ∧ e.2.length ≤ 2 ∧ (∀ c ∈ e.1, 97 ≤ c ∧ c ≤ 122) ∧ ∀ c ∈ e.2, c = 120 ∨ c = 121 := fun e he => hl2 e ((f3 e).mp he)
  refine ⟨us, p2, ?_, ⟨fun z => ?_, by omega, f2, fun e he => ⟨(mem e he).1, by have := (mem e he).2.1; omega⟩, fun e he => by have := (mem e he).2.2.1; omega, fun e he => (mem e he).2.2.2.1, fun e he c hc => ?_⟩, by omega, fun e he => ⟨(mem e he).2.1, (mem e he).2.2.1, (mem e he).2.2.2.2⟩, q2.mono (by rw [rangeD_len]; omega)⟩
  · have small : (-4611686018427387904 ≤ 1 + v ∧ 1 + v < 4611686018427387904) := by omega
    rw [List.nil_append] at g1
    rw [if_pos rfl, ← hl1] at f1
    simp [G__law_dictionary, S__law_dictionary, outs_eq, e1, small, g1, f1, dicD]
  · obtain ⟨x, hx⟩ := List.exists_mem_of_ne_nil l l0
    have := (f3 x).mpr hx
    rw [z] at this
    cases this
  · have := (mem e he).2.2.2.2 c hc
    omega
end DD

namespace DD
open PySem PySem.Spec PyProof.Rows L2
/-! ### what the program asks of its arguments -/
theorem signs_list : ((("abcdefghijklmnopqrstuvwxyz" : Str)).cps.toList) = List.range' 97 26 := by decide +kernel
theorem sign_in {c : Nat} (h0 : 97 ≤ c) (h1 : c ≤ 122) : inF false (tx [c]) (.str "abcdefghijklmnopqrstuvwxyz") = some (.sh (.bl true)) := by
  show (inv (.str ⟨⟨[c]⟩⟩) (.str "abcdefghijklmnopqrstuvwxyz")).map _ = _
  have : c ∈ (("abcdefghijklmnopqrstuvwxyz" : Str)).cps.toList := by
    rw [signs_list, List.mem_range'_1]
    omega
  simp only [inv, decide_eq_true this]
  rfl
theorem bls_true : ∀ ds : List D, (∀ d ∈ ds, d = .bl true) → allD [.lst ds] = some (.sh (.bl true)) := by
  intro ds h
  have : ∃ bs : List Bool, blsOf ds = some bs ∧ bs.all id = true := by
    induction ds with
    | nil => exact ⟨[], rfl, rfl⟩
    | cons d ds ih =>
      obtain ⟨bs, h1, h2⟩ := ih fun x hx => h x (List.mem_cons_of_mem _ hx)
      have hd := h d List.mem_cons_self
      subst hd
      exact ⟨true :: bs, by rw [blsOf, h1]; rfl, by simpa using h2⟩
  obtain ⟨bs, h1, h2⟩ := this
  show (blsOf ds).map _ = _
  rw [h1, Option.map_some, h2]
def Small (l : List Nat) : Prop := ∀ c ∈ l, 97 ≤ c ∧ c ≤ 122
theorem are_signs_ok {l : List Nat} (hs : Small l) (hl : l.length ≤ 100000) : G_are_signs [(false, tx l)] = some ((false, .bl true), [(false, .non)]) := by
  have lc : lcF [1] (gN 1) fYes (f2 (inF false) (fVar 1) (fC (.str "abcdefghijklmnopqrstuvwxyz"))) (signsD (Sx l)) [] [some ⟨false, false, tx l⟩, none] = some ([] ++ (signsD (Sx l)).map fun _ => .bl true, [some ⟨false, false, tx l⟩, none]) := by
    refine lcF_map _ _ _ (by rw [sz, signs_Sx]; simp; omega) fun d hd => ?_
    rw [signs_Sx] at hd
    obtain ⟨c, hc, rfl⟩ := List.mem_map.mp hd
    have := sign_in (hs c hc).1 (hs c hc).2
    simp [turnF, this]
  have al : allD [.lst ((signsD (Sx l)).map fun _ => .bl true)] = some (.sh (.bl true)) := bls_true _ fun d hd => by
    obtain ⟨_, _, rfl⟩ := List.mem_map.mp hd
    rfl
  rw [List.nil_append] at lc
  simp [G_are_signs, S_are_signs, outs_eq, lc, al, -List.map_const']
theorem is_signs_ok {l : List Nat} {lo hi : Int} (hs : Small l) (h0 : lo ≤ l.length) (h1 : l.length ≤ hi) (hl : l.length ≤ 100000) : G_is_signs [(false, tx l), (false, .int lo), (false, .int hi)] = some ((false, .bl true), [(false, .non), (false, .non), (false, .non)]) := by
  have h2 : l.length ≤ sizeLine := by rw [sz]; omega
  simp [G_is_signs, S_is_signs, outs_eq, are_signs_ok hs hl, h0, h1, h2]
theorem is_row_ok {l : List Nat} (hs : Small l) (h1 : l.length ≤ 2000) : G_is_row_of [(false, tx l)] = some ((false, .bl true), [(false, .non)]) := by
  have := is_signs_ok (l := l) (lo := 0) (hi := 2000) hs (by omega) (by omega) (by omega)
  simp [G_is_row_of, S_is_row_of, outs_eq, this]
theorem is_entry_ok {us : List Ent} (hd : Dic us) {e : Ent} (he : e ∈ us) : G_is_entry_of [(false, ent e)] = some ((false, .bl true), [(false, .non)]) := by
  have h1 := is_signs_ok (l := e.1) (lo := 1) (hi := 8) (hd.so e he) (by have := (hd.o1 e he).1; omega) (by have := (hd.o1 e he).2; omega) (by have := (hd.o1 e he).2; omega)
  have h2 := is_signs_ok (l := e.2) (lo := 0) (hi := 8) (hd.st e he) (by omega) (by have := hd.t8 e he; omega) (by have := hd.t8 e he; omega)
  have h3 := x1 [tx e.1, tx e.2] 2
  simp [G_is_entry_of, S_is_entry_of, outs_eq, ent, h1, h2, h3]
theorem lt_ent {e f : Ent} (h : ltE e f) : ltF false false (ent e) (ent f) = some (.sh (.bl true)) := by
  have h1 := ltD_ent.mpr h
  show (ltv (ent e) (ent f)).map _ = _
  have : ltv (ent e) (ent f) = some true := by
    show (if flat (ent e) = true ∧ flat (ent f) = true ∧ PySem.W.alike (py (ent e)) (py (ent f)) = true ∧ isNon (ent e) = false ∧ (py (ent e)).depth ≤ 64 then some (PySem.W.dataLt (py (ent e)) (py (ent f))) else none) = _
    rw [if_pos ⟨rfl, rfl, rfl, rfl, by show (1 : Nat) ≤ 64; omega⟩]
    rw [show PySem.W.dataLt (py (ent e)) (py (ent f)) = true from h1]
  rw [this]
  rfl
theorem zip_asc : ∀ {us : List Ent}, us.Pairwise ltE → ∀ d ∈ ((us.map ent).zip ((us.map ent).drop 1)).map (fun p => D.tup [p.1, p.2]), ∃ e f, ltE e f ∧ d = .tup [ent e, ent f]
  | [], _, d, hd => by simp at hd
  | [e], _, d, hd => by simp at hd
  | e :: f :: us, h, d, hd => by
    rw [List.pairwise_cons] at h
    simp only [List.map_cons, List.drop_succ_cons, List.drop_zero, List.zip_cons_cons, List.mem_cons] at hd
    rcases hd with rfl | hd
    · exact ⟨e, f, h.1 f List.mem_cons_self, rfl⟩
    · have := zip_asc (us := f :: us) h.2 d
      simp only [List.map_cons, List.drop_succ_cons, List.drop_zero] at this
      exact this hd
theorem cut_from1 {α : Type} (xs : List α) : cutD xs (some 1) none = xs.drop 1 := by
  unfold cutD
  rw [HT.sIx_none]
  have : HT.sIx xs.length 0 (some 1) = min 1 xs.length := HT.sIx_nat xs.length 0 1
  rw [this]
  cases xs with
  | nil => rfl
  | cons x xs =>
    have : min 1 (x :: xs).length = 1 := by simp
    rw [this, List.take_of_length_le]
    rw [List.length_drop]; omega
theorem is_ascending_ok {us : List Ent} (h : us.Pairwise ltE) (hl : us.length ≤ 100000) : G_is_ascending [(false, dicD us)] = some ((false, .bl true), [(false, .non)]) := by
  have zl : (((us.map ent).zip ((us.map ent).drop 1)).map (fun p => D.tup [p.1, p.2])).length ≤ us.length := by simp
  have lc : lcF [1, 2] (gTupD 2 (gsCons (gN 1) (gsCons (gN 2) gsNil))) fYes (f2 (ltF false false) (fVar 1) (fVar 2)) (((us.map ent).zip ((us.map ent).drop 1)).map (fun p => D.tup [p.1, p.2])) [] [some ⟨false, false, dicD us⟩, none, none] = some ([] ++ (((us.map ent).zip ((us.map ent).drop 1)).map (fun p => D.tup [p.1, p.2])).map fun _ => .bl true, [some ⟨false, false, dicD us⟩, none, none]) := by
    refine lcF_map _ _ _ (by rw [sz, List.length_nil]; omega) fun d hd => ?_
    obtain ⟨e, f, h1, rfl⟩ := zip_asc h d hd
    have := lt_ent h1
    simp [turnF, this]
  have al : allD [.lst ((((us.map ent).zip ((us.map ent).drop 1)).map (fun p => D.tup [p.1, p.2])).map fun _ => .bl true)] = some (.sh (.bl true)) := bls_true _ fun d hd => by
    obtain ⟨_, _, rfl⟩ := List.mem_map.mp hd
    rfl
  have cu : slD (.tup (us.map ent)) (some 1) none = some (.sh (.tup ((us.map ent).drop 1))) := by
    show some (T.sh (.tup (cutD (us.map ent) (some 1) none))) = _
    rw [cut_from1]
  have zi : zipD [.tup (us.map ent), .tup ((us.map ent).drop 1)] = some (((us.map ent).zip ((us.map ent).drop 1)).map (fun p => D.tup [p.1, p.2])) := rfl
  rw [List.nil_append] at lc
  unfold dicD at lc ⊢
  simp [G_is_ascending, S_is_ascending, outs_eq, cu, zi, lc, al, -List.drop_one, -List.map_drop, -List.map_map, -List.map_const']
end DD

namespace DD
open PySem PySem.Spec PyProof.Rows L2
theorem is_dictionary_ok {us : List Ent} (h : Dic us) : G_is_dictionary_of [(false, dicD us)] = some ((false, .bl true), [(false, .non)]) := by
  have lc : lcF [1] (gN 1) fYes (fCall G_is_entry_of (aCons (fVar 1) aNil)) (us.map ent) [] [some ⟨false, false, .tup (us.map ent)⟩, none] = some ([] ++ (us.map ent).map fun _ => .bl true, [some ⟨false, false, .tup (us.map ent)⟩, none]) := by
    have hf := h.few
    refine lcF_map _ _ _ (by rw [sz]; simp; omega) fun d hd => ?_
    obtain ⟨e, he, rfl⟩ := List.mem_map.mp hd
    simp [turnF, is_entry_ok h he]
  have al : allD [.lst ((us.map ent).map fun _ => .bl true)] = some (.sh (.bl true)) := bls_true _ fun d hd => by
    obtain ⟨_, _, rfl⟩ := List.mem_map.mp hd
    rfl
  rw [List.nil_append] at lc
  have h1 : 1 ≤ us.length := List.length_pos_iff.mpr h.ne
  have h1i : (1 : Int) ≤ (us.length : Nat) := by omega
  have h2 : ((us.length : Nat) : Int) ≤ 16 := by have := h.few; omega
  have as := is_ascending_ok h.asc (by have := h.few; omega)
  unfold dicD at as ⊢
  simp [G_is_dictionary_of, S_is_dictionary_of, outs_eq, lc, al, as, h1i, h2, -List.map_map, -List.map_const']
theorem check_dictionary_ok {us : List Ent} (h : Dic us) : G_check_dictionary [(false, dicD us)] = some ((false, dicD us), [(false, .non)]) := by
  simp [G_check_dictionary, S_check_dictionary, outs_eq, is_dictionary_ok h]
theorem check_written_ok {us : List Ent} {x : List Nat} (h : Dic us) (hs : Small x) (hl : x.length ≤ 2000) : G_check_written [(false, dicD us), (false, tx x)] = some ((false, .non), [(false, .non), (false, .non)]) := by
  simp [G_check_written, S_check_written, outs_eq, check_dictionary_ok h, is_row_ok hs hl]
/-! ### entries on a place -/
theorem lcF_fa {α : Type} {vs : List Nat} {g : GD} {A : FB} {F : FE} {e : DEnv} (k : α → D) (f : α → Option D) : ∀ (as : List α) (acc : List D), acc.length + as.length ≤ sizeLine → (∀ a ∈ as, turnF vs g A F (k a) e = some (f a, e)) → lcF vs g A F (as.map k) acc e = some (acc ++ as.filterMap f, e)
  | [], acc, _, _ => by rw [List.map_nil, lcF, List.filterMap_nil, List.append_nil]
  | d :: ds, acc, hl, h => by
    rw [List.length_cons] at hl
    have h1 := h d List.mem_cons_self
    have h2 : ∀ d' ∈ ds, turnF vs g A F (k d') e = some (f d', e) := fun d' hd => h d' (List.mem_cons_of_mem _ hd)
    rw [List.map_cons, lcF_cons, h1]
    cases hf : f d with
    | none =>
      dsimp only
      rw [lcF_fa k f ds acc (by omega) h2, List.filterMap_cons, hf]
    | some y =>
      dsimp only
      rw [if_pos (by omega), lcF_fa k f ds (acc ++ [y]) (by simp; omega) h2, List.filterMap_cons, hf, List.append_assoc]
      rfl
theorem lcF_ma {α : Type} {vs : List Nat} {g : GD} {A : FB} {F : FE} {e : DEnv} (k : α → D) (f : α → D) (as : List α) (hl : as.length ≤ sizeLine) (h : ∀ a ∈ as, turnF vs g A F (k a) e = some (some (f a), e)) : lcF vs g A F (as.map k) [] e = some (as.map f, e) := by
  rw [lcF_fa k (fun a => some (f a)) as [] (by simpa using hl) h, List.nil_append]
  rw [show (as.filterMap fun a => some (f a)) = as.map f from congrFun (List.filterMap_eq_map (f := f)) as]
theorem lcF_fi {α : Type} {vs : List Nat} {g : GD} {A : FB} {F : FE} {e : DEnv} (k : α → D) (b : α → Bool) (f : α → D) (as : List α) (hl : as.length ≤ sizeLine) (h : ∀ a ∈ as, turnF vs g A F (k a) e = some (if b a = true then some (f a) else none, e)) : lcF vs g A F (as.map k) [] e = some ((as.filter b).map f, e) := by
  rw [lcF_fa k (fun a => if b a = true then some (f a) else none) as [] (by simpa using hl) h, List.nil_append]
  congr 2
  clear h hl
  induction as with
  | nil => rfl
  | cons a as ih =>
    rw [List.filterMap_cons, List.filter_cons]
    by_cases hb : b a = true
    · simp [hb, ih]
    · simp [hb, ih]
def numE : Nat → List Ent → List (Nat × Ent)
  | _, [] => []
  | k, e :: us => (k, e) :: numE (k + 1) us
theorem numD_ent : ∀ (us : List Ent) (k : Nat), numD k (us.map ent) = (numE k us).map fun a => .tup [.int (a.1 : Nat), ent a.2]
  | [], _ => rfl
  | e :: us, k => by
    rw [List.map_cons, numD, numD_ent us]
    rfl
theorem numE_len : ∀ (us : List Ent) (k : Nat), (numE k us).length = us.length
  | [], _ => rfl
  | e :: us, k => by rw [numE, List.length_cons, numE_len us, List.length_cons]
theorem numE_get : ∀ {us : List Ent} {k : Nat} {a : Nat × Ent}, a ∈ numE k us → k ≤ a.1 ∧ us[a.1 - k]? = some a.2
  | [], _, _, h => by cases h
  | e :: us, k, a, h => by
    rcases List.mem_cons.mp h with rfl | h
    · exact ⟨Nat.le_refl _, by simp⟩
    · obtain ⟨h1, h2⟩ := numE_get h
      refine ⟨by omega, ?_⟩
      rw [show a.1 - k = (a.1 - (k + 1)) + 1 by omega, List.getElem?_cons_succ]
      exact h2
def hit (x : List Nat) (p : Nat) (a : Nat × Ent) : Bool := decide (a.2.2 ≠ []) && decide ((x.drop p).take a.2.2.length = a.2.2)
/-- a way on: the entry's number, its outline, the place behind -/
abbrev Tr := Nat × List Nat × Nat
def trD (a : Tr) : D := .tup [.int (a.1 : Nat), .int (a.2.1.length : Nat), .int (a.2.2 : Nat)]
def gr (us : List Ent) (x : List Nat) (p : Nat) : List Tr := ((numE 0 us).filter (hit x p)).map fun a => (a.1, a.2.1, p + a.2.2.length)
theorem from_nat (n p : Nat) : fromIndex n (p : Int) = p := by
  unfold fromIndex
  rw [if_neg (by omega)]
  omega
theorem sw_eq {x t : List Nat} {p : Nat} (hp : p ≤ x.length) : Txt.startswith3 (Sx x) (Sx t) (p : Int) = decide ((x.drop p).take t.length = t) := by
  unfold Txt.startswith3
  rw [from_nat, StrLaws.subAt_eq]
  simp only [Sx_len, Sx_cps]
  by_cases h : (x.drop p).take t.length = t
  · have := congrArg List.length h
    rw [List.length_take, List.length_drop] at this
    rw [decide_eq_true h, h, decide_eq_true (by omega)]
    simp
  · rw [decide_eq_false h]
    simp [h]
theorem entries_ok {us : List Ent} {x : List Nat} {p : Nat} (hu : us.length ≤ 1000) (hp : p ≤ x.length) (hx : x.length ≤ 100000) (h8 : ∀ e ∈ us, e.1.length ≤ 8 ∧ e.2.length ≤ 8) :
    G_entries_on [(false, dicD us), (false, tx x), (false, .int (p : Nat))] = some ((true, .lst ((gr us x p).map trD)), [(false, .non), (false, .non), (false, .non)]) := by
  have l1 : ∀ s3, lcF [4, 5] (gTupD 2 (gsCons (gN 4) (gsCons (gN 5) gsNil))) (fAndT (fB (f2 neF (f2 ixD (fVar 5) (fC (.int 1))) (fC (.str "")))) (fB (fRead "str" (m2S fun a b i => .bl (Txt.startswith3 a b i)) (fVar 1) (fCons (f2 ixD (fVar 5) (fC (.int 1))) (fCons (fVar 2) fNil))))) (fVar 4)
      ((numE 0 us).map fun a => .tup [.int (a.1 : Nat), ent a.2]) [] [some ⟨false, false, dicD us⟩, some ⟨false, false, tx x⟩, some ⟨false, false, .int (p : Nat)⟩, s3, none, none] = some (((numE 0 us).filter (hit x p)).map fun a => .int (a.1 : Nat), [some ⟨false, false, dicD us⟩, some ⟨false, false, tx x⟩, some ⟨false, false, .int (p : Nat)⟩, s3, none, none]) := by
    intro s3
    refine lcF_fi _ _ _ _ (by rw [sz, numE_len]; omega) fun a _ => ?_
    by_cases h1 : a.2.2 = []
    · simp [turnF, ent, str_empty, h1, hit]
    · by_cases h2 : (x.drop p).take a.2.2.length = a.2.2
      · simp [turnF, ent, str_empty, h1, hit, m2S, sw_eq hp, h2]
      · simp [turnF, ent, str_empty, h1, hit, m2S, sw_eq hp, h2]
  have l2 : ∀ s3, lcF [4] (gN 4) fYes (fTup (fCons (fVar 4) (fCons (fBlt lenD (qCons (f2 ixD (f2 ixD (fVar 0) (fVar 4)) (fC (.int 0))) qNil)) (fCons (f2 addD (fVar 2) (fBlt lenD (qCons (f2 ixD (f2 ixD (fVar 0) (fVar 4)) (fC (.int 1))) qNil))) fNil))))
      (((numE 0 us).filter (hit x p)).map fun a => .int (a.1 : Nat)) [] [some ⟨false, false, dicD us⟩, some ⟨false, false, tx x⟩, some ⟨false, false, .int (p : Nat)⟩, s3, none, none] = some (((numE 0 us).filter (hit x p)).map fun a => trD (a.1, a.2.1, p + a.2.2.length), [some ⟨false, false, dicD us⟩, some ⟨false, false, tx x⟩, some ⟨false, false, .int (p : Nat)⟩, s3, none, none]) := by
    intro s3
    refine lcF_ma _ _ _ (by
      have := List.length_filter_le (hit x p) (numE 0 us)
      rw [numE_len] at this
      rw [sz]; omega) fun a ha => ?_
    have ha := (List.mem_filter.mp ha).1
    obtain ⟨_, h1⟩ := numE_get ha
    rw [Nat.sub_zero] at h1
    have h2 : a.2 ∈ us := List.mem_of_getElem? h1
    have h3 : atI (us.map ent) ((a.1 : Nat) : Int) = some (ent a.2) := atI_n (by rw [List.getElem?_map, h1]; rfl)
    have h4 := h8 _ h2
    have h5 : a.2.1.length ≤ 16777216 := by omega
    have h6 : a.2.2.length ≤ 16777216 := by omega
    simp [turnF, dicD, h3, ent, h5, h6, trD, sz]
  have nu : numD 0 (us.map ent) = _ := numD_ent us 0
  have en : enumD [dicD us] = some ((numE 0 us).map fun a => .tup [.int (a.1 : Nat), ent a.2]) := by rw [← nu]; rfl
  unfold gr
  rw [List.map_map]
  simp [G_entries_on, S_entries_on, outs_eq, en, l1, l2, Function.comp_def, -List.map_map]
end DD

namespace DD
open PySem PySem.Spec PyProof.Rows L2
/-! ### ways through a text, in plain Lean -/
structure Gr (g : Nat → List Tr) (L : Nat) : Prop where
  up : ∀ p, ∀ a ∈ g p, p < a.2.2 ∧ a.2.2 ≤ L
  o8 : ∀ p, ∀ a ∈ g p, 1 ≤ a.2.1.length ∧ a.2.1.length ≤ 8
theorem gr_ok {us : List Ent} {x : List Nat} (h : Dic us) : Gr (gr us x) x.length := by
  have mem : ∀ p, ∀ a ∈ gr us x p, ∃ b ∈ numE 0 us, hit x p b = true ∧ a = (b.1, b.2.1, p + b.2.2.length) := by
    intro p a ha
    obtain ⟨b, hb, rfl⟩ := List.mem_map.mp ha
    obtain ⟨h1, h2⟩ := List.mem_filter.mp hb
    exact ⟨b, h1, h2, rfl⟩
  constructor
  · intro p a ha
    obtain ⟨b, h1, h2, rfl⟩ := mem p a ha
    unfold hit at h2
    simp only [Bool.and_eq_true, decide_eq_true_eq] at h2
    have h3 := List.length_pos_iff.mpr h2.1
    have h4 := congrArg List.length h2.2
    rw [List.length_take, List.length_drop] at h4
    dsimp only
    omega
  · intro p a ha
    obtain ⟨b, h1, h2, rfl⟩ := mem p a ha
    have h3 := (numE_get h1).2
    exact h.o1 _ (List.mem_of_getElem? h3)
def pth (g : Nat → List Tr) (L : Nat) : Nat → Nat → List (List Tr)
  | 0, p => if p = L then [[]] else []
  | n + 1, p => if p = L then [[]] else (g p).flatMap fun a => (pth g L n a.2.2).map (a :: ·)
def P (g : Nat → List Tr) (L p : Nat) : List (List Tr) := pth g L (L - p) p
section
variable {g : Nat → List Tr} {L : Nat}
theorem flatMap_ext {α β : Type} {f k : α → List β} : ∀ {l : List α}, (∀ a ∈ l, f a = k a) → l.flatMap f = l.flatMap k
  | [], _ => rfl
  | a :: l, h => by
    rw [List.flatMap_cons, List.flatMap_cons, h a List.mem_cons_self, flatMap_ext fun b hb => h b (List.mem_cons_of_mem _ hb)]
theorem pth_eq (hg : Gr g L) : ∀ (n m p : Nat), L - p ≤ n → L - p ≤ m → p ≤ L → pth g L n p = pth g L m p
  | 0, 0, p, _, _, _ => rfl
  | 0, m + 1, p, h1, _, h3 => by
    have : p = L := by omega
    rw [pth, pth, if_pos this, if_pos this]
  | n + 1, 0, p, _, h2, h3 => by
    have : p = L := by omega
    rw [pth, pth, if_pos this, if_pos this]
  | n + 1, m + 1, p, h1, h2, h3 => by
    rw [pth, pth]
    by_cases h : p = L
    · rw [if_pos h, if_pos h]
    · rw [if_neg h, if_neg h]
      refine flatMap_ext fun a ha => ?_
      have := hg.up p a ha
      rw [pth_eq hg n m a.2.2 (by omega) (by omega) this.2]
theorem P_L : P g L L = [[]] := by
  unfold P
  rw [Nat.sub_self, pth, if_pos rfl]
theorem P_lt (hg : Gr g L) {p : Nat} (h : p < L) : P g L p = (g p).flatMap fun a => (P g L a.2.2).map (a :: ·) := by
  unfold P
  obtain ⟨n, hn⟩ : ∃ n, L - p = n + 1 := ⟨L - p - 1, by omega⟩
  rw [hn, pth, if_neg (by omega)]
  refine flatMap_ext fun a ha => ?_
  have := hg.up p a ha
  rw [pth_eq hg n (L - a.2.2) a.2.2 (by omega) (by omega) this.2]
theorem P_ind {C : Nat → Prop} (h : ∀ p, p ≤ L → (∀ q, p < q → q ≤ L → C q) → C p) : ∀ p, p ≤ L → C p := by
  have : ∀ n p, p ≤ L → L - p ≤ n → C p := by
    intro n
    induction n with
    | zero => exact fun p hp hn => h p hp fun q h1 h2 => by omega
    | succ n ih => exact fun p hp hn => h p hp fun q h1 h2 => ih q h2 (by omega)
  exact fun p hp => this (L - p) p hp (Nat.le_refl _)
/-! how many -/
def B (g : Nat → List Tr) (L p : Nat) : Nat := (P g L p).length
theorem B_L : B g L L = 1 := by unfold B; rw [P_L]; rfl
theorem len_flat {α β γ : Type} {c : α → List β} {k : α → β → γ} : ∀ l : List α, (l.flatMap fun a => (c a).map (k a)).length = (l.map fun a => (c a).length).sum
  | [] => rfl
  | a :: l => by rw [List.flatMap_cons, List.length_append, List.length_map, len_flat l, List.map_cons, List.sum_cons]
theorem B_lt (hg : Gr g L) {p : Nat} (h : p < L) : B g L p = ((g p).map fun a => B g L a.2.2).sum := by
  unfold B
  rw [P_lt hg h, len_flat]
/-! how few strokes -/
def cost (r : List Tr) : Nat := (r.map fun a => a.2.1.length).sum
def row (r : List Tr) : List Nat := (r.map fun a => a.2.1).flatten
theorem row_len (r : List Tr) : (row r).length = cost r := by
  unfold row cost
  induction r with
  | nil => rfl
  | cons a r ih => simp only [List.map_cons, List.flatten_cons, List.length_append, List.sum_cons, ih]
def mn : List Nat → Nat
  | [] => 1000000
  | a :: l => min a (mn l)
theorem mn_le {l : List Nat} : mn l ≤ 1000000 := by
  induction l with
  | nil => exact Nat.le_refl _
  | cons a l ih => rw [mn]; omega
theorem mn_mem {l : List Nat} {a : Nat} (h : a ∈ l) : mn l ≤ a := by
  induction l with
  | nil => cases h
  | cons b l ih =>
    rw [mn]
    rcases List.mem_cons.mp h with rfl | h
    · omega
    · have := ih h; omega
theorem mn_in {l : List Nat} (h : mn l < 1000000) : mn l ∈ l := by
  induction l with
  | nil => rw [mn] at h; omega
  | cons b l ih =>
    rw [mn] at h ⊢
    by_cases hb : b ≤ mn l
    · rw [Nat.min_eq_left hb]; exact List.mem_cons_self
    · rw [Nat.min_eq_right (by omega)] at h ⊢
      exact List.mem_cons_of_mem _ (ih h)
theorem mn_app {l k : List Nat} : mn (l ++ k) = min (mn l) (mn k) := by
  induction l with
  | nil => rw [List.nil_append, mn]; have := mn_le (l := k); omega
  | cons b l ih => rw [List.cons_append, mn, mn, ih]; omega
theorem mn_add {l : List Nat} {c : Nat} : mn (l.map (c + ·)) = min 1000000 (c + mn l) := by
  induction l with
  | nil => rw [List.map_nil, mn]; omega
  | cons b l ih => rw [List.map_cons, mn, mn, ih]; omega
def best (g : Nat → List Tr) (L p : Nat) : Nat := mn ((P g L p).map cost)
theorem best_L : best g L L = 0 := by unfold best; rw [P_L]; rfl
theorem best_le : best g L p ≤ 1000000 := mn_le
theorem best_flat {c : Tr → List (List Tr)} : ∀ l : List Tr, mn ((l.flatMap fun a => (c a).map (a :: ·)).map cost) = mn (l.map fun a => a.2.1.length + mn ((c a).map cost))
  | [] => rfl
  | a :: l => by
    rw [List.flatMap_cons, List.map_append, mn_app, best_flat l, List.map_cons, mn]
    have : ((c a).map (a :: ·)).map cost = ((c a).map cost).map (a.2.1.length + ·) := by
      rw [List.map_map, List.map_map]
      rfl
    rw [this, mn_add]
    have := mn_le (l := l.map fun a => a.2.1.length + mn ((c a).map cost))
    omega
theorem best_lt (hg : Gr g L) {p : Nat} (h : p < L) : best g L p = mn ((g p).map fun a => a.2.1.length + best g L a.2.2) := by
  unfold best
  rw [P_lt hg h, best_flat]
theorem best_mem {p : Nat} {r : List Tr} (h : r ∈ P g L p) : best g L p ≤ cost r := mn_mem (List.mem_map.mpr ⟨r, h, rfl⟩)
theorem best_in {p : Nat} (h : best g L p < 1000000) : ∃ r ∈ P g L p, cost r = best g L p := by
  obtain ⟨r, h1, h2⟩ := List.mem_map.mp (mn_in h)
  exact ⟨r, h1, h2⟩
theorem P_mem (hg : Gr g L) {p : Nat} (h : p < L) {r : List Tr} : r ∈ P g L p ↔ ∃ a ∈ g p, ∃ r' ∈ P g L a.2.2, r = a :: r' := by
  rw [P_lt hg h, List.mem_flatMap]
  constructor
  · rintro ⟨a, h1, h2⟩
    obtain ⟨r', h3, h4⟩ := List.mem_map.mp h2
    exact ⟨a, h1, r', h3, h4.symm⟩
  · rintro ⟨a, h1, r', h3, rfl⟩
    exact ⟨a, h1, List.mem_map.mpr ⟨r', h3, rfl⟩⟩
theorem cost_le (hg : Gr g L) : ∀ p, p ≤ L → ∀ r ∈ P g L p, cost r ≤ 8 * (L - p) ∧ (L - p) = 0 + (L - p) := by
  refine P_ind fun p hp ih r hr => ?_
  by_cases h : p = L
  · subst h
    rw [P_L] at hr
    rw [List.mem_singleton.mp hr]
    exact ⟨Nat.zero_le _, by omega⟩
  · obtain ⟨a, h1, r', h2, rfl⟩ := (P_mem hg (by omega)).mp hr
    have h3 := hg.up p a h1
    have h4 := (ih a.2.2 h3.1 h3.2 r' h2).1
    have h5 := hg.o8 p a h1
    have : cost (a :: r') = a.2.1.length + cost r' := rfl
    omega
theorem best_iff (hg : Gr g L) (hL : L ≤ 100000) {p : Nat} (hp : p ≤ L) : best g L p < 1000000 ↔ P g L p ≠ [] := by
  constructor
  · intro h e
    obtain ⟨r, h1, _⟩ := best_in h
    rw [e] at h1
    cases h1
  · intro h
    obtain ⟨r, hr⟩ := List.exists_mem_of_ne_nil _ h
    have h1 := best_mem hr
    have h2 := (cost_le hg p hp r hr).1
    omega
theorem best_b (hg : Gr g L) (hL : L ≤ 100000) {p : Nat} (hp : p ≤ L) : best g L p ≤ 8 * (L - p) ∨ best g L p = 1000000 := by
  by_cases h : best g L p < 1000000
  · obtain ⟨r, h1, h2⟩ := best_in h
    have := (cost_le hg p hp r h1).1
    left; omega
  · right
    have := best_le (g := g) (L := L) (p := p)
    omega
end
end DD

namespace DD
open PySem PySem.Spec PyProof.Rows L2
/-! ### tables, loops, free slots -/
def Fr : Option Slot → Prop
  | none => True
  | some s => s.lent = false
@[simp] theorem fr_none : Fr none = True := propext ⟨fun _ => trivial, fun _ => trivial⟩
@[simp] theorem fr_some {l o : Bool} {d : D} : Fr (some ⟨l, o, d⟩) = (l = false) := propext ⟨fun h => h, fun h => h⟩
def FrAt (e : DEnv) (i : Nat) : Prop := match e[i]? with
  | some s => Fr s
  | none => False
@[simp] theorem frAt_0 {s : Option Slot} {e : DEnv} : FrAt (s :: e) 0 = Fr s := propext ⟨fun h => h, fun h => h⟩
@[simp] theorem frAt_s {s : Option Slot} {e : DEnv} {i : Nat} : FrAt (s :: e) (i + 1) = FrAt e i := propext ⟨fun h => h, fun h => h⟩
@[simp] theorem frAt_1 {s : Option Slot} {e : DEnv} : FrAt (s :: e) 1 = FrAt e 0 := propext ⟨fun h => h, fun h => h⟩
@[simp] theorem frAt_2 {s : Option Slot} {e : DEnv} : FrAt (s :: e) 2 = FrAt e 1 := propext ⟨fun h => h, fun h => h⟩
@[simp] theorem frAt_3 {s : Option Slot} {e : DEnv} : FrAt (s :: e) 3 = FrAt e 2 := propext ⟨fun h => h, fun h => h⟩
@[simp] theorem frAt_4 {s : Option Slot} {e : DEnv} : FrAt (s :: e) 4 = FrAt e 3 := propext ⟨fun h => h, fun h => h⟩
@[simp] theorem frAt_5 {s : Option Slot} {e : DEnv} : FrAt (s :: e) 5 = FrAt e 4 := propext ⟨fun h => h, fun h => h⟩
@[simp] theorem frAt_6 {s : Option Slot} {e : DEnv} : FrAt (s :: e) 6 = FrAt e 5 := propext ⟨fun h => h, fun h => h⟩
@[simp] theorem frAt_7 {s : Option Slot} {e : DEnv} : FrAt (s :: e) 7 = FrAt e 6 := propext ⟨fun h => h, fun h => h⟩
@[simp] theorem frAt_8 {s : Option Slot} {e : DEnv} : FrAt (s :: e) 8 = FrAt e 7 := propext ⟨fun h => h, fun h => h⟩
@[simp] theorem frAt_9 {s : Option Slot} {e : DEnv} : FrAt (s :: e) 9 = FrAt e 8 := propext ⟨fun h => h, fun h => h⟩
theorem st_fr {e : DEnv} {i : Nat} {t : T} (f : FrAt e i) : stT i t e = stT1 i t e := by
  unfold FrAt at f
  rw [r_stT]
  cases h : e[i]? with
  | none => rw [h] at f; cases f
  | some s =>
    rw [h] at f
    cases s with
    | none => rfl
    | some s =>
      obtain ⟨l, o, d⟩ := s
      have : l = false := f
      subst this
      rfl
theorem loop_rng {g : GD} {S : FS} (k : Nat → D) (I : Nat → DEnv → Prop) (n : Nat) {e : DEnv} (h0 : I 0 e) (h : ∀ i e, i < n → I i e → ∃ e1 e2, g (k i) e = some e1 ∧ S e1 = some (.nx e2) ∧ I (i + 1) e2) : ∃ e', loopF g S ((List.range n).map k) e = some (.nx e') ∧ I n e' := by
  have : ∀ m j e, I j e → j + m = n → ∃ e', loopF g S ((List.range' j m).map k) e = some (.nx e') ∧ I n e' := by
    intro m
    induction m with
    | zero => intro j e hi hj; exact ⟨e, rfl, by rw [show n = j by omega]; exact hi⟩
    | succ m ih =>
      intro j e hi hj
      obtain ⟨e1, e2, h1, h2, h3⟩ := h j e (by omega) hi
      obtain ⟨e', h4, h5⟩ := ih (j + 1) e2 h3 (by omega)
      refine ⟨e', ?_, h5⟩
      rw [List.range'_succ, List.map_cons, loopF, h1]
      dsimp only
      rw [h2]
      exact h4
  have := this n 0 e h0 (by omega)
  rwa [← List.range_eq_range'] at this
theorem loop_fold {α β : Type} {g : GD} {S : FS} (k : α → D) (I : β → DEnv → Prop) (st : β → α → β) : ∀ (as : List α) (b : β) (e : DEnv), I b e → (∀ b a e, a ∈ as → I b e → ∃ e1 e2, g (k a) e = some e1 ∧ S e1 = some (.nx e2) ∧ I (st b a) e2) → ∃ e', loopF g S (as.map k) e = some (.nx e') ∧ I (as.foldl st b) e'
  | [], b, e, h, _ => ⟨e, rfl, h⟩
  | a :: as, b, e, h, hs => by
    obtain ⟨e1, e2, h1, h2, h3⟩ := hs b a e List.mem_cons_self h
    obtain ⟨e', h4, h5⟩ := loop_fold k I st as (st b a) e2 h3 fun b a' e ha => hs b a' e (List.mem_cons_of_mem _ ha)
    refine ⟨e', ?_, h5⟩
    rw [List.map_cons, loopF, h1]
    dsimp only
    rw [h2]
    exact h4
def tabL (n : Nat) (f : Nat → Nat) : List D := (List.range n).map fun p => .int (f p : Nat)
@[simp] theorem tab_len (n : Nat) (f : Nat → Nat) : (tabL n f).length = n := by simp [tabL]
theorem tab_ext {n : Nat} {f k : Nat → Nat} (h : ∀ p, p < n → f p = k p) : tabL n f = tabL n k := by
  unfold tabL
  exact List.map_congr_left fun p hp => by rw [h p (List.mem_range.mp hp)]
theorem tab_at {n p : Nat} {f : Nat → Nat} (h : p < n) : atI (tabL n f) (p : Int) = some (.int (f p : Nat)) := atI_n (by
  unfold tabL
  rw [List.getElem?_map, List.getElem?_range h]; rfl)
theorem ix_n {n p : Nat} (h : p < n) : ixN n (p : Int) = some p := by
  unfold ixN
  rw [if_pos (by omega), if_pos (by omega), Int.toNat_natCast]
theorem at_last {α : Type} {xs : List α} {x : α} : atI (xs ++ [x]) (-1) = some x := by
  unfold atI ixN
  rw [if_neg (by omega), if_pos (by rw [List.length_append, List.length_singleton]; omega)]
  rw [Option.bind_some, List.length_append, List.length_singleton, show (-1 + ((xs.length + 1 : Nat) : Int)).toNat = xs.length by omega]
  simp
theorem tab_last {n : Nat} {f : Nat → Nat} : atI (tabL (n + 1) f) (-1) = some (.int (f n : Nat)) := by
  unfold tabL
  rw [List.range_succ, List.map_append]
  exact at_last
def upd1 (f : Nat → Nat) (p v : Nat) : Nat → Nat := fun q => if q = p then v else f q
theorem tab_set {n p v : Nat} {f : Nat → Nat} : (tabL n f).set p (.int (v : Nat)) = tabL n (upd1 f p v) := by
  apply List.ext_getElem?
  intro q
  unfold tabL upd1
  rw [List.getElem?_set]
  simp only [List.length_map, List.length_range, List.getElem?_map]
  by_cases h : p = q
  · subst h
    by_cases h2 : p < n
    · simp [h2]
    · simp [h2]
  · rw [if_neg h]
    by_cases h2 : q < n
    · rw [List.getElem?_range h2]
      simp [Ne.symm h]
    · simp [h2]
theorem tab_rep {n : Nat} (c : Nat) : List.replicate n (D.int (c : Nat)) = tabL n fun _ => c := by
  unfold tabL
  rw [List.map_const']
  simp
theorem rep_flat {n : Nat} {d : D} : (List.replicate n [d]).flatten = List.replicate n d := by
  induction n with
  | zero => rfl
  | succ n ih => rw [List.replicate_succ, List.flatten_cons, ih, List.replicate_succ]; rfl
theorem min_ints (n : Int) (ns : List Int) : minOf [.lst (.int n :: ns.map .int)] = some (.sh (.int (ns.foldl min n))) := by
  have e : (D.int n :: ns.map D.int) = (n :: ns).map D.int := rfl
  have h : bestD PySem.W.minD (.int n :: ns.map .int) = some (.int (ns.foldl min n)) := by
    unfold bestD
    dsimp only
    rw [if_pos, pyL_map, List.map_map]
    · have := PySem.W.minD_ints n ns
      have e2 : (ns.map (py ∘ D.int)) = ns.map PyData.int := rfl
      rw [e2]
      show ofPy (PySem.W.minD (.int n) _) = _
      rw [this]
      rfl
    · refine ⟨by rw [e]; exact flatL_map (fun _ => rfl) _, ?_, ?_, ?_⟩
      · rw [e]; unfold alikes
        simp only [List.all_map, List.all_eq_true, Function.comp]
        intro a _ b _
        rfl
      · rw [e]; unfold noNone
        simp only [List.all_map, List.all_eq_true, Function.comp]
        intro a _
        rfl
      · rw [e, pyL_map, List.map_map]
        have : ∀ l : List Int, PyData.depthAll (l.map (py ∘ D.int)) = 0 := by
          intro l
          induction l with
          | nil => rfl
          | cons a l ih =>
            rw [List.map_cons, PyData.depthAll, ih]
            rfl
        rw [this]; omega
  show (bestD PySem.W.minD _).map _ = _
  rw [h]; rfl
theorem fold_mn : ∀ (l : List Nat) (n : Nat), (l.map fun a => ((a : Nat) : Int)).foldl min (n : Int) = ((l.foldl min n : Nat) : Int)
  | [], n => rfl
  | a :: l, n => by
    rw [List.map_cons, List.foldl_cons, List.foldl_cons, ← fold_mn l]
    congr 1
    omega
theorem fold_min : ∀ (l : List Nat) (n : Nat), n ≤ 1000000 → l.foldl min n = min n (mn l)
  | [], n, h => by rw [List.foldl_nil, mn]; omega
  | a :: l, n, h => by
    rw [List.foldl_cons, fold_min l _ (by omega), mn]
    omega
theorem min_mn (l : List Nat) : minOf [.lst (.int 1000000 :: l.map fun n => .int (n : Nat))] = some (.sh (.int (mn l : Nat))) := by
  have h := min_ints 1000000 (l.map fun a => ((a : Nat) : Int))
  rw [List.map_map] at h
  have e : (l.map (D.int ∘ fun a => ((a : Nat) : Int))) = l.map fun n => .int (n : Nat) := rfl
  rw [e] at h
  rw [h]
  have := fold_mn l 1000000
  rw [fold_min l _ (Nat.le_refl _), Nat.min_eq_right mn_le] at this
  exact congrArg (fun i => some (T.sh (D.int i))) this
end DD

namespace DD
open PySem PySem.Spec PyProof.Rows L2
theorem strokes_ok {us : List Ent} {x : List Nat} (h : Dic us) (hx : x.length ≤ 2000) :
    G_strokes_on [(false, dicD us), (false, tx x)] = some ((true, .lst (tabL (x.length + 1) (best (gr us x) x.length))), [(false, .non), (false, .non)]) := by
  have hg := gr_ok (x := x) h
  have h8 : ∀ e ∈ us, e.1.length ≤ 8 ∧ e.2.length ≤ 8 := fun e he => ⟨(h.o1 e he).2, h.t8 e he⟩
  have hu : us.length ≤ 1000 := by have := h.few; omega
  obtain ⟨e', l1, s3, s4, f3, f4, rfl⟩ := loop_rng (g := gN 3) (S := (sSeq (sSet 4 (fLc (fIter (fCall G_entries_on (aCons (fVar 0) (aCons (fVar 1) (aCons (fVar 3) aNil))))) [5, 6, 7] (gTupD 3 (gsCons (gN 5) (gsCons (gN 6) (gsCons (gN 7) gsNil)))) fYes (f2 addD (fVar 6) (f2 ixD (fVar 2) (fVar 7)))))
  (sSeq (sPut (fBlt minOf (qCons (fLst (fCons (fC (.int 1000000)) (fStar (fVar 4) fNil))) qNil)) (fVar 2) (fVar 3))
  sNil))) (fun i => .int (((x.length : Nat) : Int) - 1 + (i : Int) * (-1)))
    (fun i e => ∃ s3 s4, Fr s3 ∧ Fr s4 ∧ e = [some ⟨false, false, dicD us⟩, some ⟨false, false, tx x⟩, some ⟨false, true, .lst (tabL (x.length + 1) fun p => if p < x.length - i then 1000000 else best (gr us x) x.length p)⟩, s3, s4, none, none, none]) x.length
    (e := [some ⟨false, false, dicD us⟩, some ⟨false, false, tx x⟩, some ⟨false, true, .lst (tabL (x.length + 1) fun p => if p < x.length then 1000000 else best (gr us x) x.length p)⟩, none, none, none, none, none]) ⟨none, none, trivial, trivial, rfl⟩ (by
      rintro i e hi ⟨s3, s4, f3, f4, rfl⟩
      obtain ⟨p, hp, hpi⟩ : ∃ p : Nat, p < x.length ∧ ((x.length : Nat) : Int) - 1 + (i : Int) * (-1) = (p : Nat) := ⟨x.length - 1 - i, by omega, by omega⟩
      have pi : p = x.length - 1 - i := by omega
      have ek := entries_ok (us := us) (x := x) (p := p) hu (by omega) (by omega) h8
      have lc : ∀ s3 s4 : Option Slot, lcF [5, 6, 7] (gTupD 3 (gsCons (gN 5) (gsCons (gN 6) (gsCons (gN 7) gsNil)))) fYes (f2 addD (fVar 6) (f2 ixD (fVar 2) (fVar 7))) ((gr us x p).map trD) []
          [some ⟨false, false, dicD us⟩, some ⟨false, false, tx x⟩, some ⟨false, true, .lst (tabL (x.length + 1) fun p => if p < x.length - i then 1000000 else best (gr us x) x.length p)⟩, s3, s4, none, none, none] =
          some ((gr us x p).map fun a => .int ((a.2.1.length + best (gr us x) x.length a.2.2 : Nat) : Int), [some ⟨false, false, dicD us⟩, some ⟨false, false, tx x⟩, some ⟨false, true, .lst (tabL (x.length + 1) fun p => if p < x.length - i then 1000000 else best (gr us x) x.length p)⟩, s3, s4, none, none, none]) := by
        intro s3 s4
        refine lcF_ma _ _ _ ?_ fun a ha => ?_
        · unfold gr
          have := List.length_filter_le (hit x p) (numE 0 us)
          rw [numE_len] at this
          rw [List.length_map, sz]; omega
        · have u := hg.up p a ha
          have t := tab_at (n := x.length + 1) (p := a.2.2) (f := fun p => if p < x.length - i then 1000000 else best (gr us x) x.length p) (by omega)
          rw [if_neg (by omega)] at t
          simp [turnF, trD, t]
      have mm := min_mn ((gr us x p).map fun a => a.2.1.length + best (gr us x) x.length a.2.2)
      rw [← best_lt hg hp, List.map_map] at mm
      have lenk : (gr us x p).length ≤ 1000 := by
        unfold gr
        have := List.length_filter_le (hit x p) (numE 0 us)
        rw [numE_len] at this
        rw [List.length_map]; omega
      have lenk2 : (gr us x p).length + 1 ≤ 16777216 := by omega
      have ip := ix_n (n := x.length + 1) (p := p) (by omega)
      push_cast at ip
      have ts : (tabL (x.length + 1) fun p => if p < x.length - i then 1000000 else best (gr us x) x.length p).set p (.int ((best (gr us x) x.length p : Nat) : Int)) = tabL (x.length + 1) fun p => if p < x.length - (i + 1) then 1000000 else best (gr us x) x.length p := by
        rw [tab_set]
        refine tab_ext fun q hq => ?_
        unfold upd1
        by_cases w : q = p
        · rw [if_pos w, w, if_neg (by omega)]
        · rw [if_neg w]
          by_cases w2 : q < x.length - (i + 1)
          · rw [if_pos w2]; exact if_pos (by omega)
          · rw [if_neg w2]; exact if_neg (by omega)
      simp only [Function.comp_def] at mm
      have vlen : ((gr us x p).map fun a => D.int ((a.2.1.length + best (gr us x) x.length a.2.2 : Nat) : Int)).length + 1 ≤ 16777216 := by rw [List.length_map]; exact lenk2
      generalize ((gr us x p).map fun a => D.int ((a.2.1.length + best (gr us x) x.length a.2.2 : Nat) : Int)) = vl at lc mm vlen
      refine ⟨_, _, by simp only [hpi, r_gN]; rw [st_fr (by simp [f3])]; simp; rfl, ?_, some ⟨false, false, .int (p : Nat)⟩, some ⟨false, true, .lst vl⟩, rfl, rfl, rfl⟩
      simp [ek, lc, mm, st_fr, f4, ip, ts, sz, vlen, -r_stT, -List.map_map])
  have l0 : addD (.lst (List.replicate x.length (.int 1000000))) (.lst [.int 0]) = some (.ow (.lst (tabL (x.length + 1) fun p => if p < x.length then 1000000 else best (gr us x) x.length p))) := by
    have : tabL (x.length + 1) (fun p => if p < x.length then 1000000 else best (gr us x) x.length p) = List.replicate x.length (.int 1000000) ++ [.int 0] := by
      rw [show List.replicate x.length (D.int 1000000) = List.replicate x.length (D.int ((1000000 : Nat) : Int)) from rfl, tab_rep]
      unfold tabL
      rw [List.range_succ, List.map_append]
      congr 1
      · exact List.map_congr_left fun p hp => by dsimp only; rw [if_pos (List.mem_range.mp hp)]
      · simp [best_L]
    rw [this, o_addL, if_pos]
    simp [sz]; omega
  have m0 : mulF (.lst [.int 1000000]) (.int (x.length : Nat)) = some (.ow (.lst (List.replicate x.length (.int 1000000)))) := by
    rw [o_mulL, if_pos (by simp [sz]; omega), Int.toNat_natCast, rep_flat]
  have e1 : tabL (x.length + 1) (fun p => if p < x.length - x.length then 1000000 else best (gr us x) x.length p) = tabL (x.length + 1) (best (gr us x) x.length) := tab_ext fun p hp => if_neg (by omega)
  have r3 : rng3 [.int (((x.length : Nat) : Int) - 1), .int (-1), .int (-1)] = some ((List.range x.length).map fun i => .int (((x.length : Nat) : Int) - 1 + ((i : Nat) : Int) * (-1))) := by
    rw [g_3, if_pos (by simp; omega)]
    unfold rangeC
    rw [show ((((x.length : Nat) : Int) - 1 - -1).toNat) = x.length by omega]
  have hl : x.length ≤ 16777216 := by omega
  rw [e1] at l1
  generalize ((List.range x.length).map fun i => D.int (((x.length : Nat) : Int) - 1 + ((i : Nat) : Int) * (-1))) = rs at l1 r3
  simp [G_strokes_on, S_strokes_on, outs_eq, m0, l0, r3, l1, sz, hl]
end DD

namespace DD
open PySem PySem.Spec PyProof.Rows L2
/-! ### forward: how many, how few -/
def sm : Nat → Nat → (Nat → Nat) → Nat
  | _, 0, _ => 0
  | k, n + 1, w => w k + sm (k + 1) n w
def ms : Nat → Nat → (Nat → Nat) → Nat
  | _, 0, _ => 1000000
  | k, n + 1, w => min (w k) (ms (k + 1) n w)
theorem sm_ext : ∀ {n k : Nat} {w v : Nat → Nat}, (∀ q, k ≤ q → q < k + n → w q = v q) → sm k n w = sm k n v
  | 0, _, _, _, _ => rfl
  | n + 1, k, w, v, h => by
    rw [sm, sm, h k (Nat.le_refl _) (by omega), sm_ext fun q a b => h q (by omega) (by omega)]
theorem ms_ext : ∀ {n k : Nat} {w v : Nat → Nat}, (∀ q, k ≤ q → q < k + n → w q = v q) → ms k n w = ms k n v
  | 0, _, _, _, _ => rfl
  | n + 1, k, w, v, h => by
    rw [ms, ms, h k (Nat.le_refl _) (by omega), ms_ext fun q a b => h q (by omega) (by omega)]
theorem ms_le : ∀ {n k : Nat} {w : Nat → Nat}, ms k n w ≤ 1000000
  | 0, _, _ => Nat.le_refl _
  | n + 1, k, w => by rw [ms]; have := ms_le (n := n) (k := k + 1) (w := w); omega
theorem sm_upd {f b : Nat → Nat} {q c : Nat} : ∀ {n k : Nat}, k ≤ q → q < k + n → sm k n (fun r => upd1 f q (f q + c) r * b r) = sm k n (fun r => f r * b r) + c * b q
  | 0, k, h1, h2 => by omega
  | n + 1, k, h1, h2 => by
    rw [sm, sm]
    by_cases h : k = q
    · subst h
      have : sm (k + 1) n (fun r => upd1 f k (f k + c) r * b r) = sm (k + 1) n (fun r => f r * b r) := sm_ext fun r h3 _ => by
        unfold upd1
        rw [if_neg (by omega)]
      rw [this]
      unfold upd1
      rw [if_pos rfl, Nat.add_mul]
      omega
    · rw [sm_upd (n := n) (k := k + 1) (by omega) (by omega)]
      have : upd1 f q (f q + c) k = f k := if_neg h
      rw [this]
      omega
theorem ms_upd {f b : Nat → Nat} {q c : Nat} : ∀ {n k : Nat}, k ≤ q → q < k + n → ms k n (fun r => upd1 f q (min (f q) c) r + b r) = min (ms k n (fun r => f r + b r)) (c + b q)
  | 0, k, h1, h2 => by omega
  | n + 1, k, h1, h2 => by
    rw [ms, ms]
    by_cases h : k = q
    · subst h
      have : ms (k + 1) n (fun r => upd1 f k (min (f k) c) r + b r) = ms (k + 1) n (fun r => f r + b r) := ms_ext fun r h3 _ => by
        unfold upd1
        rw [if_neg (by omega)]
      rw [this]
      unfold upd1
      rw [if_pos rfl]
      omega
    · rw [ms_upd (n := n) (k := k + 1) (by omega) (by omega)]
      have : upd1 f q (min (f q) c) k = f k := if_neg h
      rw [this]
      omega
section
variable {g : Nat → List Tr} {L : Nat}
def wOn (p : Nat) (f : Nat → Nat) (a : Tr) : Nat → Nat := upd1 f a.2.2 (f a.2.2 + f p)
def lOn (p : Nat) (f : Nat → Nat) (a : Tr) : Nat → Nat := upd1 f a.2.2 (min (f a.2.2) (f p + a.2.1.length))
theorem wOn_p {p : Nat} : ∀ {as : List Tr} {f : Nat → Nat}, (∀ a ∈ as, p < a.2.2) → as.foldl (wOn p) f p = f p
  | [], _, _ => rfl
  | a :: as, f, h => by
    rw [List.foldl_cons, wOn_p fun b hb => h b (List.mem_cons_of_mem _ hb)]
    have := h a List.mem_cons_self
    exact if_neg (by omega)
theorem wOn_sum {p n : Nat} {b : Nat → Nat} : ∀ {as : List Tr} {f : Nat → Nat}, (∀ a ∈ as, p < a.2.2 ∧ a.2.2 < p + 1 + n) → sm (p + 1) n (fun r => as.foldl (wOn p) f r * b r) = sm (p + 1) n (fun r => f r * b r) + f p * (as.map fun a => b a.2.2).sum
  | [], _, _ => by simp
  | a :: as, f, h => by
    have ha := h a List.mem_cons_self
    rw [List.foldl_cons, wOn_sum fun b hb => h b (List.mem_cons_of_mem _ hb), List.map_cons, List.sum_cons, Nat.mul_add]
    unfold wOn
    rw [sm_upd (by omega) (by omega)]
    have : upd1 f a.2.2 (f a.2.2 + f p) p = f p := if_neg (by omega)
    rw [this]
    omega
theorem lOn_min {p n : Nat} {b : Nat → Nat} : ∀ {as : List Tr} {f : Nat → Nat}, (∀ a ∈ as, p < a.2.2 ∧ a.2.2 < p + 1 + n) → ms (p + 1) n (fun r => as.foldl (lOn p) f r + b r) = min (ms (p + 1) n (fun r => f r + b r)) (f p + mn (as.map fun a => a.2.1.length + b a.2.2))
  | [], f, _ => by
    have := ms_le (k := p + 1) (n := n) (w := fun r => f r + b r)
    rw [List.foldl_nil, List.map_nil, mn]
    omega
  | a :: as, f, h => by
    have ha := h a List.mem_cons_self
    rw [List.foldl_cons, lOn_min fun b hb => h b (List.mem_cons_of_mem _ hb), List.map_cons, mn]
    unfold lOn
    rw [ms_upd (by omega) (by omega)]
    have : upd1 f a.2.2 (min (f a.2.2) (f p + a.2.1.length)) p = f p := if_neg (by omega)
    rw [this]
    omega
theorem lOn_le {p : Nat} : ∀ {as : List Tr} {f : Nat → Nat}, (∀ q, f q ≤ 1000000) → ∀ q, as.foldl (lOn p) f q ≤ 1000000
  | [], _, h => h
  | a :: as, f, h => by
    rw [List.foldl_cons]
    refine lOn_le fun q => ?_
    unfold lOn upd1
    split
    · have := h a.2.2; omega
    · exact h q
/-- the state of writings_many before place k -/
def WI (g : Nat → List Tr) (L k : Nat) (f : Nat → Nat) : Prop := sm k (L + 1 - k) (fun r => f r * B g L r) = B g L 0
def LI (g : Nat → List Tr) (L k : Nat) (f : Nat → Nat) : Prop := ms k (L + 1 - k) (fun r => f r + best g L r) = best g L 0 ∧ ∀ q, f q ≤ 1000000
theorem sm_zero : ∀ {n k : Nat} {w : Nat → Nat}, (∀ q, k ≤ q → q < k + n → w q = 0) → sm k n w = 0
  | 0, _, _, _ => rfl
  | n + 1, k, w, h => by rw [sm, h k (Nat.le_refl _) (by omega), sm_zero fun q a b => h q (by omega) (by omega)]
theorem ms_big : ∀ {n k : Nat} {w : Nat → Nat}, (∀ q, k ≤ q → q < k + n → 1000000 ≤ w q) → ms k n w = 1000000
  | 0, _, _, _ => rfl
  | n + 1, k, w, h => by
    rw [ms, ms_big fun q a b => h q (by omega) (by omega)]
    have := h k (Nat.le_refl _) (by omega)
    omega
theorem WI_0 : WI g L 0 fun p => if p = 0 then 1 else 0 := by
  unfold WI
  rw [show L + 1 - 0 = L + 1 by omega, sm, sm_zero fun q a b => by dsimp only; rw [if_neg (by omega), Nat.zero_mul]]
  simp
theorem LI_0 : LI g L 0 fun p => if p = 0 then 0 else 1000000 := by
  refine ⟨?_, fun q => by dsimp only; split <;> omega⟩
  rw [show L + 1 - 0 = L + 1 by omega, ms, ms_big fun q a b => by dsimp only; rw [if_neg (by omega)]; omega]
  have := best_le (g := g) (L := L) (p := 0)
  simp only [if_true]
  omega
theorem WI_L {f : Nat → Nat} (h : WI g L L f) : f L = B g L 0 := by
  unfold WI at h
  rw [show L + 1 - L = 1 by omega, sm, sm, B_L] at h
  omega
theorem LI_L {f : Nat → Nat} (h : LI g L L f) : f L = best g L 0 := by
  obtain ⟨h, h2⟩ := h
  rw [show L + 1 - L = 1 by omega, ms, ms, best_L] at h
  have := h2 L
  omega
theorem WI_s (hg : Gr g L) {k : Nat} {f : Nat → Nat} (hk : k < L) (h : WI g L k f) : WI g L (k + 1) ((if 0 < f k then g k else []).foldl (wOn k) f) := by
  unfold WI at h ⊢
  rw [show L + 1 - k = (L + 1 - (k + 1)) + 1 by omega, sm, B_lt hg hk] at h
  split
  · rw [wOn_sum fun a ha => by have := hg.up k a ha; omega]
    omega
  · rename_i z
    have : f k = 0 := by omega
    rw [this, Nat.zero_mul, Nat.zero_add] at h
    exact h
theorem LI_s (hg : Gr g L) {k : Nat} {f : Nat → Nat} (hk : k < L) (h : LI g L k f) : LI g L (k + 1) ((if f k < 1000000 then g k else []).foldl (lOn k) f) := by
  obtain ⟨h, h2⟩ := h
  refine ⟨?_, lOn_le h2⟩
  rw [show L + 1 - k = (L + 1 - (k + 1)) + 1 by omega, ms, best_lt hg hk] at h
  split
  · rw [lOn_min fun a ha => by have := hg.up k a ha; omega]
    omega
  · rename_i z
    rw [List.foldl_nil]
    have := ms_le (k := k + 1) (n := L + 1 - (k + 1)) (w := fun r => f r + best g L r)
    omega
end
end DD

namespace DD
open PySem PySem.Spec PyProof.Rows L2
theorem fr_ok {o : Bool} {d : D} : Fr (some ⟨false, o, d⟩) := rfl
theorem gr_len {us : List Ent} {x : List Nat} {p : Nat} : (gr us x p).length ≤ us.length := by
  unfold gr
  have := List.length_filter_le (hit x p) (numE 0 us)
  rw [numE_len] at this
  rw [List.length_map]; omega
theorem Dic.h8 {us : List Ent} (h : Dic us) : ∀ e ∈ us, e.1.length ≤ 8 ∧ e.2.length ≤ 8 := fun e he => ⟨(h.o1 e he).2, h.t8 e he⟩
theorem upd1_set {n p v : Nat} {f : Nat → Nat} {i : Int} (hi : i = (v : Nat)) : (tabL n f).set p (.int i) = tabL n (upd1 f p v) := by
  subst hi
  exact tab_set
theorem set3 {d0 d1 d2 d3 s4 s5 s6 : Option Slot} (f4 : Fr s4) (f5 : Fr s5) (f6 : Fr s6) {i o q : Int} : gTupD 3 (gsCons (gN 4) (gsCons (gN 5) (gsCons (gN 6) gsNil))) (.tup [.int i, .int o, .int q]) [d0, d1, d2, d3, s4, s5, s6] = some [d0, d1, d2, d3, some ⟨false, false, .int i⟩, some ⟨false, false, .int o⟩, some ⟨false, false, .int q⟩] := by
  simp [st_fr, f4, f5, f6, -r_stT]
abbrev levIn : FS := (sSeq (sPut (fBlt minOf (qCons (f2 ixD (fVar 2) (fVar 6)) (qCons (f2 addD (f2 ixD (fVar 2) (fVar 3)) (fVar 5)) qNil))) (fVar 2) (fVar 6)) sNil)
theorem lev_body {d0 d1 : Option Slot} {tb tb' : List D} {p q o i : Int} {j : Nat} {v w : Int} (t1 : atI tb q = some (.int v)) (t2 : atI tb p = some (.int w)) (ip : ixN tb.length q = some j) (ts : tb.set j (.int (if w + o < v then w + o else v)) = tb') :
    levIn [d0, d1, some ⟨false, true, .lst tb⟩, some ⟨false, false, .int p⟩, some ⟨false, false, .int i⟩, some ⟨false, false, .int o⟩, some ⟨false, false, .int q⟩] = some (.nx [d0, d1, some ⟨false, true, .lst tb'⟩, some ⟨false, false, .int p⟩, some ⟨false, false, .int i⟩, some ⟨false, false, .int o⟩, some ⟨false, false, .int q⟩]) := by
  have mi : minOf [.int v, .int (w + o)] = some (.sh (.int (if w + o < v then w + o else v))) := rfl
  simp [t1, t2, ip, ts, mi]
noncomputable abbrev levOut : FS := (sSeq (sFor (fIter (fIf (fB (f2 (ltF false false) (f2 ixD (fVar 2) (fVar 3)) (fC (.int 1000000)))) (fCall G_entries_on (aCons (fVar 0) (aCons (fVar 1) (aCons (fVar 3) aNil)))) (fLst fNil))) (gTupD 3 (gsCons (gN 4) (gsCons (gN 5) (gsCons (gN 6) gsNil)))) levIn) sNil)
theorem lev_in {us : List Ent} {x : List Nat} {p : Nat} {as : List Tr} (hp : p < x.length) (hk : ∀ a ∈ as, a.2.2 ≤ x.length) (f : Nat → Nat) (s4 s5 s6 : Option Slot) (f4 : Fr s4) (f5 : Fr s5) (f6 : Fr s6) :
    ∃ e', loopF (gTupD 3 (gsCons (gN 4) (gsCons (gN 5) (gsCons (gN 6) gsNil)))) levIn (as.map trD) [some ⟨false, false, dicD us⟩, some ⟨false, false, tx x⟩, some ⟨false, true, .lst (tabL (x.length + 1) f)⟩, some ⟨false, false, .int (p : Nat)⟩, s4, s5, s6] = some (.nx e') ∧
      ∃ s4 s5 s6, Fr s4 ∧ Fr s5 ∧ Fr s6 ∧ e' = [some ⟨false, false, dicD us⟩, some ⟨false, false, tx x⟩, some ⟨false, true, .lst (tabL (x.length + 1) (as.foldl (lOn p) f))⟩, some ⟨false, false, .int (p : Nat)⟩, s4, s5, s6] := by
  refine loop_fold trD (fun f e' => ∃ s4 s5 s6, Fr s4 ∧ Fr s5 ∧ Fr s6 ∧ e' = [some ⟨false, false, dicD us⟩, some ⟨false, false, tx x⟩, some ⟨false, true, .lst (tabL (x.length + 1) f)⟩, some ⟨false, false, .int (p : Nat)⟩, s4, s5, s6]) (lOn p) as f _ ⟨s4, s5, s6, f4, f5, f6, rfl⟩ ?_
  rintro f a e ha ⟨s4, s5, s6, f4, f5, f6, rfl⟩
  have h1 := hk a ha
  have t1 := tab_at (n := x.length + 1) (p := a.2.2) (f := f) (by omega)
  have t2 := tab_at (n := x.length + 1) (p := p) (f := f) (by omega)
  have ip := ix_n (n := x.length + 1) (p := a.2.2) (by omega)
  rw [← tab_len (x.length + 1) f] at ip
  have ts : (tabL (x.length + 1) f).set a.2.2 (.int (if ((f p : Nat) : Int) + ((a.2.1.length : Nat) : Int) < ((f a.2.2 : Nat) : Int) then ((f p : Nat) : Int) + ((a.2.1.length : Nat) : Int) else ((f a.2.2 : Nat) : Int))) = tabL (x.length + 1) (lOn p f a) := upd1_set (by split <;> omega)
  have key := lev_body (d0 := some ⟨false, false, dicD us⟩) (d1 := some ⟨false, false, tx x⟩) (i := (a.1 : Nat)) (o := (a.2.1.length : Nat)) t1 t2 ip ts
  have key2 := set3 (d0 := some ⟨false, false, dicD us⟩) (d1 := some ⟨false, false, tx x⟩) (d2 := some ⟨false, true, .lst (tabL (x.length + 1) f)⟩) (d3 := some ⟨false, false, .int (p : Nat)⟩) (i := (a.1 : Nat)) (o := (a.2.1.length : Nat)) (q := (a.2.2 : Nat)) f4 f5 f6
  refine ⟨_, _, key2, key, ?_⟩
  exact ⟨some ⟨false, false, .int (a.1 : Nat)⟩, some ⟨false, false, .int (a.2.1.length : Nat)⟩, some ⟨false, false, .int (a.2.2 : Nat)⟩, fr_ok, fr_ok, fr_ok, rfl⟩
theorem levels_run {d0 d1 : D} {n : Int} {mid tb0 tb rs : List D} {s3 s4 s5 s6 : Option Slot} (hl : lenD [d1] = some (.sh (.int n))) (m0 : mulF (.lst [.int 1000000]) (.int n) = some (.ow (.lst mid))) (l0 : addD (.lst [.int 0]) (.lst mid) = some (.ow (.lst tb0))) (r3 : rng1 [.int n] = some rs)
    (l1 : loopF (gN 3) levOut rs [some ⟨false, false, d0⟩, some ⟨false, false, d1⟩, some ⟨false, true, .lst tb0⟩, none, none, none, none] = some (.nx [some ⟨false, false, d0⟩, some ⟨false, false, d1⟩, some ⟨false, true, .lst tb⟩, s3, s4, s5, s6])) : G_levels_by [(false, d0), (false, d1)] = some ((true, .lst tb), [(false, .non), (false, .non)]) := by
  simp [G_levels_by, S_levels_by, outs_eq, m0, l0, r3, l1, sz, hl]
theorem levels_ok {us : List Ent} {x : List Nat} (h : Dic us) (hx : x.length ≤ 2000) :
    ∃ f : Nat → Nat, G_levels_by [(false, dicD us), (false, tx x)] = some ((true, .lst (tabL (x.length + 1) f)), [(false, .non), (false, .non)]) ∧ f x.length = best (gr us x) x.length 0 := by
  have hg := gr_ok (x := x) h
  obtain ⟨e', l1, f, s3, s4, s5, s6, f3, f4, f5, f6, hI, rfl⟩ := loop_rng (g := gN 3) (S := levOut) (fun i => .int (0 + (i : Int)))
    (fun k e => ∃ f s3 s4 s5 s6, Fr s3 ∧ Fr s4 ∧ Fr s5 ∧ Fr s6 ∧ LI (gr us x) x.length k f ∧ e = [some ⟨false, false, dicD us⟩, some ⟨false, false, tx x⟩, some ⟨false, true, .lst (tabL (x.length + 1) f)⟩, s3, s4, s5, s6]) x.length
    (e := [some ⟨false, false, dicD us⟩, some ⟨false, false, tx x⟩, some ⟨false, true, .lst (tabL (x.length + 1) fun p => if p = 0 then 0 else 1000000)⟩, none, none, none, none]) ⟨_, none, none, none, none, trivial, trivial, trivial, trivial, LI_0, rfl⟩ (by
      rintro k e hk ⟨f, s3, s4, s5, s6, f3, f4, f5, f6, hI, rfl⟩
      have hs := LI_s hg hk hI
      have ek := entries_ok (us := us) (x := x) (p := k) (by have := h.few; omega) (by omega) (by omega) h.h8
      have t2 := tab_at (n := x.length + 1) (p := k) (f := f) (by omega)
      obtain ⟨e', w1, z4, z5, z6, g4, g5, g6, rfl⟩ := lev_in (us := us) hk (as := if f k < 1000000 then gr us x k else []) (by
        intro a ha
        split at ha
        · exact (hg.up k a ha).2
        · cases ha) f s4 s5 s6 f4 f5 f6
      refine ⟨_, _, by rw [r_gN, st_fr (by simp [f3]), Int.zero_add]; simp; rfl, ?_, _, some ⟨false, false, .int (k : Nat)⟩, z4, z5, z6, rfl, g4, g5, g6, hs, rfl⟩
      by_cases c : f k < 1000000
      · have c1 : ((f k : Nat) : Int) < 1000000 := by omega
        simp only [if_pos c] at w1 ⊢
        simp [t2, c1, ek, w1]
      · have c1 : ¬ ((f k : Nat) : Int) < 1000000 := by omega
        simp only [if_neg c, List.map_nil] at w1 ⊢
        simp [t2, c1, w1])
  have m0 : mulF (.lst [.int 1000000]) (.int (x.length : Nat)) = some (.ow (.lst (List.replicate x.length (.int 1000000)))) := by
    rw [o_mulL, if_pos (by simp [sz]; omega), Int.toNat_natCast, rep_flat]
  have l0 : addD (.lst [.int 0]) (.lst (List.replicate x.length (.int 1000000))) = some (.ow (.lst (tabL (x.length + 1) fun p => if p = 0 then 0 else 1000000))) := by
    have : tabL (x.length + 1) (fun p => if p = 0 then 0 else 1000000) = [.int 0] ++ List.replicate x.length (.int 1000000) := by
      rw [show List.replicate x.length (D.int 1000000) = List.replicate x.length (D.int ((1000000 : Nat) : Int)) from rfl, tab_rep]
      unfold tabL
      rw [List.range_succ_eq_map, List.map_cons, List.map_map]
      rfl
    rw [this, o_addL, if_pos]
    simp [sz]; omega
  have r3 : rng1 [.int (x.length : Nat)] = some ((List.range x.length).map fun i => .int (0 + ((i : Nat) : Int))) := by
    rw [g_1, if_pos (by simp; omega)]
    rfl
  have hl : x.length ≤ 16777216 := by omega
  refine ⟨f, ?_, LI_L hI⟩
  exact levels_run (by rw [l_str, Sx_len, if_pos (by rw [sz]; exact hl)]) m0 l0 r3 l1
abbrev wriIn : FS := (sSeq (sPut (f2 addD (f2 ixD (fVar 2) (fVar 6)) (f2 ixD (fVar 2) (fVar 3))) (fVar 2) (fVar 6)) sNil)
theorem wri_body {d0 d1 : Option Slot} {tb tb' : List D} {p q o i : Int} {j : Nat} {v w : Int} (t1 : atI tb q = some (.int v)) (t2 : atI tb p = some (.int w)) (ip : ixN tb.length q = some j) (ts : tb.set j (.int (v + w)) = tb') :
    wriIn [d0, d1, some ⟨false, true, .lst tb⟩, some ⟨false, false, .int p⟩, some ⟨false, false, .int i⟩, some ⟨false, false, .int o⟩, some ⟨false, false, .int q⟩] = some (.nx [d0, d1, some ⟨false, true, .lst tb'⟩, some ⟨false, false, .int p⟩, some ⟨false, false, .int i⟩, some ⟨false, false, .int o⟩, some ⟨false, false, .int q⟩]) := by
  simp [t1, t2, ip, ts]
noncomputable abbrev wriOut : FS := (sSeq (sFor (fIter (fIf (fB (f2 (ltF false true) (f2 ixD (fVar 2) (fVar 3)) (fC (.int 0)))) (fCall G_entries_on (aCons (fVar 0) (aCons (fVar 1) (aCons (fVar 3) aNil)))) (fLst fNil))) (gTupD 3 (gsCons (gN 4) (gsCons (gN 5) (gsCons (gN 6) gsNil)))) wriIn) sNil)
theorem wri_in {us : List Ent} {x : List Nat} {p : Nat} {as : List Tr} (hp : p < x.length) (hk : ∀ a ∈ as, a.2.2 ≤ x.length) (f : Nat → Nat) (s4 s5 s6 : Option Slot) (f4 : Fr s4) (f5 : Fr s5) (f6 : Fr s6) :
    ∃ e', loopF (gTupD 3 (gsCons (gN 4) (gsCons (gN 5) (gsCons (gN 6) gsNil)))) wriIn (as.map trD) [some ⟨false, false, dicD us⟩, some ⟨false, false, tx x⟩, some ⟨false, true, .lst (tabL (x.length + 1) f)⟩, some ⟨false, false, .int (p : Nat)⟩, s4, s5, s6] = some (.nx e') ∧
      ∃ s4 s5 s6, Fr s4 ∧ Fr s5 ∧ Fr s6 ∧ e' = [some ⟨false, false, dicD us⟩, some ⟨false, false, tx x⟩, some ⟨false, true, .lst (tabL (x.length + 1) (as.foldl (wOn p) f))⟩, some ⟨false, false, .int (p : Nat)⟩, s4, s5, s6] := by
  refine loop_fold trD (fun f e' => ∃ s4 s5 s6, Fr s4 ∧ Fr s5 ∧ Fr s6 ∧ e' = [some ⟨false, false, dicD us⟩, some ⟨false, false, tx x⟩, some ⟨false, true, .lst (tabL (x.length + 1) f)⟩, some ⟨false, false, .int (p : Nat)⟩, s4, s5, s6]) (wOn p) as f _ ⟨s4, s5, s6, f4, f5, f6, rfl⟩ ?_
  rintro f a e ha ⟨s4, s5, s6, f4, f5, f6, rfl⟩
  have h1 := hk a ha
  have t1 := tab_at (n := x.length + 1) (p := a.2.2) (f := f) (by omega)
  have t2 := tab_at (n := x.length + 1) (p := p) (f := f) (by omega)
  have ip := ix_n (n := x.length + 1) (p := a.2.2) (by omega)
  rw [← tab_len (x.length + 1) f] at ip
  have ts : (tabL (x.length + 1) f).set a.2.2 (.int (((f a.2.2 : Nat) : Int) + ((f p : Nat) : Int))) = tabL (x.length + 1) (wOn p f a) := upd1_set (by omega)
  have key := wri_body (d0 := some ⟨false, false, dicD us⟩) (d1 := some ⟨false, false, tx x⟩) (i := (a.1 : Nat)) (o := (a.2.1.length : Nat)) t1 t2 ip ts
  have key2 := set3 (d0 := some ⟨false, false, dicD us⟩) (d1 := some ⟨false, false, tx x⟩) (d2 := some ⟨false, true, .lst (tabL (x.length + 1) f)⟩) (d3 := some ⟨false, false, .int (p : Nat)⟩) (i := (a.1 : Nat)) (o := (a.2.1.length : Nat)) (q := (a.2.2 : Nat)) f4 f5 f6
  refine ⟨_, _, key2, key, ?_⟩
  exact ⟨some ⟨false, false, .int (a.1 : Nat)⟩, some ⟨false, false, .int (a.2.1.length : Nat)⟩, some ⟨false, false, .int (a.2.2 : Nat)⟩, fr_ok, fr_ok, fr_ok, rfl⟩
theorem writings_run {d0 d1 : D} {n i : Int} {mid tb0 tb rs : List D} {s3 s4 s5 s6 : Option Slot} (cw : G_check_written [(false, d0), (false, d1)] = some ((false, .non), [(false, .non), (false, .non)])) (hl : lenD [d1] = some (.sh (.int n))) (m0 : mulF (.lst [.int 0]) (.int n) = some (.ow (.lst mid))) (l0 : addD (.lst [.int 1]) (.lst mid) = some (.ow (.lst tb0))) (r3 : rng1 [.int n] = some rs)
    (l1 : loopF (gN 3) wriOut rs [some ⟨false, false, d0⟩, some ⟨false, false, d1⟩, some ⟨false, true, .lst tb0⟩, none, none, none, none] = some (.nx [some ⟨false, false, d0⟩, some ⟨false, false, d1⟩, some ⟨false, true, .lst tb⟩, s3, s4, s5, s6])) (tl : atI tb (-1) = some (.int i)) : G_writings_many [(false, d0), (false, d1)] = some ((false, .int i), [(false, .non), (false, .non)]) := by
  simp [G_writings_many, S_writings_many, outs_eq, cw, m0, l0, r3, l1, sz, hl, tl]
theorem writings_ok {us : List Ent} {x : List Nat} (h : Dic us) (hs : Small x) (hx : x.length ≤ 2000) :
    G_writings_many [(false, dicD us), (false, tx x)] = some ((false, .int (B (gr us x) x.length 0 : Nat)), [(false, .non), (false, .non)]) := by
  have hg := gr_ok (x := x) h
  obtain ⟨e', l1, f, s3, s4, s5, s6, f3, f4, f5, f6, hI, rfl⟩ := loop_rng (g := gN 3) (S := wriOut) (fun i => .int (0 + (i : Int)))
    (fun k e => ∃ f s3 s4 s5 s6, Fr s3 ∧ Fr s4 ∧ Fr s5 ∧ Fr s6 ∧ WI (gr us x) x.length k f ∧ e = [some ⟨false, false, dicD us⟩, some ⟨false, false, tx x⟩, some ⟨false, true, .lst (tabL (x.length + 1) f)⟩, s3, s4, s5, s6]) x.length
    (e := [some ⟨false, false, dicD us⟩, some ⟨false, false, tx x⟩, some ⟨false, true, .lst (tabL (x.length + 1) fun p => if p = 0 then 1 else 0)⟩, none, none, none, none]) ⟨_, none, none, none, none, trivial, trivial, trivial, trivial, WI_0, rfl⟩ (by
      rintro k e hk ⟨f, s3, s4, s5, s6, f3, f4, f5, f6, hI, rfl⟩
      have hs := WI_s hg hk hI
      have ek := entries_ok (us := us) (x := x) (p := k) (by have := h.few; omega) (by omega) (by omega) h.h8
      have t2 := tab_at (n := x.length + 1) (p := k) (f := f) (by omega)
      obtain ⟨e', w1, z4, z5, z6, g4, g5, g6, rfl⟩ := wri_in (us := us) hk (as := if 0 < f k then gr us x k else []) (by
        intro a ha
        split at ha
        · exact (hg.up k a ha).2
        · cases ha) f s4 s5 s6 f4 f5 f6
      refine ⟨_, _, by rw [r_gN, st_fr (by simp [f3]), Int.zero_add]; simp; rfl, ?_, _, some ⟨false, false, .int (k : Nat)⟩, z4, z5, z6, rfl, g4, g5, g6, hs, rfl⟩
      by_cases c : 0 < f k
      · have c1 : (0 : Int) < ((f k : Nat) : Int) := by omega
        simp only [if_pos c] at w1 ⊢
        simp [t2, c, ek, w1]
      · have c1 : ¬ (0 : Int) < ((f k : Nat) : Int) := by omega
        simp only [if_neg c, List.map_nil] at w1 ⊢
        simp [t2, c, w1])
  have m0 : mulF (.lst [.int 0]) (.int (x.length : Nat)) = some (.ow (.lst (List.replicate x.length (.int 0)))) := by
    rw [o_mulL, if_pos (by simp [sz]; omega), Int.toNat_natCast, rep_flat]
  have l0 : addD (.lst [.int 1]) (.lst (List.replicate x.length (.int 0))) = some (.ow (.lst (tabL (x.length + 1) fun p => if p = 0 then 1 else 0))) := by
    have : tabL (x.length + 1) (fun p => if p = 0 then 1 else 0) = [.int 1] ++ List.replicate x.length (.int 0) := by
      rw [show List.replicate x.length (D.int 0) = List.replicate x.length (D.int ((0 : Nat) : Int)) from rfl, tab_rep]
      unfold tabL
      rw [List.range_succ_eq_map, List.map_cons, List.map_map]
      rfl
    rw [this, o_addL, if_pos]
    simp [sz]; omega
  have r3 : rng1 [.int (x.length : Nat)] = some ((List.range x.length).map fun i => .int (0 + ((i : Nat) : Int))) := by
    rw [g_1, if_pos (by simp; omega)]
    rfl
  have hl : x.length ≤ 16777216 := by omega
  have tl := tab_last (n := x.length) (f := f)
  rw [WI_L hI] at tl
  have cw := check_written_ok h hs hx
  exact writings_run cw (by rw [l_str, Sx_len, if_pos (by rw [sz]; exact hl)]) m0 l0 r3 l1 tl
end DD

namespace DD
open PySem PySem.Spec PyProof.Rows L2
/-! ### one reading, and what is told of a text -/
noncomputable abbrev rdC : FE := (f2 eqF (f2 addD (fVar 8) (f2 ixD (fVar 2) (fVar 9))) (f2 ixD (fVar 2) (fVar 4)))
noncomputable abbrev rdY : FE := (fTup (fCons (fVar 7) (fCons (fVar 9) fNil)))
noncomputable abbrev rdS : FS := (sSeq (sSet 5 (fCall G_entries_on (aCons (fVar 0) (aCons (fVar 1) (aCons (fVar 4) aNil)))))
  (sSeq (sSet 6 (fLc (fIter (fVar 5)) [7, 8, 9] (gTupD 3 (gsCons (gN 7) (gsCons (gN 8) (gsCons (gN 9) gsNil)))) (fB rdC) rdY))
  (sSeq (sExpr (fMeth "list" mAppend (fVar 3) (fCons (f2 ixD (f2 ixD (fVar 6) (fC (.int 0))) (fC (.int 0))) fNil)))
  (sSeq (sSet 4 (f2 ixD (f2 ixD (fVar 6) (fC (.int 0))) (fC (.int 1))))
  sNil))))
noncomputable abbrev rdA : FB := (fB (f2 (ltF false false) (fVar 4) (fBlt lenD (qCons (fVar 1) qNil))))
theorem rd_body {d0 d1 : D} {tb acc es vs : List D} {p i q : Int} {s5 s6 : Option Slot} (f5 : Fr s5) (f6 : Fr s6) (ek : G_entries_on [(false, d0), (false, d1), (false, .int p)] = some ((true, .lst es), [(false, .non), (false, .non), (false, .non)]))
    (lc : ∀ s5 s6 : Option Slot, lcF [7, 8, 9] (gTupD 3 (gsCons (gN 7) (gsCons (gN 8) (gsCons (gN 9) gsNil)))) (fB rdC) rdY es [] [some ⟨false, false, d0⟩, some ⟨false, false, d1⟩, some ⟨false, true, .lst tb⟩, some ⟨false, true, .lst acc⟩, some ⟨false, false, .int p⟩, s5, s6, none, none, none] = some (.tup [.int i, .int q] :: vs, [some ⟨false, false, d0⟩, some ⟨false, false, d1⟩, some ⟨false, true, .lst tb⟩, some ⟨false, true, .lst acc⟩, some ⟨false, false, .int p⟩, s5, s6, none, none, none]))
    (hl : acc.length < sizeLine) :
    rdS [some ⟨false, false, d0⟩, some ⟨false, false, d1⟩, some ⟨false, true, .lst tb⟩, some ⟨false, true, .lst acc⟩, some ⟨false, false, .int p⟩, s5, s6, none, none, none] =
      some (.nx [some ⟨false, false, d0⟩, some ⟨false, false, d1⟩, some ⟨false, true, .lst tb⟩, some ⟨false, true, .lst (acc ++ [.int i])⟩, some ⟨false, false, .int q⟩, some ⟨false, false, .lst es⟩, some ⟨false, true, .lst (.tup [.int i, .int q] :: vs)⟩, none, none, none]) := by
  have l2 := lc (some ⟨false, false, .lst es⟩) s6
  simp [ek, st_fr, f5, f6, l2, hl, -r_stT]
theorem rd_test {d0 : D} {x : List Nat} {tb acc : List D} {p : Nat} {s5 s6 : Option Slot} (hx : x.length ≤ 2000) :
    rdA [some ⟨false, false, d0⟩, some ⟨false, false, tx x⟩, some ⟨false, true, .lst tb⟩, some ⟨false, true, .lst acc⟩, some ⟨false, false, .int (p : Nat)⟩, s5, s6, none, none, none] = some (decide (p < x.length), [some ⟨false, false, d0⟩, some ⟨false, false, tx x⟩, some ⟨false, true, .lst tb⟩, some ⟨false, true, .lst acc⟩, some ⟨false, false, .int (p : Nat)⟩, s5, s6, none, none, none]) := by
  have hl : x.length ≤ 16777216 := by omega
  simp [sz, hl]
theorem rd_turn {d0 d1 : D} {tb acc : List D} {p i o q : Int} {vq vp : Int} {s5 s6 : Option Slot} (t1 : atI tb q = some (.int vq)) (t2 : atI tb p = some (.int vp)) :
    turnF [7, 8, 9] (gTupD 3 (gsCons (gN 7) (gsCons (gN 8) (gsCons (gN 9) gsNil)))) (fB rdC) rdY (.tup [.int i, .int o, .int q]) [some ⟨false, false, d0⟩, some ⟨false, false, d1⟩, some ⟨false, true, .lst tb⟩, some ⟨false, true, .lst acc⟩, some ⟨false, false, .int p⟩, s5, s6, none, none, none] =
      some (if decide (o + vq = vp) = true then some (.tup [.int i, .int q]) else none, [some ⟨false, false, d0⟩, some ⟨false, false, d1⟩, some ⟨false, true, .lst tb⟩, some ⟨false, true, .lst acc⟩, some ⟨false, false, .int p⟩, s5, s6, none, none, none]) := by
  by_cases h : o + vq = vp
  · simp [turnF, t1, t2, h, sz]
  · simp [turnF, t1, t2, h, sz]
theorem rd_loop {us : List Ent} {x : List Nat} (h : Dic us) (hx : x.length ≤ 2000) : ∀ (n p : Nat) (acc : List D) (s5 s6 : Option Slot), x.length - p < n → p ≤ x.length → best (gr us x) x.length p < 1000000 → acc.length ≤ p → Fr s5 → Fr s6 →
    ∃ (acc' : List D) (p' : Nat) (s5' s6' : Option Slot), iterW rdA rdS n [some ⟨false, false, dicD us⟩, some ⟨false, false, tx x⟩, some ⟨false, true, .lst (tabL (x.length + 1) (best (gr us x) x.length))⟩, some ⟨false, true, .lst acc⟩, some ⟨false, false, .int (p : Nat)⟩, s5, s6, none, none, none] =
      some (.nx [some ⟨false, false, dicD us⟩, some ⟨false, false, tx x⟩, some ⟨false, true, .lst (tabL (x.length + 1) (best (gr us x) x.length))⟩, some ⟨false, true, .lst acc'⟩, some ⟨false, false, .int (p' : Nat)⟩, s5', s6', none, none, none])
  | 0, p, acc, s5, s6, h1, _, _, _, _, _ => by omega
  | n + 1, p, acc, s5, s6, h1, h2, h3, h4, f5, f6 => by
    by_cases hp : p < x.length
    · have hg := gr_ok (x := x) h
      have ek := entries_ok (us := us) (x := x) (p := p) (by have := h.few; omega) (by omega) (by omega) h.h8
      have t2 := tab_at (n := x.length + 1) (p := p) (f := best (gr us x) x.length) (by omega)
      have bl := best_lt hg hp
      have bi := mn_in (l := (gr us x p).map fun a => a.2.1.length + best (gr us x) x.length a.2.2) (by omega)
      rw [← bl] at bi
      obtain ⟨a, ha, hab⟩ := List.mem_map.mp bi
      have fne : a ∈ (gr us x p).filter fun a => decide (((a.2.1.length : Nat) : Int) + ((best (gr us x) x.length a.2.2 : Nat) : Int) = ((best (gr us x) x.length p : Nat) : Int)) := List.mem_filter.mpr ⟨ha, by rw [decide_eq_true_eq]; omega⟩
      obtain ⟨b, bs, hb⟩ : ∃ b bs, ((gr us x p).filter fun a => decide (((a.2.1.length : Nat) : Int) + ((best (gr us x) x.length a.2.2 : Nat) : Int) = ((best (gr us x) x.length p : Nat) : Int))) = b :: bs := by
        cases hh : ((gr us x p).filter fun a => decide (((a.2.1.length : Nat) : Int) + ((best (gr us x) x.length a.2.2 : Nat) : Int) = ((best (gr us x) x.length p : Nat) : Int))) with
        | nil => rw [hh] at fne; cases fne
        | cons b bs => exact ⟨b, bs, rfl⟩
      have hbm : b ∈ b :: bs := List.mem_cons_self
      rw [← hb] at hbm
      obtain ⟨b1, b2⟩ := List.mem_filter.mp hbm
      rw [decide_eq_true_eq] at b2
      have bu := hg.up p b b1
      obtain ⟨acc', p', z5, z6, w⟩ := rd_loop h hx n b.2.2 (acc ++ [.int (b.1 : Nat)]) _ _ (by omega) bu.2 (by omega) (by rw [List.length_append, List.length_singleton]; omega) (fr_ok (o := false) (d := .lst ((gr us x p).map trD))) (fr_ok (o := true) (d := .lst (.tup [.int (b.1 : Nat), .int (b.2.2 : Nat)] :: bs.map fun a : Tr => .tup [.int (a.1 : Nat), .int (a.2.2 : Nat)])))
      refine ⟨acc', p', z5, z6, ?_⟩
      rw [iterW, rd_test hx, decide_eq_true hp]
      dsimp only
      rw [rd_body (i := (b.1 : Nat)) (q := (b.2.2 : Nat)) (vs := bs.map fun a : Tr => .tup [.int (a.1 : Nat), .int (a.2.2 : Nat)]) f5 f6 ek ?_ (by rw [sz]; omega)]
      · exact w
      · intro s5 s6
        have := lcF_fi trD (fun a => decide (((a.2.1.length : Nat) : Int) + ((best (gr us x) x.length a.2.2 : Nat) : Int) = ((best (gr us x) x.length p : Nat) : Int))) (fun a => .tup [.int (a.1 : Nat), .int (a.2.2 : Nat)]) (gr us x p) (by
          have := gr_len (us := us) (x := x) (p := p)
          have := h.few
          rw [sz]; omega) fun a ha => rd_turn (d0 := dicD us) (d1 := tx x) (tb := tabL (x.length + 1) (best (gr us x) x.length)) (acc := acc) (s5 := s5) (s6 := s6) (tab_at (n := x.length + 1) (p := a.2.2) (f := best (gr us x) x.length) (by have := hg.up p a ha; omega)) t2
        rw [hb] at this
        exact this
    · refine ⟨acc, p, s5, s6, ?_⟩
      rw [iterW, rd_test hx, decide_eq_false hp]
theorem rd_run {d0 d1 : D} {tb acc : List D} {p : Int} {s5 s6 : Option Slot} (hs : G_strokes_on [(false, d0), (false, d1)] = some ((true, .lst tb), [(false, .non), (false, .non)]))
    (hw : sWhile rdA rdS [some ⟨false, false, d0⟩, some ⟨false, false, d1⟩, some ⟨false, true, .lst tb⟩, some ⟨false, true, .lst []⟩, some ⟨false, false, .int 0⟩, none, none, none, none, none] = some (.nx [some ⟨false, false, d0⟩, some ⟨false, false, d1⟩, some ⟨false, true, .lst tb⟩, some ⟨false, true, .lst acc⟩, some ⟨false, false, .int p⟩, s5, s6, none, none, none])) :
    G_reading_by [(false, d0), (false, d1)] = some ((false, .tup acc), [(false, .non), (false, .non)]) := by
  simp [G_reading_by, S_reading_by, outs_eq, hs, hw, sz]
theorem reading_ok {us : List Ent} {x : List Nat} (h : Dic us) (hx : x.length ≤ 2000) (hb : best (gr us x) x.length 0 < 1000000) :
    ∃ acc, G_reading_by [(false, dicD us), (false, tx x)] = some ((false, .tup acc), [(false, .non), (false, .non)]) := by
  obtain ⟨acc, p, s5, s6, w⟩ := rd_loop h hx (x.length + 1) 0 [] none none (by omega) (by omega) hb (by simp) trivial trivial
  exact ⟨acc, rd_run (strokes_ok h hx) (sWhile_of w)⟩
end DD

namespace DD
open PySem PySem.Spec PyProof.Rows L2
theorem numD_mem : ∀ {ds : List D} {k : Nat} {d : D}, d ∈ numD k ds → ∃ (i : Nat) (x : D), x ∈ ds ∧ d = .tup [.int (i : Nat), x]
  | [], _, _, h => by cases h
  | y :: ds, k, d, h => by
    rw [numD] at h
    rcases List.mem_cons.mp h with rfl | h
    · exact ⟨k, y, List.mem_cons_self, rfl⟩
    · obtain ⟨i, x, h1, h2⟩ := numD_mem h
      exact ⟨i, x, List.mem_cons_of_mem _ h1, h2⟩
noncomputable abbrev lotC : FE := (f2 (ltF false false) (fVar 4) (fC (.int 1000000)))
def lotF : D → Option D
  | .tup [.int i, .int v] => if v < 1000000 then some (.int i) else none
  | _ => none
theorem lot_turn {s0 s1 s2 : Option Slot} {i v : Int} : turnF [3, 4] (gTupD 2 (gsCons (gN 3) (gsCons (gN 4) gsNil))) (fB lotC) (fVar 3) (.tup [.int i, .int v]) [s0, s1, s2, none, none] = some (lotF (.tup [.int i, .int v]), [s0, s1, s2, none, none]) := by
  by_cases h : v < 1000000
  · simp [turnF, lotF, h]
  · simp [turnF, lotF, h]
theorem lot_lc {s0 s1 s2 : Option Slot} {n : Nat} {f : Nat → Nat} (hn : n ≤ 100000) : ∃ vl, lcF [3, 4] (gTupD 2 (gsCons (gN 3) (gsCons (gN 4) gsNil))) (fB lotC) (fVar 3) (numD 0 (tabL n f)) [] [s0, s1, s2, none, none] = some (vl, [s0, s1, s2, none, none]) := by
  refine ⟨_, lcF_fm lotF _ _ (by rw [numD_len, tab_len, sz]; simp; omega) fun d hd => ?_⟩
  obtain ⟨i, x, h1, rfl⟩ := numD_mem hd
  unfold tabL at h1
  obtain ⟨p, _, rfl⟩ := List.mem_map.mp h1
  exact lot_turn
theorem told_lot {d0 d1 : D} {tb vl : List D} (cw : G_check_written [(false, d0), (false, d1)] = some ((false, .non), [(false, .non), (false, .non)])) (lv : G_levels_by [(false, d0), (false, d1)] = some ((true, .lst tb), [(false, .non), (false, .non)])) (tl : atI tb (-1) = some (.int 1000000))
    (lc : ∀ s0 s1 s2 : Option Slot, lcF [3, 4] (gTupD 2 (gsCons (gN 3) (gsCons (gN 4) gsNil))) (fB lotC) (fVar 3) (numD 0 tb) [] [s0, s1, s2, none, none] = some (vl, [s0, s1, s2, none, none])) :
    G_written_told [(false, d0), (false, d1)] = some ((false, .tup [.str "lot", .tup vl]), [(false, .non), (false, .non)]) := by
  have en : enumD [.lst tb] = some (numD 0 tb) := rfl
  simp [G_written_told, S_written_told, outs_eq, cw, lv, tl, en, lc, sz]
theorem told_row {d0 d1 : D} {tb acc : List D} {v : Int} (cw : G_check_written [(false, d0), (false, d1)] = some ((false, .non), [(false, .non), (false, .non)])) (lv : G_levels_by [(false, d0), (false, d1)] = some ((true, .lst tb), [(false, .non), (false, .non)])) (tl : atI tb (-1) = some (.int v)) (hv : v ≠ 1000000)
    (rd : G_reading_by [(false, d0), (false, d1)] = some ((false, .tup acc), [(false, .non), (false, .non)])) :
    G_written_told [(false, d0), (false, d1)] = some ((false, .tup [.str "row", .int v, .tup acc, .tup tb]), [(false, .non), (false, .non)]) := by
  simp [G_written_told, S_written_told, outs_eq, cw, lv, tl, hv, rd, sz]
theorem told_ok {us : List Ent} {x : List Nat} (h : Dic us) (hs : Small x) (hx : x.length ≤ 2000) :
    (best (gr us x) x.length 0 < 1000000 ∧ ∃ a b, G_written_told [(false, dicD us), (false, tx x)] = some ((false, .tup [.str "row", .int (best (gr us x) x.length 0 : Nat), a, b]), [(false, .non), (false, .non)])) ∨
    (¬ best (gr us x) x.length 0 < 1000000 ∧ ∃ a, G_written_told [(false, dicD us), (false, tx x)] = some ((false, .tup [.str "lot", a]), [(false, .non), (false, .non)])) := by
  obtain ⟨f, lv, hf⟩ := levels_ok h hx
  have tl := tab_last (n := x.length) (f := f)
  rw [hf] at tl
  by_cases hb : best (gr us x) x.length 0 < 1000000
  · obtain ⟨acc, ra⟩ := reading_ok h hx hb
    exact .inl ⟨hb, _, _, told_row (check_written_ok h hs hx) lv tl (by omega) ra⟩
  · have := best_le (g := gr us x) (L := x.length) (p := 0)
    rw [show best (gr us x) x.length 0 = 1000000 by omega] at tl
    have lc := fun s0 s1 s2 => lot_lc (s0 := s0) (s1 := s1) (s2 := s2) (n := x.length + 1) (f := f) (by omega)
    obtain ⟨vl, _⟩ := lc none none none
    have e : ∀ s0 s1 s2 : Option Slot, lcF [3, 4] (gTupD 2 (gsCons (gN 3) (gsCons (gN 4) gsNil))) (fB lotC) (fVar 3) (numD 0 (tabL (x.length + 1) f)) [] [s0, s1, s2, none, none] = some ((numD 0 (tabL (x.length + 1) f)).filterMap lotF, [s0, s1, s2, none, none]) := by
      intro s0 s1 s2
      refine lcF_fm lotF _ _ (by rw [numD_len, tab_len, sz]; simp; omega) fun d hd => ?_
      obtain ⟨i, y, h1, rfl⟩ := numD_mem hd
      unfold tabL at h1
      obtain ⟨p, _, rfl⟩ := List.mem_map.mp h1
      exact lot_turn
    exact .inr ⟨hb, _, told_lot (check_written_ok h hs hx) lv tl e⟩
end DD

namespace DD
open PySem PySem.Spec PyProof.Rows L2
/-! ### the least row, sign by sign -/
abbrev Stt := List Nat × Nat
section
variable {g : Nat → List Tr} {L : Nat}
def Opt (g : Nat → List Tr) (L : Nat) (z : List Nat) : Prop := ∃ t ∈ P g L 0, cost t = best g L 0 ∧ z = row t
def Cm (g : Nat → List Tr) (L : Nat) (ss : List Stt) (v : List Nat) : Prop := ∃ s ∈ ss, ∃ t ∈ P g L s.2, cost t = best g L s.2 ∧ v = s.1 ++ row t
def tight (g : Nat → List Tr) (L p : Nat) : List Tr := (g p).filter fun a => decide (a.2.1.length + best g L a.2.2 = best g L p)
def bg (g : Nat → List Tr) (L : Nat) (s : Stt) : List Stt := if s.1 ≠ [] then [s] else (tight g L s.2).map fun a => (a.2.1, a.2.2)
def bgn (g : Nat → List Tr) (L : Nat) (ss : List Stt) : List Stt := ded [] (ss.flatMap (bg g L))
structure LW (g : Nat → List Tr) (L : Nat) (v0 w : List Nat) (ss : List Stt) : Prop where
  ne : ss ≠ []
  ok : ∀ s ∈ ss, s.2 ≤ L ∧ best g L s.2 < 1000000 ∧ w.length + s.1.length + best g L s.2 = best g L 0
  cm : ∀ v, Cm g L ss v ↔ Opt g L (w ++ v)
  pre : w <+: v0
theorem Cm_ext {ss rs : List Stt} (h : ∀ s, s ∈ ss ↔ s ∈ rs) {v : List Nat} : Cm g L ss v ↔ Cm g L rs v := by
  unfold Cm
  simp only [h]
theorem bgn_mem {ss : List Stt} {s : Stt} : s ∈ bgn g L ss ↔ s ∈ ss.flatMap (bg g L) := by
  unfold bgn
  rw [ded_mem]
  simp
theorem tight_mem {p : Nat} {a : Tr} : a ∈ tight g L p ↔ a ∈ g p ∧ a.2.1.length + best g L a.2.2 = best g L p := by
  unfold tight
  rw [List.mem_filter, decide_eq_true_eq]
theorem LW_0 (hb : best g L 0 < 1000000) (v0 : List Nat) : LW g L v0 [] [([], 0)] := by
  refine ⟨by simp, fun s hs => ?_, fun v => ?_, List.nil_prefix⟩
  · rw [List.mem_singleton] at hs
    subst hs
    exact ⟨Nat.zero_le _, hb, by simp⟩
  · unfold Cm Opt
    constructor
    · rintro ⟨s, hs, t, h1, h2, h3⟩
      rw [List.mem_singleton] at hs
      subst hs
      exact ⟨t, h1, h2, by simpa using h3⟩
    · rintro ⟨t, h1, h2, h3⟩
      exact ⟨_, List.mem_singleton.mpr rfl, t, h1, h2, by simpa using h3⟩
theorem LW_b (hg : Gr g L) {v0 w : List Nat} {ss : List Stt} (h : LW g L v0 w ss) (hw : w.length < best g L 0) : LW g L v0 w (bgn g L ss) ∧ ∀ s ∈ bgn g L ss, s.1 ≠ [] := by
  have lt : ∀ s ∈ ss, s.1 = [] → s.2 < L := by
    intro s hs he
    have := h.ok s hs
    rw [he] at this
    by_cases hl : s.2 = L
    · rw [hl, best_L] at this
      simp at this
      omega
    · omega
  have mem : ∀ s, s ∈ bgn g L ss ↔ ∃ r ∈ ss, s ∈ bg g L r := fun s => by rw [bgn_mem, List.mem_flatMap]
  refine ⟨⟨?_, ?_, fun v => ?_, h.pre⟩, ?_⟩
  · obtain ⟨s, hs⟩ := List.exists_mem_of_ne_nil _ h.ne
    have ok := h.ok s hs
    intro e
    by_cases hs1 : s.1 = []
    · have sl := lt s hs hs1
      have bl := best_lt hg sl
      have bi := mn_in (l := (g s.2).map fun a => a.2.1.length + best g L a.2.2) (by omega)
      rw [← bl] at bi
      obtain ⟨a, ha, hab⟩ := List.mem_map.mp bi
      have : ((a.2.1, a.2.2) : Stt) ∈ bgn g L ss := (mem _).mpr ⟨s, hs, by
        unfold bg
        rw [if_neg (by simpa using hs1)]
        exact List.mem_map.mpr ⟨a, tight_mem.mpr ⟨ha, hab⟩, rfl⟩⟩
      rw [e] at this
      cases this
    · have : s ∈ bgn g L ss := (mem _).mpr ⟨s, hs, by
        unfold bg
        rw [if_pos hs1]
        exact List.mem_singleton.mpr rfl⟩
      rw [e] at this
      cases this
  · intro s hs
    obtain ⟨r, hr, h1⟩ := (mem s).mp hs
    have ok := h.ok r hr
    unfold bg at h1
    split at h1
    · rw [List.mem_singleton] at h1
      subst h1
      exact ok
    · rename_i hr1
      obtain ⟨a, ha, rfl⟩ := List.mem_map.mp h1
      obtain ⟨a1, a2⟩ := tight_mem.mp ha
      have : r.1 = [] := by simpa using hr1
      rw [this] at ok
      have := hg.up _ a a1
      simp only [List.length_nil] at ok
      dsimp only
      omega
  · rw [← h.cm v]
    unfold Cm
    constructor
    · rintro ⟨s, hs, t, h1, h2, h3⟩
      obtain ⟨r, hr, h4⟩ := (mem s).mp hs
      unfold bg at h4
      split at h4
      · rw [List.mem_singleton] at h4
        subst h4
        exact ⟨s, hr, t, h1, h2, h3⟩
      · rename_i hr1
        have hr0 : r.1 = [] := by simpa using hr1
        obtain ⟨a, ha, rfl⟩ := List.mem_map.mp h4
        obtain ⟨a1, a2⟩ := tight_mem.mp ha
        refine ⟨r, hr, a :: t, (P_mem hg (lt r hr hr0)).mpr ⟨a, a1, t, h1, rfl⟩, ?_, ?_⟩
        · show a.2.1.length + cost t = _
          dsimp only at h2
          omega
        · rw [h3, hr0]
          rfl
    · rintro ⟨s, hs, t, h1, h2, h3⟩
      by_cases hs1 : s.1 = []
      · have sl := lt s hs hs1
        obtain ⟨a, a1, t', h4, rfl⟩ := (P_mem hg sl).mp h1
        have c1 : cost (a :: t') = a.2.1.length + cost t' := rfl
        have c2 := best_mem h4
        have c3 := best_lt hg sl
        have c4 := mn_mem (l := (g s.2).map fun a => a.2.1.length + best g L a.2.2) (List.mem_map.mpr ⟨a, a1, rfl⟩)
        refine ⟨(a.2.1, a.2.2), (mem _).mpr ⟨s, hs, ?_⟩, t', h4, by dsimp only; omega, ?_⟩
        · unfold bg
          rw [if_neg (by simpa using hs1)]
          exact List.mem_map.mpr ⟨a, tight_mem.mpr ⟨a1, by omega⟩, rfl⟩
        · rw [h3, hs1]
          rfl
      · exact ⟨s, (mem _).mpr ⟨s, hs, by unfold bg; rw [if_pos hs1]; exact List.mem_singleton.mpr rfl⟩, t, h1, h2, h3⟩
  · intro s hs
    obtain ⟨r, hr, h1⟩ := (mem s).mp hs
    unfold bg at h1
    split at h1
    · rw [List.mem_singleton] at h1
      subst h1
      assumption
    · obtain ⟨a, ha, rfl⟩ := List.mem_map.mp h1
      have := (hg.o8 _ a (tight_mem.mp ha).1).1
      intro e
      simp only at e
      rw [e] at this
      simp at this
/-- the states behind the sign c -/
def nxt (c : Nat) (ss : List Stt) : List Stt := ded [] ((ss.filter fun s => decide (s.1.head? = some c)).map fun s => (s.1.drop 1, s.2))
theorem nxt_mem {c : Nat} {ss : List Stt} {s : Stt} : s ∈ nxt c ss ↔ (c :: s.1, s.2) ∈ ss := by
  unfold nxt
  rw [ded_mem]
  simp only [List.not_mem_nil, false_or, List.mem_map, List.mem_filter, decide_eq_true_eq]
  constructor
  · rintro ⟨⟨r, p⟩, ⟨h1, h2⟩, rfl⟩
    cases r with
    | nil => simp at h2
    | cons d r =>
      simp only [List.head?_cons, Option.some.injEq] at h2
      subst h2
      exact h1
  · intro h
    exact ⟨_, ⟨h, rfl⟩, rfl⟩
theorem lt_app {w a b : List Nat} (h : a < b) : w ++ a < w ++ b := by
  induction w with
  | nil => exact h
  | cons c w ih => exact List.Lex.cons ih
theorem LW_s {v0 w : List Nat} {ss : List Stt} {c : Nat} (h : LW g L v0 w ss) (hne : ∀ s ∈ ss, s.1 ≠ []) (hc : ∃ s ∈ ss, s.1.head? = some c) (hm : ∀ s ∈ ss, ∀ d, s.1.head? = some d → c ≤ d) (h0 : Opt g L v0) (hv : ∀ z, Opt g L z → ¬ z < v0) : LW g L v0 (w ++ [c]) (nxt c ss) := by
  obtain ⟨⟨r, p⟩, hs, hr⟩ := hc
  cases r with
  | nil => cases hr
  | cons d r =>
  simp only [List.head?_cons, Option.some.injEq] at hr
  subst hr
  have cmn : ∀ v, Cm g L (nxt d ss) v ↔ Cm g L ss (d :: v) := by
    intro v
    unfold Cm
    constructor
    · rintro ⟨s, hs, t, h1, h2, h3⟩
      exact ⟨_, nxt_mem.mp hs, t, h1, h2, by rw [h3]; rfl⟩
    · rintro ⟨⟨q, p⟩, hs, t, h1, h2, h3⟩
      cases q with
      | nil => exact absurd rfl (hne _ hs)
      | cons e q =>
        simp only [List.cons_append, List.cons.injEq] at h3
        obtain ⟨rfl, h3⟩ := h3
        exact ⟨(q, p), nxt_mem.mpr hs, t, h1, h2, h3⟩
  refine ⟨fun e => ?_, fun s hs' => ?_, fun v => ?_, ?_⟩
  · have : (r, p) ∈ nxt d ss := nxt_mem.mpr hs
    rw [e] at this
    cases this
  · have := h.ok _ (nxt_mem.mp hs')
    simp only [List.length_cons, List.length_append, List.length_nil] at this ⊢
    omega
  · rw [cmn, h.cm, List.append_assoc]
    rfl
  · obtain ⟨u0, hu⟩ := h.pre
    have c0 : Cm g L ss u0 := (h.cm u0).mpr (by rw [hu]; exact h0)
    obtain ⟨⟨q, p2⟩, hs2, t, h1, h2, h3⟩ := c0
    cases q with
    | nil => exact absurd rfl (hne _ hs2)
    | cons c1 q =>
      have le := hm _ hs2 c1 rfl
      obtain ⟨t2, b1, b2⟩ := best_in (h.ok _ hs).2.1
      have o2 : Opt g L (w ++ (d :: (r ++ row t2))) := (h.cm _).mp ⟨_, hs, t2, b1, b2, rfl⟩
      have nl := hv _ o2
      have e : c1 = d := by
        by_cases e : d < c1
        · exfalso
          apply nl
          rw [← hu, h3]
          exact lt_app (List.Lex.rel e)
        · omega
      subst e
      exact ⟨q ++ row t, by rw [← hu, h3, List.append_assoc]; rfl⟩
theorem LW_end {v0 w : List Nat} {ss : List Stt} (h : LW g L v0 w ss) (hw : best g L 0 ≤ w.length) (h0 : Opt g L v0) : w = v0 := by
  obtain ⟨u, hu⟩ := h.pre
  obtain ⟨t, _, h2, h3⟩ := h0
  have l := row_len t
  rw [← h3, ← hu, List.length_append] at l
  have : u = [] := List.length_eq_zero_iff.mp (by omega)
  rw [← hu, this, List.append_nil]
theorem ex_min : ∀ l : List (List Nat), l ≠ [] → ∃ m ∈ l, ∀ z ∈ l, ¬ z < m
  | [], h => absurd rfl h
  | [a], _ => ⟨a, List.mem_singleton.mpr rfl, fun z hz => by rw [List.mem_singleton.mp hz]; exact irr_list _⟩
  | a :: b :: l, _ => by
    obtain ⟨m, h1, h2⟩ := ex_min (b :: l) (by simp)
    by_cases h : a < m
    · refine ⟨a, List.mem_cons_self, fun z hz => ?_⟩
      rcases List.mem_cons.mp hz with rfl | hz
      · exact irr_list _
      · exact fun hza => h2 z hz (List.lt_trans hza h)
    · refine ⟨m, List.mem_cons_of_mem _ h1, fun z hz => ?_⟩
      rcases List.mem_cons.mp hz with rfl | hz
      · exact h
      · exact h2 z hz
theorem ex_least (hb : best g L 0 < 1000000) : ∃ v0, Opt g L v0 ∧ ∀ z, Opt g L z → ¬ z < v0 := by
  have hm : ∀ z, z ∈ ((P g L 0).filter fun t => decide (cost t = best g L 0)).map row ↔ Opt g L z := by
    intro z
    unfold Opt
    simp only [List.mem_map, List.mem_filter, decide_eq_true_eq]
    constructor
    · rintro ⟨t, ⟨h1, h2⟩, rfl⟩
      exact ⟨t, h1, h2, rfl⟩
    · rintro ⟨t, h1, h2, rfl⟩
      exact ⟨t, ⟨h1, h2⟩, rfl⟩
  obtain ⟨t, h1, h2⟩ := best_in hb
  obtain ⟨m, h3, h4⟩ := ex_min (((P g L 0).filter fun t => decide (cost t = best g L 0)).map row) (fun e => by
    have := (hm (row t)).mpr ⟨t, h1, h2, rfl⟩
    rw [e] at this
    cases this)
  exact ⟨m, (hm m).mp h3, fun z hz => h4 z ((hm z).mpr hz)⟩
end
end DD

namespace DD
open PySem PySem.Spec PyProof.Rows L2
/-! ### states in a dict -/
theorem nd_le {α : Type} [DecidableEq α] : ∀ {l k : List α}, l.Nodup → (∀ x ∈ l, x ∈ k) → l.length ≤ k.length
  | [], _, _, _ => Nat.zero_le _
  | x :: l, k, h, hs => by
    rw [List.nodup_cons] at h
    have hx := hs x List.mem_cons_self
    have := nd_le (l := l) (k := k.erase x) h.2 fun y hy => (List.mem_erase_of_ne (fun e => h.1 (by rw [← e]; exact hy))).mpr (hs y (List.mem_cons_of_mem _ hy))
    rw [List.length_erase_of_mem hx] at this
    have := List.length_pos_of_mem hx
    rw [List.length_cons]
    omega
theorem fm_le {α β : Type} {f : α → List β} {m : Nat} : ∀ {l : List α}, (∀ a ∈ l, (f a).length ≤ m) → (l.flatMap f).length ≤ l.length * m
  | [], _ => by simp
  | a :: l, h => by
    rw [List.flatMap_cons, List.length_append, List.length_cons, Nat.succ_mul]
    have := h a List.mem_cons_self
    have := fm_le (f := f) (m := m) (l := l) fun b hb => h b (List.mem_cons_of_mem _ hb)
    omega
/-- rests of outlines, places -/
def Univ (us : List Ent) (L : Nat) : List Stt := us.flatMap fun e => (List.range 9).flatMap fun k => (List.range (L + 1)).map fun p => (e.1.drop k, p)
theorem univ_len {us : List Ent} {L : Nat} (hu : us.length ≤ 16) (hL : L ≤ 2000) : (Univ us L).length ≤ 300000 := by
  have h1 := fm_le (f := fun e : Ent => (List.range 9).flatMap fun k => (List.range (L + 1)).map fun p => ((e.1.drop k, p) : Stt)) (m := 9 * (L + 1)) (l := us) fun e _ => by
    have := fm_le (f := fun k => (List.range (L + 1)).map fun p => ((e.1.drop k, p) : Stt)) (m := L + 1) (l := List.range 9) fun k _ => by simp
    rw [List.length_range] at this
    exact this
  have h2 : us.length * (9 * (L + 1)) ≤ 16 * (9 * 2001) := Nat.mul_le_mul hu (by omega)
  unfold Univ
  omega
theorem univ_mem {us : List Ent} {L : Nat} {s : Stt} : s ∈ Univ us L ↔ ∃ e ∈ us, ∃ k, k < 9 ∧ s.2 < L + 1 ∧ s.1 = e.1.drop k := by
  unfold Univ
  simp only [List.mem_flatMap, List.mem_map, List.mem_range]
  constructor
  · rintro ⟨e, he, k, hk, p, hp, rfl⟩
    exact ⟨e, he, k, hk, hp, rfl⟩
  · rintro ⟨e, he, k, hk, hp, h⟩
    exact ⟨e, he, k, hk, s.2, hp, by rw [← h]⟩
/-- lists of states that a dict of the program may hold -/
structure InU (us : List Ent) (L : Nat) (ss : List Stt) : Prop where
  nd : ss.Nodup
  un : ∀ s ∈ ss, s ∈ Univ us L
theorem InU.len {us : List Ent} {L : Nat} {ss : List Stt} (h : InU us L ss) (hu : us.length ≤ 16) (hL : L ≤ 2000) : ss.length ≤ 300000 := Nat.le_trans (nd_le h.nd h.un) (univ_len hu hL)
theorem inU_ded {us : List Ent} {L : Nat} {acc ks : List Stt} (h : InU us L acc) (hk : ∀ s ∈ ks, s ∈ Univ us L) : InU us L (ded acc ks) := ⟨ded_nodup _ _ h.nd, fun s hs => by
  rcases (ded_mem _ _ _).mp hs with hs | hs
  · exact h.un s hs
  · exact hk s hs⟩
theorem gr_in {us : List Ent} {x : List Nat} {p : Nat} {a : Tr} (h : a ∈ gr us x p) : ∃ t, us[a.1]? = some (a.2.1, t) ∧ a.2.2 = p + t.length := by
  obtain ⟨b, hb, rfl⟩ := List.mem_map.mp h
  have := (numE_get (List.mem_filter.mp hb).1).2
  rw [Nat.sub_zero] at this
  exact ⟨b.2.2, this, rfl⟩
theorem univ_o {us : List Ent} {x : List Nat} {p : Nat} {a : Tr} (hg : Gr (gr us x) x.length) (h : a ∈ gr us x p) : ((a.2.1, a.2.2) : Stt) ∈ Univ us x.length := by
  obtain ⟨t, h1, h2⟩ := gr_in h
  have := hg.up p a h
  exact univ_mem.mpr ⟨_, List.mem_of_getElem? h1, 0, by omega, by dsimp only; omega, rfl⟩
theorem min_txs {cs : List Nat} (h : cs ≠ []) : ∃ m, m ∈ cs ∧ (∀ c ∈ cs, m ≤ c) ∧ minOf [.lst (cs.map fun c => tx [c])] = some (.sh (tx [m])) := by
  obtain ⟨c0, cs, rfl⟩ : ∃ c l, cs = c :: l := by
    cases cs with
    | nil => exact absurd rfl h
    | cons c l => exact ⟨c, l, rfl⟩
  have lt : ∀ y a : Nat, PySem.W.dataLt (.str (Sx [y])) (.str (Sx [a])) = decide (y < a) := by
    intro y a
    have h1 := ltD_tx (a := [y]) (b := [a])
    have h2 : ([y] < [a]) ↔ y < a := by
      constructor
      · intro h
        cases h with
        | rel h => exact h
        | cons h => cases h
      · exact fun h => List.Lex.rel h
    rw [h2] at h1
    by_cases hy : y < a
    · rw [decide_eq_true hy]; exact h1.mpr hy
    · rw [decide_eq_false hy]
      cases hd : PySem.W.dataLt (.str (Sx [y])) (.str (Sx [a])) with
      | false => rfl
      | true => exact absurd (h1.mp hd) hy
  have fold : ∀ (l : List Nat) (a : Nat), (l.map fun c => PyData.str (Sx [c])).foldl (fun a y => if PySem.W.dataLt y a then y else a) (.str (Sx [a])) = .str (Sx [l.foldl min a]) := by
    intro l
    induction l with
    | nil => intro a; rfl
    | cons b l ih =>
      intro a
      rw [List.map_cons, List.foldl_cons, List.foldl_cons, lt]
      by_cases hb : b < a
      · rw [decide_eq_true hb, if_pos rfl, ih, show min a b = b by omega]
      · rw [decide_eq_false hb, if_neg (by simp), ih, show min a b = a by omega]
  have fm : ∀ (l : List Nat) (a : Nat), (l.foldl min a = a ∨ l.foldl min a ∈ l) ∧ l.foldl min a ≤ a ∧ ∀ c ∈ l, l.foldl min a ≤ c := by
    intro l
    induction l with
    | nil => intro a; exact ⟨.inl rfl, Nat.le_refl _, by simp⟩
    | cons b l ih =>
      intro a
      obtain ⟨h1, h2, h3⟩ := ih (min a b)
      rw [List.foldl_cons]
      refine ⟨?_, by omega, fun c hc => ?_⟩
      · rcases h1 with h1 | h1
        · rw [h1]
          by_cases hab : a ≤ b
          · left; omega
          · right; rw [show min a b = b by omega]; exact List.mem_cons_self
        · exact .inr (List.mem_cons_of_mem _ h1)
      · rcases List.mem_cons.mp hc with rfl | hc
        · omega
        · exact h3 c hc
  obtain ⟨m1, m2, m3⟩ := fm cs c0
  refine ⟨cs.foldl min c0, ?_, fun c hc => ?_, ?_⟩
  · rcases m1 with m1 | m1
    · rw [m1]; exact List.mem_cons_self
    · exact List.mem_cons_of_mem _ m1
  · rcases List.mem_cons.mp hc with rfl | hc
    · exact m2
    · exact m3 c hc
  · have h : bestD PySem.W.minD ((c0 :: cs).map fun c => tx [c]) = some (tx [cs.foldl min c0]) := by
      have fl : flatL ((c0 :: cs).map fun c => tx [c]) = true := flatL_map (fun _ => rfl) _
      have al : alikes ((c0 :: cs).map fun c => tx [c]) = true := by
        unfold alikes
        simp only [List.all_map, List.all_eq_true, Function.comp]
        intro a _ b _
        rfl
      have nn : noNone ((c0 :: cs).map fun c => tx [c]) = true := by
        unfold noNone
        simp only [List.all_map, List.all_eq_true, Function.comp]
        intro a _
        rfl
      have dp : PyData.depthAll (pyL ((c0 :: cs).map fun c => tx [c])) ≤ 60 := by
        rw [pyL_map, List.map_map]
        have : ∀ l : List Nat, PyData.depthAll (l.map (py ∘ fun c => tx [c])) = 0 := by
          intro l
          induction l with
          | nil => rfl
          | cons a l ih =>
            rw [List.map_cons, PyData.depthAll, ih]
            rfl
        rw [this]; omega
      rw [List.map_cons] at fl al nn dp ⊢
      unfold bestD
      dsimp only
      rw [if_pos ⟨fl, al, nn, dp⟩, pyL_map, List.map_map]
      have := fold cs c0
      show ofPy (PySem.W.minD (.str (Sx [c0])) (cs.map fun c => PyData.str (Sx [c]))) = _
      unfold PySem.W.minD
      rw [this]
      rfl
    show (bestD PySem.W.minD _).map _ = _
    rw [h]; rfl
def kS (s : Stt) : List Key := [kx s.1, .inl ((s.2 : Nat) : Int)]
def stD (s : Stt) : D := .tup [tx s.1, .int (s.2 : Nat)]
theorem kS_inj {a b : Stt} (h : kS a = kS b) : a = b := by
  obtain ⟨a1, a2⟩ := a
  obtain ⟨b1, b2⟩ := b
  unfold kS at h
  simp only [List.cons.injEq, and_true] at h
  have h2 := Sum.inl.inj h.2
  rw [kx_inj h.1]
  have : a2 = b2 := by omega
  rw [this]
theorem keys_stt (ss : List Stt) (vs : List D) : keysD (.dT (ss.map kS) vs) = some (ss.map stD) := by
  show some ((ss.map kS).map fun k => D.tup (k.map keyD)) = _
  rw [List.map_map]
  rfl
theorem put_stt (ss : List Stt) (vs : List D) (s : Stt) (v : D) (hl : ss.length < sizeLine) : ∃ vs', putDat (.dT (ss.map kS) vs) (stD s) v = some (.dT ((ded ss [s]).map kS) vs') := by
  have h := ded_map kS (fun a b => kS_inj) [s] ss
  have e : (putD (ss.map kS) vs (kS s) v).1 = ded (ss.map kS) [kS s] := by
    unfold putD ded
    simp only [List.foldl_cons, List.foldl_nil]
    split <;> rfl
  have h : ded (ss.map kS) [kS s] = (ded ss [s]).map kS := h
  refine ⟨(putD (ss.map kS) vs (kS s) v).2, ?_⟩
  rw [← h, ← e]
  show (if (ss.map kS).length < sizeLine then some (D.dT (putD (ss.map kS) vs (kS s) v).1 (putD (ss.map kS) vs (kS s) v).2) else none) = _
  rw [if_pos (by rw [List.length_map]; exact hl)]
theorem ded_app {κ : Type} [DecidableEq κ] (acc a b : List κ) : ded acc (a ++ b) = ded (ded acc a) b := by
  unfold ded
  rw [List.foldl_append]
theorem ded_flat {κ α : Type} [DecidableEq κ] (f : α → List κ) : ∀ (as : List α) (acc : List κ), as.foldl (fun acc a => ded acc (f a)) acc = ded acc (as.flatMap f)
  | [], acc => rfl
  | a :: as, acc => by
    rw [List.foldl_cons, ded_flat f as, List.flatMap_cons, ded_app]
end DD

namespace DD
open PySem PySem.Spec PyProof.Rows L2
/-! ### begun_on -/
noncomputable abbrev bgC : FE := (f2 eqF (f2 addD (fVar 8) (f2 ixD (fVar 2) (fVar 9))) (f2 ixD (fVar 2) (fVar 6)))
noncomputable abbrev bgIn : FS := (sSeq (sIf (fB bgC) (sSeq (sPut (fC (.bl true)) (fVar 4) (fTup (fCons (f2 ixD (f2 ixD (fVar 0) (fVar 7)) (fC (.int 0))) (fCons (fVar 9) fNil))))
  sNil) sNil)
  sNil)
noncomputable abbrev bgOut : FS := (sSeq (sIf (fB (f2 neF (fVar 5) (fC (.str "")))) (sSeq (sPut (fC (.bl true)) (fVar 4) (fTup (fCons (fVar 5) (fCons (fVar 6) fNil))))
  sNil) (sSeq (sFor (fIter (fCall G_entries_on (aCons (fVar 0) (aCons (fVar 1) (aCons (fVar 6) aNil))))) (gTupD 3 (gsCons (gN 7) (gsCons (gN 8) (gsCons (gN 9) gsNil)))) bgIn)
  sNil))
  sNil)
theorem set3b {d0 d1 d2 d3 d4 d5 d6 s4 s5 s6 : Option Slot} (f4 : Fr s4) (f5 : Fr s5) (f6 : Fr s6) {i o q : Int} : gTupD 3 (gsCons (gN 7) (gsCons (gN 8) (gsCons (gN 9) gsNil))) (.tup [.int i, .int o, .int q]) [d0, d1, d2, d3, d4, d5, d6, s4, s5, s6] = some [d0, d1, d2, d3, d4, d5, d6, some ⟨false, false, .int i⟩, some ⟨false, false, .int o⟩, some ⟨false, false, .int q⟩] := by
  simp [st_fr, f4, f5, f6, -r_stT]
theorem set2b {d0 d1 d2 d3 d4 s5 s6 s7 s8 s9 : Option Slot} (f5 : Fr s5) (f6 : Fr s6) {x y : D} : gTupD 2 (gsCons (gN 5) (gsCons (gN 6) gsNil)) (.tup [x, y]) [d0, d1, d2, d3, d4, s5, s6, s7, s8, s9] = some [d0, d1, d2, d3, d4, some ⟨false, false, x⟩, some ⟨false, false, y⟩, s7, s8, s9] := by
  simp [st_fr, f5, f6, -r_stT]
theorem bg_yes {d1 so s5 : Option Slot} {dd tb rest : List D} {dt dt' ol : D} {p i o q vq vp : Int} (t1 : atI tb q = some (.int vq)) (t2 : atI tb p = some (.int vp)) (hv : o + vq = vp) (hd : atI dd i = some (.tup (ol :: rest))) (hp : putDat dt (.tup [ol, .int q]) (.bl true) = some dt') :
    bgIn [some ⟨false, false, .tup dd⟩, d1, some ⟨true, true, .lst tb⟩, so, some ⟨false, true, dt⟩, s5, some ⟨false, false, .int p⟩, some ⟨false, false, .int i⟩, some ⟨false, false, .int o⟩, some ⟨false, false, .int q⟩] =
      some (.nx [some ⟨false, false, .tup dd⟩, d1, some ⟨true, true, .lst tb⟩, so, some ⟨false, true, dt'⟩, s5, some ⟨false, false, .int p⟩, some ⟨false, false, .int i⟩, some ⟨false, false, .int o⟩, some ⟨false, false, .int q⟩]) := by
  simp [t1, t2, hv, hd, hp, sz]
theorem bg_no {d1 so s5 : Option Slot} {dd tb : List D} {dt : D} {p i o q vq vp : Int} (t1 : atI tb q = some (.int vq)) (t2 : atI tb p = some (.int vp)) (hv : o + vq ≠ vp) :
    bgIn [some ⟨false, false, .tup dd⟩, d1, some ⟨true, true, .lst tb⟩, so, some ⟨false, true, dt⟩, s5, some ⟨false, false, .int p⟩, some ⟨false, false, .int i⟩, some ⟨false, false, .int o⟩, some ⟨false, false, .int q⟩] =
      some (.nx [some ⟨false, false, .tup dd⟩, d1, some ⟨true, true, .lst tb⟩, so, some ⟨false, true, dt⟩, s5, some ⟨false, false, .int p⟩, some ⟨false, false, .int i⟩, some ⟨false, false, .int o⟩, some ⟨false, false, .int q⟩]) := by
  simp [t1, t2, hv]
theorem fm_filter {α β : Type} (b : α → Bool) (f : α → β) : ∀ l : List α, (l.flatMap fun a => if b a = true then [f a] else []) = (l.filter b).map f
  | [] => rfl
  | a :: l => by
    rw [List.flatMap_cons, fm_filter b f l, List.filter_cons]
    by_cases h : b a = true
    · simp [h]
    · simp [h]
theorem bg_in {us : List Ent} {x : List Nat} (h : Dic us) (hx : x.length ≤ 2000) {p : Nat} (hp : p < x.length) {so s5 : Option Slot} {acc : List Stt} (hacc : InU us x.length acc) {vs : List D} {s7 s8 s9 : Option Slot} (f7 : Fr s7) (f8 : Fr s8) (f9 : Fr s9) :
    ∃ e', loopF (gTupD 3 (gsCons (gN 7) (gsCons (gN 8) (gsCons (gN 9) gsNil)))) bgIn ((gr us x p).map trD) [some ⟨false, false, dicD us⟩, some ⟨false, false, tx x⟩, some ⟨true, true, .lst (tabL (x.length + 1) (best (gr us x) x.length))⟩, so, some ⟨false, true, .dT (acc.map kS) vs⟩, s5, some ⟨false, false, .int (p : Nat)⟩, s7, s8, s9] = some (.nx e') ∧
      ∃ vs s7 s8 s9, Fr s7 ∧ Fr s8 ∧ Fr s9 ∧ e' = [some ⟨false, false, dicD us⟩, some ⟨false, false, tx x⟩, some ⟨true, true, .lst (tabL (x.length + 1) (best (gr us x) x.length))⟩, so, some ⟨false, true, .dT ((ded acc ((tight (gr us x) x.length p).map fun a => (a.2.1, a.2.2))).map kS) vs⟩, s5, some ⟨false, false, .int (p : Nat)⟩, s7, s8, s9] := by
  have hg := gr_ok (x := x) h
  obtain ⟨e', w, ⟨_, vs', z7, z8, z9, g7, g8, g9, he⟩⟩ := loop_fold (g := gTupD 3 (gsCons (gN 7) (gsCons (gN 8) (gsCons (gN 9) gsNil)))) (S := bgIn) trD
    (fun acc e => InU us x.length acc ∧ ∃ vs s7 s8 s9, Fr s7 ∧ Fr s8 ∧ Fr s9 ∧ e = [some ⟨false, false, dicD us⟩, some ⟨false, false, tx x⟩, some ⟨true, true, .lst (tabL (x.length + 1) (best (gr us x) x.length))⟩, so, some ⟨false, true, .dT (acc.map kS) vs⟩, s5, some ⟨false, false, .int (p : Nat)⟩, s7, s8, s9])
    (fun acc a => ded acc (if decide (a.2.1.length + best (gr us x) x.length a.2.2 = best (gr us x) x.length p) = true then [(a.2.1, a.2.2)] else [])) (gr us x p) acc _ ⟨hacc, vs, s7, s8, s9, f7, f8, f9, rfl⟩ (by
      rintro acc a e ha ⟨hacc, vs, s7, s8, s9, f7, f8, f9, rfl⟩
      have hu := hg.up p a ha
      have key2 := set3b (d0 := some ⟨false, false, dicD us⟩) (d1 := some ⟨false, false, tx x⟩) (d2 := some ⟨true, true, .lst (tabL (x.length + 1) (best (gr us x) x.length))⟩) (d3 := so) (d4 := some ⟨false, true, .dT (acc.map kS) vs⟩) (d5 := s5) (d6 := some ⟨false, false, .int (p : Nat)⟩) (i := (a.1 : Nat)) (o := (a.2.1.length : Nat)) (q := (a.2.2 : Nat)) f7 f8 f9
      have t1 := tab_at (n := x.length + 1) (p := a.2.2) (f := best (gr us x) x.length) (by omega)
      have t2 := tab_at (n := x.length + 1) (p := p) (f := best (gr us x) x.length) (by omega)
      by_cases hv : a.2.1.length + best (gr us x) x.length a.2.2 = best (gr us x) x.length p
      · obtain ⟨t, q1, q2⟩ := gr_in ha
        have hd : atI (us.map ent) ((a.1 : Nat) : Int) = some (.tup (tx a.2.1 :: [tx t])) := atI_n (by rw [List.getElem?_map, q1]; rfl)
        obtain ⟨vs', hput⟩ := put_stt acc vs (a.2.1, a.2.2) (.bl true) (by
          have := hacc.len h.few hx
          rw [sz]; omega)
        have hv' : ((a.2.1.length : Nat) : Int) + ((best (gr us x) x.length a.2.2 : Nat) : Int) = ((best (gr us x) x.length p : Nat) : Int) := by omega
        have key := bg_yes (d1 := some ⟨false, false, tx x⟩) (so := so) (s5 := s5) t1 t2 hv' hd hput
        rw [decide_eq_true hv, if_pos rfl]
        refine ⟨_, _, key2, key, inU_ded hacc fun s hs => ?_, ?_⟩
        · rw [List.mem_singleton.mp hs]
          exact univ_o hg ha
        · exact ⟨vs', some ⟨false, false, .int (a.1 : Nat)⟩, some ⟨false, false, .int (a.2.1.length : Nat)⟩, some ⟨false, false, .int (a.2.2 : Nat)⟩, fr_ok, fr_ok, fr_ok, rfl⟩
      · have hv' : ((a.2.1.length : Nat) : Int) + ((best (gr us x) x.length a.2.2 : Nat) : Int) ≠ ((best (gr us x) x.length p : Nat) : Int) := by omega
        have key := bg_no (d1 := some ⟨false, false, tx x⟩) (so := so) (s5 := s5) (dd := us.map ent) (dt := .dT (acc.map kS) vs) (i := (a.1 : Nat)) t1 t2 hv'
        rw [decide_eq_false hv, if_neg (by simp)]
        refine ⟨_, _, key2, key, hacc, ?_⟩
        exact ⟨vs, some ⟨false, false, .int (a.1 : Nat)⟩, some ⟨false, false, .int (a.2.1.length : Nat)⟩, some ⟨false, false, .int (a.2.2 : Nat)⟩, fr_ok, fr_ok, fr_ok, rfl⟩)
  refine ⟨e', w, vs', z7, z8, z9, g7, g8, g9, ?_⟩
  rw [ded_flat (fun a : Tr => if decide (a.2.1.length + best (gr us x) x.length a.2.2 = best (gr us x) x.length p) = true then [((a.2.1, a.2.2) : Stt)] else []), fm_filter (fun a : Tr => decide (a.2.1.length + best (gr us x) x.length a.2.2 = best (gr us x) x.length p)) (fun a : Tr => ((a.2.1, a.2.2) : Stt))] at he
  exact he
theorem lent_of {e e' : DEnv} {i : Nat} (h : ∀ j s', e'[j]? = some (some s') → s'.lent = true → j = i ∨ ∃ s, e[j]? = some (some s) ∧ s.lent = true) : lentSame e e' i = true := by
  unfold lentSame
  rw [List.all_eq_true]
  intro j _
  split
  · rename_i s' hs
    cases hl : s'.lent with
    | false => rfl
    | true =>
      rcases h j s' hs hl with rfl | ⟨s, h1, h2⟩
      · simp
      · rw [h1]
        simp [h2]
  · rfl
theorem bgo_yes {d0 d1 d2 so s7 s8 s9 : Option Slot} {dt dt' : D} {r : List Nat} {p : Int} (hr : r ≠ []) (hp : putDat dt (.tup [tx r, .int p]) (.bl true) = some dt') :
    bgOut [d0, d1, d2, so, some ⟨false, true, dt⟩, some ⟨false, false, tx r⟩, some ⟨false, false, .int p⟩, s7, s8, s9] = some (.nx [d0, d1, d2, so, some ⟨false, true, dt'⟩, some ⟨false, false, tx r⟩, some ⟨false, false, .int p⟩, s7, s8, s9]) := by
  simp [str_empty, hr, hp, sz]
theorem bgo_no {d0 d1 : D} {d2 so s4 s7 s8 s9 : Option Slot} {p : Int} {es : List D} {e' : DEnv} (ek : G_entries_on [(false, d0), (false, d1), (false, .int p)] = some ((true, .lst es), [(false, .non), (false, .non), (false, .non)]))
    (w : loopF (gTupD 3 (gsCons (gN 7) (gsCons (gN 8) (gsCons (gN 9) gsNil)))) bgIn es [some ⟨false, false, d0⟩, some ⟨false, false, d1⟩, d2, so, s4, some ⟨false, false, tx []⟩, some ⟨false, false, .int p⟩, s7, s8, s9] = some (.nx e')) :
    bgOut [some ⟨false, false, d0⟩, some ⟨false, false, d1⟩, d2, so, s4, some ⟨false, false, tx []⟩, some ⟨false, false, .int p⟩, s7, s8, s9] = some (.nx e') := by
  unfold bgOut
  generalize bgIn = B at w ⊢
  simp [str_empty, ek, w]
end DD

namespace DD
open PySem PySem.Spec PyProof.Rows L2
theorem bg_out {us : List Ent} {x : List Nat} (h : Dic us) (hx : x.length ≤ 2000) {ss : List Stt} (hss : InU us x.length ss) (hlt : ∀ s ∈ ss, s.1 = [] → s.2 < x.length) :
    ∃ e', loopF (gTupD 2 (gsCons (gN 5) (gsCons (gN 6) gsNil))) bgOut (ss.map stD) [some ⟨false, false, dicD us⟩, some ⟨false, false, tx x⟩, some ⟨true, true, .lst (tabL (x.length + 1) (best (gr us x) x.length))⟩, some opqS, some ⟨false, true, .dT [] []⟩, none, none, none, none, none] = some (.nx e') ∧
      InU us x.length (bgn (gr us x) x.length ss) ∧ ∃ vs s5 s6 s7 s8 s9, Fr s5 ∧ Fr s6 ∧ Fr s7 ∧ Fr s8 ∧ Fr s9 ∧ e' = [some ⟨false, false, dicD us⟩, some ⟨false, false, tx x⟩, some ⟨true, true, .lst (tabL (x.length + 1) (best (gr us x) x.length))⟩, some opqS, some ⟨false, true, .dT ((bgn (gr us x) x.length ss).map kS) vs⟩, s5, s6, s7, s8, s9] := by
  have hg := gr_ok (x := x) h
  obtain ⟨e', w, hI, vs', z5, z6, z7, z8, z9, g5, g6, g7, g8, g9, he⟩ := loop_fold (g := gTupD 2 (gsCons (gN 5) (gsCons (gN 6) gsNil))) (S := bgOut) stD
    (fun acc e => InU us x.length acc ∧ ∃ vs s5 s6 s7 s8 s9, Fr s5 ∧ Fr s6 ∧ Fr s7 ∧ Fr s8 ∧ Fr s9 ∧ e = [some ⟨false, false, dicD us⟩, some ⟨false, false, tx x⟩, some ⟨true, true, .lst (tabL (x.length + 1) (best (gr us x) x.length))⟩, some opqS, some ⟨false, true, .dT (acc.map kS) vs⟩, s5, s6, s7, s8, s9])
    (fun acc s => ded acc (bg (gr us x) x.length s)) ss [] [some ⟨false, false, dicD us⟩, some ⟨false, false, tx x⟩, some ⟨true, true, .lst (tabL (x.length + 1) (best (gr us x) x.length))⟩, some opqS, some ⟨false, true, .dT [] []⟩, none, none, none, none, none] ⟨⟨.nil, by simp⟩, [], none, none, none, none, none, trivial, trivial, trivial, trivial, trivial, rfl⟩ (by
      rintro acc s e hs ⟨hacc, vs, s5, s6, s7, s8, s9, f5, f6, f7, f8, f9, rfl⟩
      have key2 := set2b (d0 := some ⟨false, false, dicD us⟩) (d1 := some ⟨false, false, tx x⟩) (d2 := some ⟨true, true, .lst (tabL (x.length + 1) (best (gr us x) x.length))⟩) (d3 := some opqS) (d4 := some ⟨false, true, .dT (acc.map kS) vs⟩) (s7 := s7) (s8 := s8) (s9 := s9) f5 f6 (x := tx s.1) (y := .int (s.2 : Nat))
      have hsu := univ_mem.mp (hss.un s hs)
      unfold bg
      by_cases hr : s.1 = []
      · have hl := hlt s hs hr
        have ek := entries_ok (us := us) (x := x) (p := s.2) (by have := h.few; omega) (by omega) (by omega) h.h8
        obtain ⟨e2, w2, vs2, z7, z8, z9, g7, g8, g9, rfl⟩ := bg_in h hx hl (so := some opqS) (s5 := some ⟨false, false, tx s.1⟩) hacc (vs := vs) f7 f8 f9
        rw [if_neg (by simpa using hr)]
        refine ⟨_, _, key2, ?_, inU_ded hacc fun r hr' => ?_, vs2, some ⟨false, false, tx s.1⟩, some ⟨false, false, .int (s.2 : Nat)⟩, z7, z8, z9, fr_ok, fr_ok, g7, g8, g9, rfl⟩
        · rw [hr] at w2 ⊢
          exact bgo_no ek w2
        · obtain ⟨a, ha, rfl⟩ := List.mem_map.mp hr'
          exact univ_o hg (tight_mem.mp ha).1
      · obtain ⟨vs', hput⟩ := put_stt acc vs s (.bl true) (by
          have := hacc.len h.few hx
          rw [sz]; omega)
        rw [if_pos hr]
        refine ⟨_, _, key2, bgo_yes hr hput, inU_ded hacc fun r hr' => ?_, vs', some ⟨false, false, tx s.1⟩, some ⟨false, false, .int (s.2 : Nat)⟩, s7, s8, s9, fr_ok, fr_ok, f7, f8, f9, rfl⟩
        rw [List.mem_singleton.mp hr']
        exact hss.un s hs)
  rw [ded_flat (bg (gr us x) x.length)] at hI he
  exact ⟨e', w, hI, vs', z5, z6, z7, z8, z9, g5, g6, g7, g8, g9, he⟩
theorem begun_run {d0 d1 dt dt' : D} {tb ks : List D} {s5 s6 s7 s8 s9 : Option Slot} (hk : keysD dt = some ks) (f5 : Fr s5) (f6 : Fr s6) (f7 : Fr s7) (f8 : Fr s8) (f9 : Fr s9)
    (w : loopF (gTupD 2 (gsCons (gN 5) (gsCons (gN 6) gsNil))) bgOut ks [some ⟨false, false, d0⟩, some ⟨false, false, d1⟩, some ⟨true, true, .lst tb⟩, some opqS, some ⟨false, true, .dT [] []⟩, none, none, none, none, none] = some (.nx [some ⟨false, false, d0⟩, some ⟨false, false, d1⟩, some ⟨true, true, .lst tb⟩, some opqS, some ⟨false, true, dt'⟩, s5, s6, s7, s8, s9])) :
    G_begun_on [(false, d0), (false, d1), (true, .lst tb), (true, dt)] = some ((true, dt'), [(false, .non), (false, .non), (true, .lst tb), (true, dt)]) := by
  have ls : lentSame [some ⟨false, false, d0⟩, some ⟨false, false, d1⟩, some ⟨true, true, .lst tb⟩, some ⟨true, true, dt⟩, some ⟨false, true, .dT [] []⟩, none, none, none, none, none] [some ⟨false, false, d0⟩, some ⟨false, false, d1⟩, some ⟨true, true, .lst tb⟩, some opqS, some ⟨false, true, dt'⟩, s5, s6, s7, s8, s9] 3 = true := by
    have fr : ∀ {s : Option Slot} {s' : Slot}, Fr s → s = some s' → s'.lent = true → False := by
      rintro _ s' f rfl hl
      have f : s'.lent = false := f
      rw [f] at hl
      cases hl
    refine lent_of fun j s' h1 h2 => ?_
    match j, h1 with
    | 0, h1 => cases h1; cases h2
    | 1, h1 => cases h1; cases h2
    | 2, h1 => exact .inr ⟨_, rfl, rfl⟩
    | 3, h1 => exact .inl rfl
    | 4, h1 => cases h1; cases h2
    | 5, h1 => exact (fr f5 (Option.some.inj h1) h2).elim
    | 6, h1 => exact (fr f6 (Option.some.inj h1) h2).elim
    | 7, h1 => exact (fr f7 (Option.some.inj h1) h2).elim
    | 8, h1 => exact (fr f8 (Option.some.inj h1) h2).elim
    | 9, h1 => exact (fr f9 (Option.some.inj h1) h2).elim
  have sf : sForD 3 (gTupD 2 (gsCons (gN 5) (gsCons (gN 6) gsNil))) bgOut [some ⟨false, false, d0⟩, some ⟨false, false, d1⟩, some ⟨true, true, .lst tb⟩, some ⟨true, true, dt⟩, some ⟨false, true, .dT [] []⟩, none, none, none, none, none] = some (.nx [some ⟨false, false, d0⟩, some ⟨false, false, d1⟩, some ⟨true, true, .lst tb⟩, some ⟨true, true, dt⟩, some ⟨false, true, dt'⟩, s5, s6, s7, s8, s9]) := by
    have w' := w
    unfold sForD
    generalize bgOut = B at w ⊢
    simp only [List.getElem?_cons_succ, List.getElem?_cons_zero, if_true, hk, List.set_cons_succ, List.set_cons_zero, w, openD]
    rw [if_pos ⟨rfl, ls⟩]
  have e : G_begun_on = runDef 4 10 (sSeq (sSet 4 fNewT) (sSeq (sForD 3 (gTupD 2 (gsCons (gN 5) (gsCons (gN 6) gsNil))) bgOut) (sSeq (sRet (fVar 4)) sNil))) := rfl
  rw [e]
  generalize sForD 3 (gTupD 2 (gsCons (gN 5) (gsCons (gN 6) gsNil))) bgOut = B at sf
  simp [outs_eq, sf]
theorem begun_ok {us : List Ent} {x : List Nat} (h : Dic us) (hx : x.length ≤ 2000) {ss : List Stt} (hss : InU us x.length ss) (hlt : ∀ s ∈ ss, s.1 = [] → s.2 < x.length) (vs : List D) :
    InU us x.length (bgn (gr us x) x.length ss) ∧ ∃ vs', G_begun_on [(false, dicD us), (false, tx x), (true, .lst (tabL (x.length + 1) (best (gr us x) x.length))), (true, .dT (ss.map kS) vs)] =
      some ((true, .dT ((bgn (gr us x) x.length ss).map kS) vs'), [(false, .non), (false, .non), (true, .lst (tabL (x.length + 1) (best (gr us x) x.length))), (true, .dT (ss.map kS) vs)]) := by
  obtain ⟨e', w, hI, vs', s5, s6, s7, s8, s9, f5, f6, f7, f8, f9, rfl⟩ := bg_out h hx hss hlt
  exact ⟨hI, vs', begun_run (keys_stt ss vs) f5 f6 f7 f8 f9 w⟩
end DD

namespace DD
open PySem PySem.Spec PyProof.Rows L2
/-! ### least_written -/
theorem one_Sx (c : Nat) : (⟨#[c]⟩ : Str) = Sx [c] := rfl
theorem cps_Sx (l : List Nat) : (Sx l).cps.toList = l := rfl
theorem lcD8 {A : FB} {F : FE} {d0 d1 dt : D} {tb ks acc : List D} {w : Str} {s5 : Option Slot} {g : GD} (f5 : Fr s5) (hk : keysD dt = some ks)
    (l : lcF [6, 7] g A F ks [] [some ⟨false, false, d0⟩, some ⟨false, false, d1⟩, some ⟨false, true, .lst tb⟩, some ⟨false, false, .str w⟩, some opqS, s5, none, none] = some (acc, [some ⟨false, false, d0⟩, some ⟨false, false, d1⟩, some ⟨false, true, .lst tb⟩, some ⟨false, false, .str w⟩, some opqS, s5, none, none])) :
    fLcD 4 [6, 7] g A F [some ⟨false, false, d0⟩, some ⟨false, false, d1⟩, some ⟨false, true, .lst tb⟩, some ⟨false, false, .str w⟩, some ⟨false, true, dt⟩, s5, none, none] = some (.ow (.lst acc), [some ⟨false, false, d0⟩, some ⟨false, false, d1⟩, some ⟨false, true, .lst tb⟩, some ⟨false, false, .str w⟩, some ⟨false, true, dt⟩, s5, none, none]) := by
  have ls : lentSame [some ⟨false, false, d0⟩, some ⟨false, false, d1⟩, some ⟨false, true, .lst tb⟩, some ⟨false, false, .str w⟩, some ⟨false, true, dt⟩, s5, none, none] [some ⟨false, false, d0⟩, some ⟨false, false, d1⟩, some ⟨false, true, .lst tb⟩, some ⟨false, false, .str w⟩, some opqS, s5, none, none] 4 = true := by
    have fr : ∀ {s : Option Slot} {s' : Slot}, Fr s → s = some s' → s'.lent = true → False := by
      rintro _ s' f rfl hl
      have f : s'.lent = false := f
      rw [f] at hl
      cases hl
    refine lent_of fun j s' h1 h2 => ?_
    match j, h1 with
    | 0, h1 => cases h1; cases h2
    | 1, h1 => cases h1; cases h2
    | 2, h1 => cases h1; cases h2
    | 3, h1 => cases h1; cases h2
    | 4, h1 => exact .inl rfl
    | 5, h1 => exact (fr f5 (Option.some.inj h1) h2).elim
    | 6, h1 => cases h1
    | 7, h1 => cases h1
  unfold fLcD
  simp only [List.getElem?_cons_succ, List.getElem?_cons_zero, if_true, hk, List.set_cons_succ, List.set_cons_zero, w_1, w_0, l, u_1, u_0, k_S]
  exact if_pos ⟨rfl, ls⟩
noncomputable abbrev lwT : GD := (gTupD 2 (gsCons (gN 6) (gsCons (gN 7) gsNil)))
noncomputable abbrev lwF1 : FE := (f2 ixD (fVar 6) (fC (.int 0)))
noncomputable abbrev lwA2 : FB := (fB (f2 eqF (f2 ixD (fVar 6) (fC (.int 0))) (fVar 5)))
noncomputable abbrev lwF2 : FE := (fTup (fCons (fTup (fCons (fSl (fVar 6) (fPart (fC (.int 1))) fNoPart) (fCons (fVar 7) fNil))) (fCons (fC (.bl true)) fNil)))
noncomputable abbrev lwA : FB := (fB (f2 (ltF false false) (fBlt lenD (qCons (fVar 3) qNil)) (f2 ixD (fVar 2) (fC (.int 0)))))
noncomputable abbrev lwS : FS := (sSeq (sSet 4 (fCall G_begun_on (aCons (fVar 0) (aCons (fVar 1) (aCons (fVar 2) (aCons (fVar 4) aNil))))))
  (sSeq (sSet 5 (fBlt minOf (qCons (fLcD 4 [6, 7] lwT fYes lwF1) qNil)))
  (sSeq (sSet 3 (f2 addD (fVar 3) (fVar 5)))
  (sSeq (sSet 4 (fBlt dictD (qCons (fLcD 4 [6, 7] lwT lwA2 lwF2) qNil)))
  sNil))))
theorem lw_body {d0 d1 dt dt1 dt2 : D} {tb ks vl ps : List D} {w c : List Nat} {s5 : Option Slot} (f5 : Fr s5)
    (hb : G_begun_on [(false, d0), (false, d1), (true, .lst tb), (true, dt)] = some ((true, dt1), [(false, .non), (false, .non), (true, .lst tb), (true, dt)])) (hk : keysD dt1 = some ks)
    (l1 : lcF [6, 7] lwT fYes lwF1 ks [] [some ⟨false, false, d0⟩, some ⟨false, false, d1⟩, some ⟨false, true, .lst tb⟩, some ⟨false, false, tx w⟩, some opqS, s5, none, none] = some (vl, [some ⟨false, false, d0⟩, some ⟨false, false, d1⟩, some ⟨false, true, .lst tb⟩, some ⟨false, false, tx w⟩, some opqS, s5, none, none]))
    (hm : minOf [.lst vl] = some (.sh (tx c)))
    (l2 : lcF [6, 7] lwT lwA2 lwF2 ks [] [some ⟨false, false, d0⟩, some ⟨false, false, d1⟩, some ⟨false, true, .lst tb⟩, some ⟨false, false, tx (w ++ c)⟩, some opqS, some ⟨false, false, tx c⟩, none, none] = some (ps, [some ⟨false, false, d0⟩, some ⟨false, false, d1⟩, some ⟨false, true, .lst tb⟩, some ⟨false, false, tx (w ++ c)⟩, some opqS, some ⟨false, false, tx c⟩, none, none]))
    (hd : dictD [.lst ps] = some (.ow dt2)) (hz : w.length + c.length ≤ sizeLine) :
    lwS [some ⟨false, false, d0⟩, some ⟨false, false, d1⟩, some ⟨false, true, .lst tb⟩, some ⟨false, false, tx w⟩, some ⟨false, true, dt⟩, s5, none, none] =
      some (.nx [some ⟨false, false, d0⟩, some ⟨false, false, d1⟩, some ⟨false, true, .lst tb⟩, some ⟨false, false, tx (w ++ c)⟩, some ⟨false, true, dt2⟩, some ⟨false, false, tx c⟩, none, none]) := by
  have r1 := lcD8 f5 hk l1
  have r2 := lcD8 fr_ok hk l2
  have ad : addD (tx w) (tx c) = some (.sh (tx (w ++ c))) := by
    show (if (Sx w).length + (Sx c).length ≤ sizeLine then some (T.sh (.str (Sx w ++ Sx c))) else none) = _
    rw [Sx_len, Sx_len, if_pos hz, Sx_add]
  unfold lwS
  generalize fLcD 4 [6, 7] lwT fYes lwF1 = C1 at r1
  generalize fLcD 4 [6, 7] lwT lwA2 lwF2 = C2 at r2
  simp [hb, r1, hm, st_fr, f5, ad, r2, hd, -r_stT]
theorem lw_test {d0 d1 dt : D} {w : List Nat} {f : Nat → Nat} {n : Nat} {s5 : Option Slot} (hw : w.length ≤ sizeLine) :
    lwA [some ⟨false, false, d0⟩, some ⟨false, false, d1⟩, some ⟨false, true, .lst (tabL (n + 1) f)⟩, some ⟨false, false, tx w⟩, some ⟨false, true, dt⟩, s5, none, none] = some (decide (w.length < f 0), [some ⟨false, false, d0⟩, some ⟨false, false, d1⟩, some ⟨false, true, .lst (tabL (n + 1) f)⟩, some ⟨false, false, tx w⟩, some ⟨false, true, dt⟩, s5, none, none]) := by
  have t : atI (tabL (n + 1) f) 0 = some (.int (f 0 : Nat)) := tab_at (n := n + 1) (p := 0) (by omega)
  generalize tabL (n + 1) f = tb at t ⊢
  simp [hw, t]
theorem pairsT_stt : ∀ ls : List Stt, pairsT (ls.map fun s => .tup [stD s, .bl true]) = some (ls.map fun s => (kS s, .bl true))
  | [] => rfl
  | l :: ls => by
    rw [List.map_cons]
    unfold stD
    rw [pairsT]
    have := pairsT_stt ls
    unfold stD at this
    rw [this]
    rfl
theorem pairsK_stt {e : Stt} {ls : List Stt} : pairsK ((e :: ls).map fun s => .tup [stD s, .bl true]) = none := by
  rw [List.map_cons]
  unfold stD
  rw [pairsK]
  rfl
theorem dict_stt {ls : List Stt} (h : ls ≠ []) : ∃ vs, dictD [.lst (ls.map fun s => .tup [stD s, .bl true])] = some (.ow (.dT ((ded [] ls).map kS) vs)) := by
  have h1 := merge_keys (ls.map fun l => (kS l, D.bl true)) ([], [])
  rw [List.map_map] at h1
  have h2 := ded_map kS (fun a b => kS_inj) ls []
  have h3 : (mergeD ([], []) (ls.map fun l => (kS l, D.bl true))).1 = (ded [] ls).map kS := by
    rw [h1]
    exact h2
  refine ⟨(mergeD ([], []) (ls.map fun l => (kS l, D.bl true))).2, ?_⟩
  unfold dictD
  dsimp only
  match ls, h with
  | e :: ls, _ =>
    rw [pairsK_stt, pairsT_stt, ← h3]
theorem lw_t1 {s0 s1 s2 s3 s4 s5 : Option Slot} {d : Nat} {r : List Nat} {p : Int} (hl : r.length ≤ 1000) : turnF [6, 7] lwT fYes lwF1 (.tup [tx (d :: r), .int p]) [s0, s1, s2, s3, s4, s5, none, none] = some (some (tx [d]), [s0, s1, s2, s3, s4, s5, none, none]) := by
  have h : r.length + 1 ≤ 16777216 := by omega
  simp [turnF, sz, h, one_Sx, cps_Sx]
theorem lw_t2 {s0 s1 s2 s3 s4 : Option Slot} {d c : Nat} {r : List Nat} {p : Int} (hl : r.length ≤ 1000) : turnF [6, 7] lwT lwA2 lwF2 (.tup [tx (d :: r), .int p]) [s0, s1, s2, s3, s4, some ⟨false, false, tx [c]⟩, none, none] = some (if decide (d = c) = true then some (.tup [.tup [tx r, .int p], .bl true]) else none, [s0, s1, s2, s3, s4, some ⟨false, false, tx [c]⟩, none, none]) := by
  have h : r.length + 1 ≤ 16777216 := by omega
  have cu : slD (tx (d :: r)) (some 1) none = some (.sh (tx r)) := by
    show (if (Sx (d :: r)).length ≤ sizeLine then some (T.sh (.str (cutS (Sx (d :: r)) (some 1) none))) else none) = _
    rw [Sx_len, if_pos (by rw [sz, List.length_cons]; exact h), Sx_cut, cut_from1]
    rfl
  by_cases hd : d = c
  · simp [turnF, sz, h, one_Sx, cps_Sx, cu, hd]
    simp [← hd, cu]
  · simp [turnF, sz, h, one_Sx, cps_Sx, cu, hd]
end DD

namespace DD
open PySem PySem.Spec PyProof.Rows L2
theorem lw_loop {us : List Ent} {x v0 : List Nat} (h : Dic us) (hx : x.length ≤ 2000) (hb : best (gr us x) x.length 0 < 1000000) (h0 : Opt (gr us x) x.length v0) (hv : ∀ z, Opt (gr us x) x.length z → ¬ z < v0) : ∀ (n : Nat) (w : List Nat) (ss : List Stt) (vs : List D) (s5 : Option Slot), best (gr us x) x.length 0 - w.length < n → LW (gr us x) x.length v0 w ss → InU us x.length ss → Fr s5 →
    ∃ dt s5', iterW lwA lwS n [some ⟨false, false, dicD us⟩, some ⟨false, false, tx x⟩, some ⟨false, true, .lst (tabL (x.length + 1) (best (gr us x) x.length))⟩, some ⟨false, false, tx w⟩, some ⟨false, true, .dT (ss.map kS) vs⟩, s5, none, none] =
      some (.nx [some ⟨false, false, dicD us⟩, some ⟨false, false, tx x⟩, some ⟨false, true, .lst (tabL (x.length + 1) (best (gr us x) x.length))⟩, some ⟨false, false, tx v0⟩, some ⟨false, true, dt⟩, s5', none, none])
  | 0, _, _, _, _, h1, _, _, _ => by omega
  | n + 1, w, ss, vs, s5, h1, hI, hU, f5 => by
    have hg := gr_ok (x := x) h
    have wl : w.length ≤ best (gr us x) x.length 0 := by
      obtain ⟨s, hs⟩ := List.exists_mem_of_ne_nil _ hI.ne
      have := hI.ok s hs
      omega
    have tt := lw_test (d0 := dicD us) (d1 := tx x) (dt := .dT (ss.map kS) vs) (f := best (gr us x) x.length) (n := x.length) (s5 := s5) (w := w) (by rw [sz]; omega)
    by_cases hw : w.length < best (gr us x) x.length 0
    · have hlt : ∀ s ∈ ss, s.1 = [] → s.2 < x.length := by
        intro s hs he
        have := hI.ok s hs
        rw [he] at this
        by_cases hl : s.2 = x.length
        · rw [hl, best_L] at this
          simp at this
          omega
        · omega
      obtain ⟨hbU, vs1, hbeg⟩ := begun_ok h hx hU hlt vs
      obtain ⟨hbI, hbne⟩ := LW_b hg hI hw
      generalize bgn (gr us x) x.length ss = bs at hbU hbeg hbI hbne
      have hlen := hbU.len h.few hx
      have u8 : ∀ s ∈ bs, s.1.length ≤ 8 := by
        intro s hs
        obtain ⟨e, he, k, hk, _, hek⟩ := univ_mem.mp (hbU.un s hs)
        rw [hek, List.length_drop]
        have := (h.o1 e he).2
        omega
      have shape : ∀ s ∈ bs, s = ((s.1.headD 0) :: s.1.drop 1, s.2) := by
        intro s hs
        obtain ⟨r, p⟩ := s
        cases r with
        | nil => exact absurd rfl (hbne _ hs)
        | cons d r => rfl
      obtain ⟨m, m1, m2, m3⟩ := min_txs (cs := bs.map fun s => s.1.headD 0) (by
        intro e
        rw [List.map_eq_nil_iff] at e
        exact hbI.ne e)
      rw [List.map_map] at m3
      have hd : ∀ s ∈ bs, ∀ c, s.1.head? = some c ↔ s.1.headD 0 = c := by
        intro s hs c
        rw [shape s hs]
        simp
      have hI2 := LW_s hbI hbne (c := m) (by
        obtain ⟨s, hs, e⟩ := List.mem_map.mp m1
        exact ⟨s, hs, (hd s hs m).mpr e⟩) (fun s hs d e => by
        have := m2 d (List.mem_map.mpr ⟨s, hs, (hd s hs d).mp e⟩)
        exact this) h0 hv
      have hU2 : InU us x.length (nxt m bs) := ⟨ded_nodup _ _ .nil, fun s hs => by
        have hs2 := nxt_mem.mp hs
        obtain ⟨e, he, k, hk, hp, hek⟩ := univ_mem.mp (hbU.un _ hs2)
        have hek : m :: s.1 = e.1.drop k := hek
        have kl : (e.1.drop k).length = s.1.length + 1 := by rw [← hek]; rfl
        rw [List.length_drop] at kl
        have := (h.o1 e he).2
        refine univ_mem.mpr ⟨e, he, k + 1, by omega, hp, ?_⟩
        rw [← List.drop_drop, ← hek]
        rfl⟩
      have hnx : ((bs.filter fun s => decide (s.1.head? = some m)).map fun s => ((s.1.drop 1, s.2) : Stt)) ≠ [] := by
        intro e
        apply hI2.ne
        unfold nxt
        rw [e]
        rfl
      obtain ⟨vs2, hdic⟩ := dict_stt hnx
      have l1 : lcF [6, 7] lwT fYes lwF1 (bs.map stD) [] [some ⟨false, false, dicD us⟩, some ⟨false, false, tx x⟩, some ⟨false, true, .lst (tabL (x.length + 1) (best (gr us x) x.length))⟩, some ⟨false, false, tx w⟩, some opqS, s5, none, none] = some (bs.map ((fun c => tx [c]) ∘ fun s => s.1.headD 0), [some ⟨false, false, dicD us⟩, some ⟨false, false, tx x⟩, some ⟨false, true, .lst (tabL (x.length + 1) (best (gr us x) x.length))⟩, some ⟨false, false, tx w⟩, some opqS, s5, none, none]) := by
        refine lcF_ma stD _ bs (by rw [sz]; omega) fun s hs => ?_
        have e8 := u8 s hs
        unfold stD
        rw [shape s hs]
        exact lw_t1 (by rw [List.length_drop]; omega)
      have l2 : lcF [6, 7] lwT lwA2 lwF2 (bs.map stD) [] [some ⟨false, false, dicD us⟩, some ⟨false, false, tx x⟩, some ⟨false, true, .lst (tabL (x.length + 1) (best (gr us x) x.length))⟩, some ⟨false, false, tx (w ++ [m])⟩, some opqS, some ⟨false, false, tx [m]⟩, none, none] = some (((bs.filter fun s => decide (s.1.head? = some m)).map fun s => ((s.1.drop 1, s.2) : Stt)).map fun s => .tup [stD s, .bl true], [some ⟨false, false, dicD us⟩, some ⟨false, false, tx x⟩, some ⟨false, true, .lst (tabL (x.length + 1) (best (gr us x) x.length))⟩, some ⟨false, false, tx (w ++ [m])⟩, some opqS, some ⟨false, false, tx [m]⟩, none, none]) := by
        rw [List.map_map]
        refine lcF_fi stD (fun s => decide (s.1.head? = some m)) _ bs (by rw [sz]; omega) fun s hs => ?_
        have e8 := u8 s hs
        have w2 := lw_t2 (s0 := some ⟨false, false, dicD us⟩) (s1 := some ⟨false, false, tx x⟩) (s2 := some ⟨false, true, .lst (tabL (x.length + 1) (best (gr us x) x.length))⟩) (s3 := some ⟨false, false, tx (w ++ [m])⟩) (s4 := some opqS) (d := s.1.headD 0) (c := m) (r := s.1.drop 1) (p := (s.2 : Nat)) (by rw [List.length_drop]; omega)
        have e1 : stD s = .tup [tx (s.1.headD 0 :: s.1.drop 1), .int (s.2 : Nat)] := by
          conv => lhs; rw [shape s hs]
          rfl
        rw [e1, w2, decide_eq_decide.mpr (hd s hs m)]
        rfl
      obtain ⟨dt, s5', hit⟩ := lw_loop h hx hb h0 hv n (w ++ [m]) (nxt m bs) vs2 (some ⟨false, false, tx [m]⟩) (by rw [List.length_append, List.length_singleton]; omega) hI2 hU2 fr_ok
      refine ⟨dt, s5', ?_⟩
      rw [iterW, tt, decide_eq_true hw]
      dsimp only
      rw [lw_body f5 hbeg (keys_stt bs vs1) l1 m3 l2 hdic (by rw [sz, List.length_singleton]; omega)]
      exact hit
    · refine ⟨.dT (ss.map kS) vs, s5, ?_⟩
      rw [iterW, tt, decide_eq_false hw]
      rw [LW_end hI (by omega) h0]
theorem lw_run {d0 d1 dt dt0 : D} {tb : List D} {v : List Nat} {i : Int} {s5 : Option Slot} (cw : G_check_written [(false, d0), (false, d1)] = some ((false, .non), [(false, .non), (false, .non)])) (hs : G_strokes_on [(false, d0), (false, d1)] = some ((true, .lst tb), [(false, .non), (false, .non)])) (t : atI tb 0 = some (.int i)) (hi : i ≠ 1000000)
    (hk : D.dT [[.inr (Sx []), .inl 0]] [.bl true] = dt0)
    (w : sWhile lwA lwS [some ⟨false, false, d0⟩, some ⟨false, false, d1⟩, some ⟨false, true, .lst tb⟩, some ⟨false, false, tx []⟩, some ⟨false, true, dt0⟩, none, none, none] = some (.nx [some ⟨false, false, d0⟩, some ⟨false, false, d1⟩, some ⟨false, true, .lst tb⟩, some ⟨false, false, tx v⟩, some ⟨false, true, dt⟩, s5, none, none])) :
    G_least_written [(false, d0), (false, d1)] = some ((false, tx v), [(false, .non), (false, .non)]) := by
  subst hk
  have e : G_least_written = runDef 2 8 (sSeq (sExpr (fCall G_check_written (aCons (fVar 0) (aCons (fVar 1) aNil))))
    (sSeq (sSet 2 (fCall G_strokes_on (aCons (fVar 0) (aCons (fVar 1) aNil))))
    (sSeq (sIf (fB (f2 eqF (f2 ixD (fVar 2) (fC (.int 0))) (fC (.int 1000000)))) (sSeq (sRet (fC .non)) sNil) sNil)
    (sSeq (sPar [3, 4] (tsCons (fC (.str "")) (tsCons (fDictT1 (fTup (fCons (fC (.str "")) (fCons (fC (.int 0)) fNil))) (fC (.bl true))) tsNil)))
    (sSeq (sWhile lwA lwS) (sSeq (sRet (fVar 3)) sNil)))))) := rfl
  have ko : keysOf [tx [], .int 0] = some [.inr (Sx []), .inl 0] := rfl
  rw [e]
  generalize sWhile lwA lwS = B at w
  simp [outs_eq, cw, hs, t, hi, str_empty, ko, w, sz]
theorem lw_none {d0 d1 : D} {tb : List D} (cw : G_check_written [(false, d0), (false, d1)] = some ((false, .non), [(false, .non), (false, .non)])) (hs : G_strokes_on [(false, d0), (false, d1)] = some ((true, .lst tb), [(false, .non), (false, .non)])) (t : atI tb 0 = some (.int 1000000)) :
    G_least_written [(false, d0), (false, d1)] = some ((false, .non), [(false, .non), (false, .non)]) := by
  simp [G_least_written, S_least_written, outs_eq, cw, hs, t]
theorem least_ok {us : List Ent} {x : List Nat} (h : Dic us) (hsm : Small x) (hx : x.length ≤ 2000) :
    (best (gr us x) x.length 0 < 1000000 ∧ ∃ v0, Opt (gr us x) x.length v0 ∧ (∀ z, Opt (gr us x) x.length z → ¬ z < v0) ∧ G_least_written [(false, dicD us), (false, tx x)] = some ((false, tx v0), [(false, .non), (false, .non)])) ∨
    (¬ best (gr us x) x.length 0 < 1000000 ∧ G_least_written [(false, dicD us), (false, tx x)] = some ((false, .non), [(false, .non), (false, .non)])) := by
  have t0 := tab_at (n := x.length + 1) (p := 0) (f := best (gr us x) x.length) (by omega)
  by_cases hb : best (gr us x) x.length 0 < 1000000
  · obtain ⟨v0, h0, hv⟩ := ex_least hb
    have iu : InU us x.length [([], 0)] := ⟨by simp, fun s hs => by
      rw [List.mem_singleton] at hs
      subst hs
      obtain ⟨e, he⟩ := List.exists_mem_of_ne_nil _ h.ne
      exact univ_mem.mpr ⟨e, he, 8, by omega, by omega, (List.drop_eq_nil_iff.mpr (h.o1 e he).2).symm⟩⟩
    obtain ⟨dt, s5, w⟩ := lw_loop h hx hb h0 hv (best (gr us x) x.length 0 + 1) [] [([], 0)] [.bl true] none (by simp) (LW_0 hb v0) iu trivial
    exact .inl ⟨hb, v0, h0, hv, lw_run (check_written_ok h hsm hx) (strokes_ok h hx) t0 (by omega) rfl (sWhile_of w)⟩
  · have := best_le (g := gr us x) (L := x.length) (p := 0)
    rw [show best (gr us x) x.length 0 = 1000000 by omega] at t0
    exact .inr ⟨hb, lw_none (check_written_ok h hsm hx) (strokes_ok h hx) t0⟩
end DD

namespace DD
open PySem PySem.Spec PyProof.Rows L2
/-! ### all writings, depth first -/
abbrev Sk := List Nat × Nat
def kD (s : Sk) : D := .tup [.tup (s.1.map fun i => .int (i : Nat)), .int (s.2 : Nat)]
def iD (r : List Nat) : D := .tup (r.map fun i => .int (i : Nat))
noncomputable abbrev awG : GD := (gTupD 2 (gsCons (gN 6) (gsCons (gTupD 2 (gsCons (gN 7) (gsCons (gN 8) gsNil))) gsNil)))
noncomputable abbrev awC : FB := (fAndT (fB (f2 neF (fVar 8) (fC (.str "")))) (fB (f2 eqF (fSl (fVar 1) (fPart (fVar 5)) (fPart (f2 addD (fVar 5) (fBlt lenD (qCons (fVar 8) qNil))))) (fVar 8))))
noncomputable abbrev awY : FE := (fTup (fCons (f2 addD (fVar 4) (fTup (fCons (fVar 6) fNil))) (fCons (f2 addD (fVar 5) (fBlt lenD (qCons (fVar 8) qNil))) fNil)))
noncomputable abbrev awA : FB := (fB (f2 neF (fVar 3) (fLst fNil)))
noncomputable abbrev awS : FS := (sSeq (sAsg (fMeth "list" mPop (fVar 3) fNil) (gTupD 2 (gsCons (gN 4) (gsCons (gN 5) gsNil))))
  (sSeq (sExpr (fMeth "list" mExtend (fVar 2) (fCons (fIf (fB (f2 eqF (fVar 5) (fBlt lenD (qCons (fVar 1) qNil)))) (fLst (fCons (fVar 4) fNil)) (fLst fNil)) fNil)))
  (sSeq (sExpr (fMeth "list" mExtend (fVar 3) (fCons (fLc (fWalk enumD (fCons (fVar 0) fNil)) [6, 7, 8] awG awC awY) fNil)))
  sNil)))
theorem cut_mid {x : List Nat} {p n : Nat} (hp : p ≤ x.length) : cutD x (some ((p : Nat) : Int)) (some (((p : Nat) : Int) + ((n : Nat) : Int))) = (x.drop p).take n := by
  unfold cutD
  have h1 : HT.sIx x.length 0 (some ((p : Nat) : Int)) = min p x.length := HT.sIx_nat _ _ _
  have h2 : HT.sIx x.length x.length (some (((p : Nat) : Int) + ((n : Nat) : Int))) = min (p + n) x.length := by
    rw [← Int.natCast_add]
    exact HT.sIx_nat _ _ _
  rw [h1, h2, Nat.min_eq_left hp]
  by_cases h : p + n ≤ x.length
  · rw [Nat.min_eq_left h, Nat.add_sub_cancel_left]
  · rw [Nat.min_eq_right (by omega), List.take_of_length_le (by rw [List.length_drop]; omega), List.take_of_length_le (by rw [List.length_drop]; omega)]
theorem aw_turn {x : List Nat} {p : Nat} {r : List Nat} {a : Nat × Ent} {s0 s2 s3 : Option Slot} (hp : p ≤ x.length) (hx : x.length ≤ 2000) (hr : r.length ≤ 1000) (h8 : a.2.1.length ≤ 8 ∧ a.2.2.length ≤ 8) :
    turnF [6, 7, 8] awG awC awY (.tup [.int (a.1 : Nat), ent a.2]) [s0, some ⟨false, false, tx x⟩, s2, s3, some ⟨false, false, iD r⟩, some ⟨false, false, .int (p : Nat)⟩, none, none, none] =
      some (if hit x p a = true then some (kD (r ++ [a.1], p + a.2.2.length)) else none, [s0, some ⟨false, false, tx x⟩, s2, s3, some ⟨false, false, iD r⟩, some ⟨false, false, .int (p : Nat)⟩, none, none, none]) := by
  have hl : x.length ≤ 16777216 := by omega
  have ht : a.2.2.length ≤ 16777216 := by omega
  have cu : slD (tx x) (some ((p : Nat) : Int)) (some (((p : Nat) : Int) + ((a.2.2.length : Nat) : Int))) = some (.sh (tx ((x.drop p).take a.2.2.length))) := by
    show (if (Sx x).length ≤ sizeLine then some (T.sh (.str (cutS (Sx x) _ _))) else none) = _
    rw [Sx_len, if_pos (by rw [sz]; exact hl), Sx_cut, cut_mid hp]
  have rl : r.length + 1 ≤ 16777216 := by omega
  by_cases h1 : a.2.2 = []
  · simp [turnF, ent, str_empty, h1, hit]
  · by_cases h2 : (x.drop p).take a.2.2.length = a.2.2
    · simp [turnF, ent, str_empty, h1, hit, cu, h2, ht, iD, kD, sz, rl]
    · simp [turnF, ent, str_empty, h1, hit, cu, h2, ht, iD, kD, sz, rl]
theorem aw_test {s0 s1 s2 s4 s5 : Option Slot} (ss : List Sk) : awA [s0, s1, s2, some ⟨false, true, .lst (ss.map kD)⟩, s4, s5, none, none, none] = some (decide (ss ≠ []), [s0, s1, s2, some ⟨false, true, .lst (ss.map kD)⟩, s4, s5, none, none, none]) := by
  have ne : neF (.lst (ss.map kD)) (.lst []) = some (.sh (.bl (decide (ss ≠ [])))) := by
    have fi : ∀ r : List Nat, flatL (r.map fun i => D.int (i : Nat)) = true := fun r => flatL_map (fun _ => rfl) r
    have fk : ∀ s : Sk, flat (kD s) = true := by
      intro s
      show (flatL (s.1.map fun i => D.int (i : Nat)) && (true && true)) = true
      rw [fi]; rfl
    have fl : flat (.lst (ss.map kD)) = true := flatL_map fk ss
    have di : ∀ r : List Nat, PyData.depthAll ((r.map fun i => D.int (i : Nat)).map py) = 0 := by
      intro l
      induction l with
      | nil => rfl
      | cons a l ih =>
        rw [List.map_cons, List.map_cons, PyData.depthAll, ih]
        rfl
    have dk : ∀ s : Sk, (py (kD s)).depth ≤ 10 := by
      intro s
      show (PyData.tuple [.tuple (pyL (s.1.map fun i => D.int (i : Nat))), .int (s.2 : Nat)]).depth ≤ 10
      rw [pyL_map]
      simp only [PyData.depth, PyData.depthAll, di]
      omega
    have da : ∀ l : List Sk, PyData.depthAll ((l.map kD).map py) ≤ 10 := by
      intro l
      induction l with
      | nil => exact Nat.zero_le _
      | cons a l ih =>
        rw [List.map_cons, List.map_cons, PyData.depthAll]
        have := dk a
        omega
    have dp : (py (.lst (ss.map kD))).depth ≤ 64 := by
      show (PyData.list (pyL (ss.map kD))).depth ≤ 64
      rw [pyL_map]
      simp only [PyData.depth]
      have := da ss
      omega
    have al : PySem.W.alike (py (.lst (ss.map kD))) (py (.lst [])) = true := by
      show PySem.W.alikeAll (pyL (ss.map kD)) [] = true
      cases ss <;> rfl
    have ev : eqv (.lst (ss.map kD)) (.lst []) = some (PyData.eqv (py (.lst (ss.map kD))) (py (.lst []))) := by
      show (if isScal (.lst (ss.map kD)) = true ∧ isScal (.lst []) = true then _ else if isSeq (.lst (ss.map kD)) = true ∧ flat (.lst (ss.map kD)) = true ∧ flat (.lst []) = true ∧ PySem.W.alike (py (.lst (ss.map kD))) (py (.lst [])) = true ∧ (py (.lst (ss.map kD))).depth ≤ 64 then some (PyData.eqv (py (.lst (ss.map kD))) (py (.lst []))) else _) = _
      rw [if_neg (fun h => by cases h.1), if_pos ⟨rfl, fl, rfl, al, dp⟩]
    unfold neF
    rw [ev]
    cases ss <;> rfl
  generalize ss.map kD = ds at ne ⊢
  simp [ne, sz]
theorem aw_body {d0 : D} {x : List Nat} {fd sk vl en : List D} {r : List Nat} {p : Nat} {s4 s5 : Option Slot} (f4 : Fr s4) (f5 : Fr s5) (hx : x.length ≤ 2000) (he : enumD [d0] = some en)
    (lc : ∀ s2 s3 : Option Slot, lcF [6, 7, 8] awG awC awY en [] [some ⟨false, false, d0⟩, some ⟨false, false, tx x⟩, s2, s3, some ⟨false, false, iD r⟩, some ⟨false, false, .int (p : Nat)⟩, none, none, none] = some (vl, [some ⟨false, false, d0⟩, some ⟨false, false, tx x⟩, s2, s3, some ⟨false, false, iD r⟩, some ⟨false, false, .int (p : Nat)⟩, none, none, none]))
    (h1 : fd.length + 1 ≤ sizeLine) (h2 : sk.length + vl.length ≤ sizeLine) :
    awS [some ⟨false, false, d0⟩, some ⟨false, false, tx x⟩, some ⟨false, true, .lst fd⟩, some ⟨false, true, .lst (sk ++ [.tup [iD r, .int (p : Nat)]])⟩, s4, s5, none, none, none] =
      some (.nx [some ⟨false, false, d0⟩, some ⟨false, false, tx x⟩, some ⟨false, true, .lst (fd ++ if p = x.length then [iD r] else [])⟩, some ⟨false, true, .lst (sk ++ vl)⟩, some ⟨false, false, iD r⟩, some ⟨false, false, .int (p : Nat)⟩, none, none, none]) := by
  have hl : x.length ≤ 16777216 := by omega
  rw [sz] at h1 h2
  have h3 : fd.length ≤ 16777216 := by omega
  generalize iD r = ir at lc ⊢
  unfold awS
  generalize awG = G0 at lc ⊢
  generalize awC = C0 at lc ⊢
  generalize awY = Y0 at lc ⊢
  by_cases hp : p = x.length
  · simp [st_fr, f4, f5, hp, hl, sz, he, h1, h2, h3, -r_stT] at lc ⊢
    simp [lc, h2, sz]
  · have hp' : ¬ ((p : Nat) : Int) = ((x.length : Nat) : Int) := by omega
    simp [st_fr, f4, f5, hp, hp', hl, sz, he, h1, h2, h3, lc, -r_stT]
end DD

namespace DD
open PySem PySem.Spec PyProof.Rows L2
def nums (t : List Tr) : List Nat := t.map (·.1)
def rest (g : Nat → List Tr) (L : Nat) (s : Sk) : List (List Nat) := (P g L s.2).map fun t => s.1 ++ nums t
def wt (L : Nat) (s : Sk) : Nat := 6 ^ (L - s.2)
def wts (L : Nat) (ss : List Sk) : Nat := (ss.map (wt L)).sum
theorem wts_app {L : Nat} (a b : List Sk) : wts L (a ++ b) = wts L a + wts L b := by
  unfold wts
  rw [List.map_append, List.sum_append]
theorem wts_len {L : Nat} : ∀ ss : List Sk, ss.length ≤ wts L ss
  | [] => Nat.zero_le _
  | s :: ss => by
    have := wts_len (L := L) ss
    have h : 0 < wt L s := Nat.pow_pos (by omega)
    show ss.length + 1 ≤ wt L s + wts L ss
    omega
theorem wts_kids {L p : Nat} {r : List Nat} : ∀ {as : List Tr}, (∀ a ∈ as, p < a.2.2 ∧ a.2.2 ≤ L) → wts L (as.map fun a => ((r ++ [a.1], a.2.2) : Sk)) ≤ as.length * 6 ^ (L - p - 1)
  | [], _ => by simp [wts]
  | a :: as, h => by
    have ha := h a List.mem_cons_self
    have ih := wts_kids (r := r) fun b hb => h b (List.mem_cons_of_mem _ hb)
    have : wt L (r ++ [a.1], a.2.2) ≤ 6 ^ (L - p - 1) := Nat.pow_le_pow_right (by omega) (by dsimp only; omega)
    show wt L (r ++ [a.1], a.2.2) + wts L _ ≤ (as.length + 1) * 6 ^ (L - p - 1)
    rw [Nat.succ_mul]
    omega
theorem rest_L {g : Nat → List Tr} {L : Nat} {r : List Nat} : rest g L (r, L) = [r] := by
  unfold rest
  rw [P_L]
  simp [nums]
theorem rest_lt {g : Nat → List Tr} {L p : Nat} (hg : Gr g L) (h : p < L) {r : List Nat} : rest g L (r, p) = ((g p).map fun a => ((r ++ [a.1], a.2.2) : Sk)).flatMap (rest g L) := by
  unfold rest
  rw [P_lt hg h, List.map_flatMap, List.flatMap_map]
  refine flatMap_ext fun a ha => ?_
  rw [List.map_map]
  dsimp only
  refine List.map_congr_left fun t _ => ?_
  simp [nums]
theorem aw_loop {us : List Ent} {x : List Nat} (h : Dic us) (hu : us.length ≤ 5) (hx : x.length ≤ 4) : ∀ (n : Nat) (ss : List Sk) (fd : List (List Nat)) (s4 s5 : Option Slot), wts x.length ss < n → fd.length + wts x.length ss ≤ 100000 → (∀ s ∈ ss, s.2 ≤ x.length ∧ s.1.length ≤ s.2) → Fr s4 → Fr s5 →
    ∃ (fd' : List (List Nat)) (s4' s5' : Option Slot), iterW awA awS n [some ⟨false, false, dicD us⟩, some ⟨false, false, tx x⟩, some ⟨false, true, .lst (fd.map iD)⟩, some ⟨false, true, .lst (ss.map kD)⟩, s4, s5, none, none, none] =
      some (.nx [some ⟨false, false, dicD us⟩, some ⟨false, false, tx x⟩, some ⟨false, true, .lst (fd'.map iD)⟩, some ⟨false, true, .lst (([] : List Sk).map kD)⟩, s4', s5', none, none, none]) ∧
      fd'.Perm (fd ++ ss.flatMap (rest (gr us x) x.length)) ∧ fd'.length ≤ 100000
  | 0, _, _, _, _, h1, _, _, _, _ => by omega
  | n + 1, ss, fd, s4, s5, h1, h2, h3, f4, f5 => by
    have hg := gr_ok (x := x) h
    have tt := aw_test (s0 := some ⟨false, false, dicD us⟩) (s1 := some ⟨false, false, tx x⟩) (s2 := some ⟨false, true, .lst (fd.map iD)⟩) (s4 := s4) (s5 := s5) ss
    by_cases he : ss = []
    · subst he
      refine ⟨fd, s4, s5, ?_, by simp, by omega⟩
      rw [iterW, tt]
      rfl
    · obtain ⟨sk, ⟨r, p⟩, rfl⟩ : ∃ sk s, ss = sk ++ [s] := ⟨ss.dropLast, ss.getLast he, (List.dropLast_concat_getLast he).symm⟩
      have hs := h3 (r, p) (by simp)
      dsimp only at hs
      have h3' : ∀ s ∈ sk, s.2 ≤ x.length ∧ s.1.length ≤ s.2 := fun s hs => h3 s (List.mem_append_left _ hs)
      rw [wts_app] at h1 h2
      have w1 : wts x.length [(r, p)] = 6 ^ (x.length - p) := by simp [wts, wt]
      rw [w1] at h1 h2
      have lw := wts_len (L := x.length) sk
      have en : enumD [dicD us] = some ((numE 0 us).map fun a => .tup [.int (a.1 : Nat), ent a.2]) := by rw [← numD_ent us 0]; rfl
      have lc : ∀ s2 s3 : Option Slot, lcF [6, 7, 8] awG awC awY ((numE 0 us).map fun a => .tup [.int (a.1 : Nat), ent a.2]) [] [some ⟨false, false, dicD us⟩, some ⟨false, false, tx x⟩, s2, s3, some ⟨false, false, iD r⟩, some ⟨false, false, .int (p : Nat)⟩, none, none, none] = some (((gr us x p).map fun a => ((r ++ [a.1], a.2.2) : Sk)).map kD, [some ⟨false, false, dicD us⟩, some ⟨false, false, tx x⟩, s2, s3, some ⟨false, false, iD r⟩, some ⟨false, false, .int (p : Nat)⟩, none, none, none]) := by
        intro s2 s3
        have := lcF_fi (vs := [6, 7, 8]) (g := awG) (A := awC) (F := awY) (e := [some ⟨false, false, dicD us⟩, some ⟨false, false, tx x⟩, s2, s3, some ⟨false, false, iD r⟩, some ⟨false, false, .int (p : Nat)⟩, none, none, none]) (fun a : Nat × Ent => .tup [.int (a.1 : Nat), ent a.2]) (hit x p) (fun a => kD (r ++ [a.1], p + a.2.2.length)) (numE 0 us) (by rw [sz, numE_len]; omega) fun a ha => aw_turn hs.1 (by omega) (by omega) (h.h8 _ (List.mem_of_getElem? (numE_get ha).2))
        rw [this]
        unfold gr
        rw [List.map_map, List.map_map]
        rfl
      have gl := gr_len (us := us) (x := x) (p := p)
      have pp : 0 < 6 ^ (x.length - p) := Nat.pow_pos (by omega)
      have body := aw_body (d0 := dicD us) (fd := fd.map iD) (sk := sk.map kD) f4 f5 (by omega) en lc (by rw [sz, List.length_map]; omega) (by rw [sz, List.length_map, List.length_map, List.length_map]; omega)
      have ek : (sk ++ [(r, p)]).map kD = sk.map kD ++ [.tup [iD r, .int (p : Nat)]] := by
        rw [List.map_append]
        rfl
      by_cases hp : p = x.length
      · subst hp
        have ge : gr us x x.length = [] := by
          rw [List.eq_nil_iff_forall_not_mem]
          intro a ha
          have := hg.up _ a ha
          omega
        obtain ⟨fd', s4', s5', i1, i2, i3⟩ := aw_loop h hu hx n sk (fd ++ [r]) (some ⟨false, false, iD r⟩) (some ⟨false, false, .int (x.length : Nat)⟩) (by omega) (by rw [List.length_append, List.length_singleton]; omega) h3' fr_ok fr_ok
        refine ⟨fd', s4', s5', ?_, ?_, i3⟩
        · rw [iterW, tt, decide_eq_true he]
          dsimp only
          rw [ek, body, if_pos rfl, ge]
          rw [List.map_append] at i1
          simp only [List.map_nil, List.append_nil]
          exact i1
        · rw [List.flatMap_append, List.flatMap_singleton, rest_L]
          refine i2.trans ?_
          rw [List.append_assoc]
          exact List.Perm.append_left _ List.perm_append_comm
      · have kd := wts_kids (r := r) (L := x.length) (p := p) (as := gr us x p) fun a ha => hg.up p a ha
        have hp2 : 6 ^ (x.length - p) = 6 * 6 ^ (x.length - p - 1) := by
          rw [← Nat.pow_succ']
          congr 1
          omega
        have pp1 : 0 < 6 ^ (x.length - p - 1) := Nat.pow_pos (by omega)
        have m5 : (gr us x p).length * 6 ^ (x.length - p - 1) ≤ 5 * 6 ^ (x.length - p - 1) := Nat.mul_le_mul_right _ (by omega)
        obtain ⟨fd', s4', s5', i1, i2, i3⟩ := aw_loop h hu hx n (sk ++ (gr us x p).map fun a => ((r ++ [a.1], a.2.2) : Sk)) fd (some ⟨false, false, iD r⟩) (some ⟨false, false, .int (p : Nat)⟩) (by rw [wts_app]; omega) (by rw [wts_app]; omega) (by
          intro s hs'
          rcases List.mem_append.mp hs' with hs' | hs'
          · exact h3' s hs'
          · obtain ⟨a, ha, rfl⟩ := List.mem_map.mp hs'
            have := hg.up p a ha
            refine ⟨this.2, ?_⟩
            rw [List.length_append, List.length_singleton]
            omega) fr_ok fr_ok
        refine ⟨fd', s4', s5', ?_, ?_, i3⟩
        · rw [iterW, tt, decide_eq_true he]
          dsimp only
          rw [ek, body, if_neg hp, List.append_nil, ← List.map_append]
          exact i1
        · rw [List.flatMap_append, List.flatMap_singleton, rest_lt hg (by omega), ← List.flatMap_append]
          exact i2
theorem aw_run {d0 d1 : D} {fd : List D} {s4 s5 : Option Slot}
    (w : sWhile awA awS [some ⟨false, false, d0⟩, some ⟨false, false, d1⟩, some ⟨false, true, .lst []⟩, some ⟨false, true, .lst [.tup [.tup [], .int 0]]⟩, none, none, none, none, none] = some (.nx [some ⟨false, false, d0⟩, some ⟨false, false, d1⟩, some ⟨false, true, .lst fd⟩, some ⟨false, true, .lst []⟩, s4, s5, none, none, none])) :
    G__law_all_writings [(false, d0), (false, d1)] = some ((true, .lst fd), [(false, .non), (false, .non)]) := by
  have e : G__law_all_writings = runDef 2 9 (sSeq (sPar [2, 3] (tsCons (fLst fNil) (tsCons (fLst (fCons (fTup (fCons (fTup fNil) (fCons (fC (.int 0)) fNil))) fNil)) tsNil))) (sSeq (sWhile awA awS) (sSeq (sRet (fVar 2)) sNil))) := rfl
  rw [e]
  generalize sWhile awA awS = W at w
  simp [outs_eq, w, sz]
theorem all_ok {us : List Ent} {x : List Nat} (h : Dic us) (hu : us.length ≤ 5) (hx : x.length ≤ 4) :
    ∃ fd : List (List Nat), G__law_all_writings [(false, dicD us), (false, tx x)] = some ((true, .lst (fd.map iD)), [(false, .non), (false, .non)]) ∧ fd.Perm ((P (gr us x) x.length 0).map nums) ∧ fd.length ≤ 100000 := by
  have w0 : wts x.length [([], 0)] ≤ 1296 := by
    have : wts x.length [([], 0)] = 6 ^ (x.length - 0) := by simp [wts, wt]
    rw [this]
    exact Nat.pow_le_pow_right (n := 6) (by omega) (by omega : x.length - 0 ≤ 4)
  obtain ⟨fd, s4, s5, i1, i2, i3⟩ := aw_loop h hu hx (wts x.length [([], 0)] + 1) [([], 0)] [] none none (by omega) (by simp; omega) (by simp) trivial trivial
  refine ⟨fd, aw_run (sWhile_of i1), ?_, i3⟩
  have e : ([([], 0)] : List Sk).flatMap (rest (gr us x) x.length) = (P (gr us x) x.length 0).map nums := by
    rw [List.flatMap_singleton]
    unfold rest
    rfl
  rw [e, List.nil_append] at i2
  exact i2
end DD

namespace DD
open PySem PySem.Spec PyProof.Rows L2
/-! ### helpers for the law's own checks -/
theorem nil_eq {ds : List D} (fl : flatL ds = true) (dp : PyData.depthAll (pyL ds) ≤ 60) : eqv (.lst ds) (.lst []) = some (decide (ds = [])) := by
  have dp2 : (py (.lst ds)).depth ≤ 64 := by
    show (PyData.list (pyL ds)).depth ≤ 64
    simp only [PyData.depth]
    omega
  have al : PySem.W.alike (py (.lst ds)) (py (.lst [])) = true := by
    show PySem.W.alikeAll (pyL ds) [] = true
    cases ds <;> rfl
  have ev : eqv (.lst ds) (.lst []) = some (PyData.eqv (py (.lst ds)) (py (.lst []))) := by
    show (if isScal (.lst ds) = true ∧ isScal (.lst []) = true then _ else if isSeq (.lst ds) = true ∧ flat (.lst ds) = true ∧ flat (.lst []) = true ∧ PySem.W.alike (py (.lst ds)) (py (.lst [])) = true ∧ (py (.lst ds)).depth ≤ 64 then some (PyData.eqv (py (.lst ds)) (py (.lst []))) else _) = _
    rw [if_neg (fun h => by cases h.1), if_pos ⟨rfl, fl, rfl, al, dp2⟩]
  rw [ev]
  cases ds <;> rfl
theorem nil_e {ds : List D} (fl : flatL ds = true) (dp : PyData.depthAll (pyL ds) ≤ 60) : eqF (.lst ds) (.lst []) = some (.sh (.bl (decide (ds = [])))) := by
  unfold eqF
  rw [nil_eq fl dp]
  simp
theorem nil_n {ds : List D} (fl : flatL ds = true) (dp : PyData.depthAll (pyL ds) ≤ 60) : neF (.lst ds) (.lst []) = some (.sh (.bl (decide (ds ≠ [])))) := by
  unfold neF
  rw [nil_eq fl dp]
  simp
theorem depth_map {α : Type} {f : α → D} {m : Nat} (h : ∀ a, (py (f a)).depth ≤ m) : ∀ l : List α, PyData.depthAll (pyL (l.map f)) ≤ m
  | [] => Nat.zero_le _
  | a :: l => by
    rw [List.map_cons, pyL, PyData.depthAll]
    have := depth_map h l
    have := h a
    omega
theorem iD_flat (r : List Nat) : flat (iD r) = true := flatL_map (fun _ => rfl) r
theorem iD_depth (r : List Nat) : (py (iD r)).depth ≤ 1 := by
  show (PyData.tuple (pyL (r.map fun i => D.int (i : Nat)))).depth ≤ 1
  simp only [PyData.depth]
  have := depth_map (f := fun i : Nat => D.int (i : Nat)) (m := 0) (fun _ => Nat.le_refl _) r
  omega
theorem sort_any {α : Type} {f : α → D} (l : List α) : ∃ us : List α, sortD (l.map f) = us.map f ∧ us.Perm l ∧ us.Pairwise fun a b => ¬ ltD (f b) (f a) := by
  have hus : sortD (l.map f) = (l.mergeSort fun a b => PySem.W.dataLe false py (f a) (f b)).map f := (PySem.W.sort_maps f fun a _ b _ => rfl).symm
  have hp2 := List.mergeSort_perm l fun a b => PySem.W.dataLe false py (f a) (f b)
  generalize (l.mergeSort fun a b => PySem.W.dataLe false py (f a) (f b)) = us at hus hp2
  refine ⟨us, hus, hp2, ?_⟩
  have hs := sortD_sorted (l.map f)
  rw [hus, List.pairwise_map] at hs
  exact hs
def rw2 (r : List Nat) : D := .tup [.int (r.length : Nat), tx r]
theorem dataLt_int {i j : Int} : PySem.W.dataLt (.int i) (.int j) = decide (i < j) := by
  have h : ltv (.int i) (.int j) = some (decide (i < j)) := rfl
  first
    | exact PySem.W.dataLt_int
    | exact PySem.W.dataLt_int i j
    | exact PySem.W.dataLt_int _ _
theorem ltD_rw {r s : List Nat} : ltD (rw2 r) (rw2 s) ↔ r.length < s.length ∨ (r.length = s.length ∧ r < s) := by
  show PySem.W.dataLt (.tuple [.int (r.length : Nat), .str (Sx r)]) (.tuple [.int (s.length : Nat), .str (Sx s)]) = true ↔ _
  rw [PySem.W.dataLt_pair rfl rfl]
  have e : PyData.eqv (.int (r.length : Nat)) (.int (s.length : Nat)) = decide (r.length = s.length) := by
    show decide (((r.length : Nat) : Int) = ((s.length : Nat) : Int)) = _
    rw [decide_eq_decide]
    omega
  rw [e, dataLt_int]
  by_cases h1 : r.length = s.length
  · simp only [h1, decide_true, if_true, true_and]
    have := ltD_tx (a := r) (b := s)
    unfold ltD at this
    have e2 : PyData.eqv (.str (Sx r)) (.str (Sx s)) = decide (r = s) := eqv_tx
    simp only [Nat.lt_irrefl, false_or]
    rw [e2]
    by_cases h2 : r = s
    · subst h2
      simp [irr_list]
    · simp only [h2, decide_false, Bool.false_eq_true, if_false]
      exact this
  · simp only [h1, decide_false, Bool.false_eq_true, if_false, false_and, or_false, decide_eq_true_eq]
    omega
end DD

namespace DD
open PySem PySem.Spec PyProof.Rows L2
/-! ### _law_right -/
noncomputable abbrev rtY : FE := (f2 ixD (fCall G__law_of (aCons (fVar 0) (aCons (fVar 1) aNil))) (fC (.int 1)))
noncomputable abbrev rtX : FE := (fCall G__law_of (aCons (fVar 0) (aCons (fLst (fCons (fSl (fRead "str" joinD (fC (.str "")) (fCons (fLc (fWalk rng1 (fCons (fCall G__law_take (aCons (fVar 0) (aCons (fC (.int 4)) aNil))) fNil)) [7] (gN 7) fYes rtY) fNil)) fNoPart (fPart (fC (.int 4)))) (fCons (fCall G__law_row (aCons (fVar 0) (aCons (fC (.str "xy")) (aCons (fC (.int 0)) (aCons (fC (.int 4)) aNil))))) fNil))) aNil)))
noncomputable abbrev rtI : FE := (fRead "str" joinD (fC (.str "")) (fCons (fLc (fIter (fVar 6)) [8] (gN 8) fYes (f2 ixD (f2 ixD (fVar 1) (fVar 8)) (fC (.int 0)))) fNil))
noncomputable abbrev rtO : FE := (fTup (fCons (fBlt lenD (qCons (fVar 5) qNil)) (fCons (fVar 5) fNil)))
theorem right_run {p p1 p2 dd lw : D} {x : List Nat} {fd rws prs srt tl : List D} {b : Int} {zb zl st : Str} {c c2 : Bool}
    (h1 : G__law_dictionary [(true, p)] = some ((false, dd), [(true, p1)]))
    (h2 : rtX [some ⟨true, true, p1⟩, some ⟨false, false, dd⟩, none, none, none, none, none, none, none] = some (.sh (tx x), [some ⟨true, true, p2⟩, some ⟨false, false, dd⟩, none, none, none, none, none, none, none]))
    (h3 : G__law_all_writings [(false, dd), (false, tx x)] = some ((true, .lst fd), [(false, .non), (false, .non)]))
    (h4 : lcF [6] (gN 6) fYes rtI fd [] [some ⟨true, true, p2⟩, some ⟨false, false, dd⟩, some ⟨false, false, tx x⟩, some ⟨false, false, .lst fd⟩, none, none, none, none, none] = some (rws, [some ⟨true, true, p2⟩, some ⟨false, false, dd⟩, some ⟨false, false, tx x⟩, some ⟨false, false, .lst fd⟩, none, none, none, none, none]))
    (h5 : lcF [5] (gN 5) fYes rtO rws [] [some ⟨true, true, p2⟩, some ⟨false, false, dd⟩, some ⟨false, false, tx x⟩, some ⟨false, false, .lst fd⟩, none, none, none, none, none] = some (prs, [some ⟨true, true, p2⟩, some ⟨false, false, dd⟩, some ⟨false, false, tx x⟩, some ⟨false, false, .lst fd⟩, none, none, none, none, none]))
    (h6 : sortedK [.lst prs] = some (.ow (.lst srt)))
    (h7 : G_writings_many [(false, dd), (false, tx x)] = some ((false, .int b), [(false, .non), (false, .non)]))
    (h8 : reprD [.int b] = some (.sh (.str zb))) (h8b : ((fd.length : Nat) : Int) = b)
    (h9 : G_written_told [(false, dd), (false, tx x)] = some ((false, .tup (.str st :: tl)), [(false, .non), (false, .non)]))
    (h10 : eqF (.lst fd) (.lst []) = some (.sh (.bl c))) (h10b : decide (st = "lot") = c)
    (h11 : G_least_written [(false, dd), (false, tx x)] = some ((false, lw), [(false, .non), (false, .non)]))
    (h12 : reprD [lw] = some (.sh (.str zl))) (h13 : neF (.lst srt) (.lst []) = some (.sh (.bl c2)))
    (h14 : if c2 = true then ∃ n0, atI srt 0 = some (.tup [.int n0, lw]) else lw = .non) :
    G__law_right [(true, p)] = some ((false, .bl true), [(true, p2)]) := by
  have e : G__law_right = runDef 1 9 (sSeq (sSet 1 (fCall G__law_dictionary (aCons (fVar 0) aNil)))
    (sSeq (sSet 2 rtX)
    (sSeq (sSet 3 (fCall G__law_all_writings (aCons (fVar 1) (aCons (fVar 2) aNil))))
    (sSeq (sSet 4 (fBlt sortedK (qCons (fLc (fIter (fLc (fIter (fVar 3)) [6] (gN 6) fYes rtI)) [5] (gN 5) fYes rtO) qNil)))
    (sSeq (sIf (fOrT (fB (f2 neF (fBlt reprD (qCons (fCallK 2 [1, 0] G_writings_many (aCons (fVar 2) (aCons (fVar 1) aNil))) qNil)) (fBlt reprD (qCons (fBlt lenD (qCons (fVar 3) qNil)) qNil)))) (fB (f2 neF (f2 eqF (f2 ixD (fCall G_written_told (aCons (fVar 1) (aCons (fVar 2) aNil))) (fC (.int 0))) (fC (.str "lot"))) (f2 eqF (fVar 3) (fLst fNil))))) (sSeq (sRet (fC (.bl false)))
    sNil) sNil)
    (sSeq (sRet (f2 eqF (fBlt reprD (qCons (fCallK 2 [1, 0] G_least_written (aCons (fVar 2) (aCons (fVar 1) aNil))) qNil)) (fBlt reprD (qCons (fIf (fB (f2 neF (fVar 4) (fLst fNil))) (f2 ixD (f2 ixD (fVar 4) (fC (.int 0))) (fC (.int 1))) (fC .non)) qNil))))
    sNil)))))) := rfl
  rw [e]
  generalize rtX = FX at h2 ⊢
  generalize rtI = FI1 at h4 ⊢
  generalize rtO = FO1 at h5 ⊢
  cases c2 with
  | true =>
    obtain ⟨n0, h14⟩ := h14
    cases c with
    | true =>
      have h10c : st = "lot" := of_decide_eq_true h10b
      simp [outs_eq, h1, h2, h3, h4, h5, h6, h7, h8, h8b, h9, h10, h10c, h11, h12, h13, h14, permL, sz]
    | false =>
      have h10c : ¬ st = "lot" := of_decide_eq_false h10b
      simp [outs_eq, h1, h2, h3, h4, h5, h6, h7, h8, h8b, h9, h10, h10c, h11, h12, h13, h14, permL, sz]
  | false =>
    have h14 : lw = .non := h14
    subst h14
    cases c with
    | true =>
      have h10c : st = "lot" := of_decide_eq_true h10b
      simp [outs_eq, h1, h2, h3, h4, h5, h6, h7, h8, h8b, h9, h10, h10c, h11, h12, h13, permL, sz]
    | false =>
      have h10c : ¬ st = "lot" := of_decide_eq_false h10b
      simp [outs_eq, h1, h2, h3, h4, h5, h6, h7, h8, h8b, h9, h10, h10c, h11, h12, h13, permL, sz]
end DD

namespace DD
open PySem PySem.Spec PyProof.Rows L2
theorem txs_of {Q : List Nat → Prop} : ∀ {ys : List D}, (∀ y ∈ ys, ∃ l, Q l ∧ y = tx l) → ∃ ls : List (List Nat), ys = ls.map tx ∧ (∀ l ∈ ls, Q l) ∧ ls.length = ys.length
  | [], _ => ⟨[], rfl, by simp, rfl⟩
  | y :: ys, h => by
    obtain ⟨c, hc, rfl⟩ := h y List.mem_cons_self
    obtain ⟨l, h1, h2, h3⟩ := txs_of (ys := ys) fun x hx => h x (List.mem_cons_of_mem _ hx)
    refine ⟨c :: l, by rw [h1]; rfl, fun x hx => ?_, by simp [h3]⟩
    rcases List.mem_cons.mp hx with rfl | hx
    · exact hc
    · exact h2 x hx
theorem flat_le {m : Nat} : ∀ {ls : List (List Nat)}, (∀ l ∈ ls, l.length ≤ m) → ls.flatten.length ≤ ls.length * m
  | [], _ => by simp
  | l :: ls, h => by
    rw [List.flatten_cons, List.length_append, List.length_cons, Nat.succ_mul]
    have := h l List.mem_cons_self
    have := flat_le fun x hx => h x (List.mem_cons_of_mem _ hx)
    omega
theorem cut4 (l : List Nat) : (cutD l none (some 4)).length ≤ 4 ∧ ∀ c ∈ cutD l none (some 4), c ∈ l := by
  have h2 : HT.sIx l.length l.length (some (4 : Int)) = min 4 l.length := HT.sIx_nat l.length l.length 4
  unfold cutD
  rw [HT.sIx_none, h2]
  constructor
  · rw [List.length_take]
    omega
  · intro c hc
    exact List.mem_of_mem_drop (List.mem_of_mem_take hc)
theorem rt_ok {us : List Ent} {n : Nat} {p1 : D} (h0 : us ≠ []) (hu : us.length ≤ 16) (h2 : ∀ e ∈ us, e.2.length ≤ 2 ∧ ∀ c ∈ e.2, c = 120 ∨ c = 121) (h : Pot n p1) (hn : n + 100 < 1000000) :
    ∃ (x : List Nat) (p2 : D), rtX [some ⟨true, true, p1⟩, some ⟨false, false, dicD us⟩, none, none, none, none, none, none, none] = some (.sh (tx x), [some ⟨true, true, p2⟩, some ⟨false, false, dicD us⟩, none, none, none, none, none, none, none]) ∧ x.length ≤ 4 ∧ Small x ∧ Pot (n + 20) p2 := by
  obtain ⟨v, q1, e1, v0, v1, hq1⟩ := take_ok (u := 4) h (by omega) (by omega) (by omega)
  obtain ⟨ys, e', g1, g2, g3, q2, hq2, rfl⟩ := lcF_inv (vs := [7]) (g := gN 7) (A := fYes) (F := rtY)
    (fun j e => ∃ q2, Pot (n + 1 + j) q2 ∧ e = [some ⟨true, true, q2⟩, some ⟨false, false, dicD us⟩, none, none, none, none, none, none, none]) (fun y => ∃ l : List Nat, (l.length ≤ 2 ∧ ∀ c ∈ l, c = 120 ∨ c = 121) ∧ y = tx l)
    (rangeD 0 v.toNat) [] 0 [some ⟨true, true, q1⟩, some ⟨false, false, dicD us⟩, none, none, none, none, none, none, none] (by rw [sz]; simp; omega) ⟨q1, hq1, rfl⟩ (by
      rintro j d e hj1 hj2 hd ⟨q2, hq2, rfl⟩
      rw [rangeD_len] at hj2
      obtain ⟨d, q3, w1, w2, w3⟩ := of_tup (ds := us.map ent) hq2 (by omega) (by simpa using h0) (by rw [List.length_map]; omega)
      obtain ⟨en, he, rfl⟩ := List.mem_map.mp w2
      have w1 : G__law_of [(true, q2), (false, dicD us)] = some ((false, ent en), [(true, q3), (false, .non)]) := w1
      exact ⟨tx en.2, [some ⟨true, true, q3⟩, some ⟨false, false, dicD us⟩, none, none, none, none, none, none, none], by simp [turnF, w1]; simp [ent], ⟨en.2, h2 en he, rfl⟩, q3, w3, rfl⟩)
  obtain ⟨ls, l1, l2, l3⟩ := txs_of g3
  rw [rangeD_len] at g2 hq2
  have fl := flat_le fun l hl => (l2 l hl).1
  have jn := join_tx ls (by omega)
  obtain ⟨rw', q3, r1, r2, r3, r4, r5⟩ := row_ok (S := [120, 121]) (lo := 0) (hi := 4) hq2 (by omega) (by omega) (by omega) (by simp) (by simp)
  obtain ⟨c1, c2⟩ := cut4 ls.flatten
  have cu : slD (tx ls.flatten) none (some 4) = some (.sh (tx (cutD ls.flatten none (some 4)))) := by
    show (if (Sx ls.flatten).length ≤ sizeLine then some (T.sh (.str (cutS (Sx ls.flatten) none (some 4)))) else none) = _
    rw [Sx_len, if_pos (by rw [sz]; omega), Sx_cut]
  generalize cutD ls.flatten none (some 4) = ct at c1 c2 cu
  obtain ⟨d, q4, s1, s2, s3⟩ := of_lst (ds := [tx ct, tx rw']) r5 (by omega) (by simp) (by simp)
  have memf : ∀ c ∈ ls.flatten, c = 120 ∨ c = 121 := by
    intro c hc
    obtain ⟨l, hl, hcl⟩ := List.mem_flatten.mp hc
    exact (l2 l hl).2 c hcl
  have hx : ∃ x : List Nat, d = tx x ∧ x.length ≤ 4 ∧ Small x := by
    simp only [List.mem_cons, List.not_mem_nil, or_false] at s2
    rcases s2 with rfl | rfl
    · exact ⟨ct, rfl, c1, fun c hc => by have := memf c (c2 c hc); omega⟩
    · exact ⟨rw', rfl, by omega, fun c hc => by have := r2 c hc; simp at this; omega⟩
  obtain ⟨x, rfl, x1, x2⟩ := hx
  refine ⟨x, q4, ?_, x1, x2, s3.mono (by omega)⟩
  have small : (-4611686018427387904 ≤ v ∧ v < 4611686018427387904) := by omega
  rw [List.nil_append, l1] at g1
  unfold rtX
  generalize rtY = Y at g1
  simp [e1, small, g1, str_empty, str_xy, jn, cu, r1, s1, sz]
theorem P_all {g : Nat → List Tr} {L : Nat} (hg : Gr g L) : ∀ p, p ≤ L → ∀ t ∈ P g L p, ∀ a ∈ t, ∃ q, a ∈ g q := by
  refine P_ind fun p hp ih t ht a ha => ?_
  by_cases h : p = L
  · subst h
    rw [P_L] at ht
    rw [List.mem_singleton.mp ht] at ha
    cases ha
  · obtain ⟨b, h1, r', h2, rfl⟩ := (P_mem hg (by omega)).mp ht
    rcases List.mem_cons.mp ha with rfl | ha
    · exact ⟨p, h1⟩
    · have := hg.up p b h1
      exact ih b.2.2 this.1 this.2 r' h2 a ha
def oOf (us : List Ent) (i : Nat) : List Nat := (us[i]?.getD ([], [])).1
def rowOf (us : List Ent) (r : List Nat) : List Nat := (r.map (oOf us)).flatten
theorem rowOf_nums {us : List Ent} {x : List Nat} (hg : Gr (gr us x) x.length) {t : List Tr} (ht : t ∈ P (gr us x) x.length 0) : rowOf us (nums t) = row t := by
  unfold rowOf nums row
  rw [List.map_map]
  congr 1
  refine List.map_congr_left fun a ha => ?_
  obtain ⟨q, hq⟩ := P_all hg 0 (by omega) t ht a ha
  obtain ⟨s, h1, _⟩ := gr_in hq
  show (us[a.1]?.getD ([], [])).1 = _
  rw [h1]
  rfl
theorem rows_lc {us : List Ent} {x : List Nat} (h : Dic us) {fd : List (List Nat)} (hp : ∀ r ∈ fd, ∃ t ∈ P (gr us x) x.length 0, r = nums t) (hl : fd.length ≤ 100000) (hx : x.length ≤ 4) {s0 s2 s3 : Option Slot} :
    lcF [6] (gN 6) fYes rtI (fd.map iD) [] [s0, some ⟨false, false, dicD us⟩, s2, s3, none, none, none, none, none] = some (fd.map fun r => tx (rowOf us r), [s0, some ⟨false, false, dicD us⟩, s2, s3, none, none, none, none, none]) := by
  have hg := gr_ok (x := x) h
  refine lcF_ma iD _ fd (by rw [sz]; omega) fun r hr => ?_
  obtain ⟨t, ht, rfl⟩ := hp r hr
  have tl := (cost_le hg 0 (by omega) t ht).1
  have rl : (rowOf us (nums t)).length ≤ 32 := by rw [rowOf_nums hg ht, row_len]; omega
  have nl : (nums t).length ≤ 32 := by
    have : t.length ≤ cost t := by
      have hO : ∀ a ∈ t, 1 ≤ a.2.1.length := fun a ha => by
        obtain ⟨q, hq⟩ := P_all hg 0 (by omega) t ht a ha
        exact (hg.o8 q a hq).1
      clear ht tl rl hr
      induction t with
      | nil => exact Nat.zero_le _
      | cons a t ih =>
        have h1 := hO a List.mem_cons_self
        have h2 := ih fun b hb => hO b (List.mem_cons_of_mem _ hb)
        show t.length + 1 ≤ a.2.1.length + cost t
        omega
    unfold nums
    rw [List.length_map]
    omega
  have lc : lcF [8] (gN 8) fYes (f2 ixD (f2 ixD (fVar 1) (fVar 8)) (fC (.int 0))) ((nums t).map fun i => .int (i : Nat)) [] [s0, some ⟨false, false, dicD us⟩, s2, s3, none, none, some ⟨false, false, iD (nums t)⟩, none, none] = some ((nums t).map fun i => tx (oOf us i), [s0, some ⟨false, false, dicD us⟩, s2, s3, none, none, some ⟨false, false, iD (nums t)⟩, none, none]) := by
    refine lcF_ma (fun i : Nat => .int (i : Nat)) _ (nums t) (by rw [sz]; omega) fun i hi => ?_
    obtain ⟨a, ha, rfl⟩ := List.mem_map.mp hi
    obtain ⟨q, hq⟩ := P_all hg 0 (by omega) t ht a ha
    obtain ⟨s, h1, _⟩ := gr_in hq
    have h3 : atI (us.map ent) ((a.1 : Nat) : Int) = some (ent (a.2.1, s)) := atI_n (by rw [List.getElem?_map, h1]; rfl)
    have h4 : oOf us a.1 = a.2.1 := by unfold oOf; rw [h1]; rfl
    simp [turnF, dicD, h3, ent, h4]
  have jn := join_tx ((nums t).map (oOf us)) (by
    have : (rowOf us (nums t)).length ≤ 32 := rl
    unfold rowOf at this
    omega)
  rw [List.map_map] at jn
  have jn : joinD (tx []) [.lst ((nums t).map fun i => tx (oOf us i))] = some (.sh (tx (rowOf us (nums t)))) := jn
  generalize ((nums t).map fun i => tx (oOf us i)) = js at lc jn
  generalize tx (rowOf us (nums t)) = rr at jn
  unfold iD at lc ⊢
  generalize ((nums t).map fun i => D.int (i : Nat)) = ns at lc ⊢
  simp [turnF, str_empty, lc, jn]
end DD

namespace DD
open PySem PySem.Spec PyProof.Rows L2
theorem rows_lc2 {rs : List (List Nat)} (hl : rs.length ≤ 100000) (hr : ∀ r ∈ rs, r.length ≤ 1000) {s0 s1 s2 s3 : Option Slot} :
    lcF [5] (gN 5) fYes rtO (rs.map tx) [] [s0, s1, s2, s3, none, none, none, none, none] = some (rs.map rw2, [s0, s1, s2, s3, none, none, none, none, none]) := by
  refine lcF_ma tx rw2 rs (by rw [sz]; omega) fun r hr' => ?_
  have := hr r hr'
  have h : r.length ≤ 16777216 := by omega
  simp [turnF, sz, h, rw2]
theorem right_ok {n : Nat} {p : D} (h : Pot n p) (hn : n + 1000 < 1000000) : ∃ p', G__law_right [(true, p)] = some ((false, .bl true), [(true, p')]) ∧ Pot (n + 100) p' := by
  obtain ⟨us, p1, d1, hd, hu5, hsm, hp1⟩ := dictionary_ok h (by omega)
  obtain ⟨x, p2, t1, t2, t3, hp2⟩ := rt_ok hd.ne hd.few (fun e he => ⟨(hsm e he).2.1, (hsm e he).2.2⟩) hp1 (by omega)
  obtain ⟨fd, a1, a2, a3⟩ := all_ok hd hu5 t2
  have hg := gr_ok (x := x) hd
  refine ⟨p2, ?_, hp2.mono (by omega)⟩
  have fdm : ∀ r ∈ fd, ∃ t ∈ P (gr us x) x.length 0, r = nums t := by
    intro r hr
    obtain ⟨t, ht, rfl⟩ := List.mem_map.mp (a2.mem_iff.mp hr)
    exact ⟨t, ht, rfl⟩
  have fdl : fd.length = B (gr us x) x.length 0 := by
    rw [a2.length_eq, List.length_map]
    rfl
  have h4 := rows_lc hd fdm a3 t2 (s0 := some ⟨true, true, p2⟩) (s2 := some ⟨false, false, tx x⟩) (s3 := some ⟨false, false, .lst (fd.map iD)⟩)
  have rsm : ∀ r, r ∈ fd.map (rowOf us) ↔ ∃ t ∈ P (gr us x) x.length 0, r = row t := by
    intro r
    rw [List.mem_map]
    constructor
    · rintro ⟨i, hi, rfl⟩
      obtain ⟨t, ht, rfl⟩ := fdm i hi
      exact ⟨t, ht, rowOf_nums hg ht⟩
    · rintro ⟨t, ht, rfl⟩
      exact ⟨nums t, a2.mem_iff.mpr (List.mem_map.mpr ⟨t, ht, rfl⟩), rowOf_nums hg ht⟩
  have rsl : ∀ r ∈ fd.map (rowOf us), r.length ≤ 1000 := by
    intro r hr
    obtain ⟨t, ht, rfl⟩ := (rsm r).mp hr
    have := (cost_le hg 0 (by omega) t ht).1
    rw [row_len]
    omega
  have h5 := rows_lc2 (rs := fd.map (rowOf us)) (by rw [List.length_map]; exact a3) rsl (s0 := some ⟨true, true, p2⟩) (s1 := some ⟨false, false, dicD us⟩) (s2 := some ⟨false, false, tx x⟩) (s3 := some ⟨false, false, .lst (fd.map iD)⟩)
  have hrs : (fd.map (rowOf us)).map tx = fd.map fun r => tx (rowOf us r) := by rw [List.map_map]; rfl
  rw [hrs] at h5
  obtain ⟨sr, q1, q2, q3⟩ := sort_any (f := rw2) (fd.map (rowOf us))
  have rwf : ∀ r, flat (rw2 r) = true := fun r => rfl
  have rwd : ∀ r, (py (rw2 r)).depth ≤ 1 := fun r => by show (1 : Nat) ≤ 1; omega
  have so : sortOk ((fd.map (rowOf us)).map rw2) = true := sortOk_map rwf (fun _ _ => rfl) (.inl fun _ => rfl) (fun r => by have := rwd r; omega) (by rw [List.length_map, sz]; omega)
  have h6 : sortedK [.lst ((fd.map (rowOf us)).map rw2)] = some (.ow (.lst (sr.map rw2))) := by
    show (if sortOk ((fd.map (rowOf us)).map rw2) = true then some (T.ow (.lst (sortD ((fd.map (rowOf us)).map rw2)))) else none) = _
    rw [if_pos so, q1]
  have h7 := writings_ok hd t3 (by omega)
  have h8 : reprD [.int (B (gr us x) x.length 0 : Nat)] = some (.sh (.str (toString ((B (gr us x) x.length 0 : Nat) : Int)))) := by
    show (if (((B (gr us x) x.length 0 : Nat) : Int)).natAbs.log2 < 1920 then some (T.sh (.str (toString ((B (gr us x) x.length 0 : Nat) : Int)))) else none) = _
    rw [if_pos]
    have := log2_int (i := ((B (gr us x) x.length 0 : Nat) : Int)) (k := 30) (by omega) (by omega) (by omega)
    omega
  have h10 := nil_e (ds := fd.map iD) (flatL_map iD_flat fd) (by have := depth_map iD_depth fd; omega)
  have h13 := nil_n (ds := sr.map rw2) (flatL_map rwf sr) (by have := depth_map rwd sr; omega)
  have srm : ∀ r, r ∈ sr ↔ ∃ t ∈ P (gr us x) x.length 0, r = row t := fun r => by rw [q2.mem_iff]; exact rsm r
  have lenr : ∀ t ∈ P (gr us x) x.length 0, (row t).length = cost t := fun t _ => row_len t
  rcases told_ok hd t3 (by omega : x.length ≤ 2000) with ⟨hb, a, b, h9⟩ | ⟨hb, a, h9⟩
  · rcases least_ok hd t3 (by omega : x.length ≤ 2000) with ⟨_, v0, o1, o2, h11⟩ | ⟨hb', _⟩
    · obtain ⟨tb, htb, htc⟩ := best_in hb
      have sne : sr ≠ [] := fun e => by
        have := (srm (row tb)).mpr ⟨tb, htb, rfl⟩
        rw [e] at this
        cases this
      obtain ⟨r0, sr', rfl⟩ : ∃ r s, sr = r :: s := by
        cases sr with
        | nil => exact absurd rfl sne
        | cons r s => exact ⟨r, s, rfl⟩
      have hd0 : ∀ r ∈ r0 :: sr', ¬ ltD (rw2 r) (rw2 r0) := by
        intro r hr
        rcases List.mem_cons.mp hr with rfl | hr
        · rw [ltD_rw]
          simp [irr_list]
        · exact (List.pairwise_cons.mp q3).1 r hr
      have rv : r0 = v0 := by
        obtain ⟨t0, ht0, e0⟩ := (srm r0).mp List.mem_cons_self
        have c0 : best (gr us x) x.length 0 ≤ cost t0 := best_mem ht0
        have l0 : r0.length = cost t0 := by rw [e0]; exact row_len t0
        have n1 := hd0 (row tb) ((srm _).mpr ⟨tb, htb, rfl⟩)
        rw [ltD_rw, row_len] at n1
        have c1 : cost t0 = best (gr us x) x.length 0 := by omega
        have o0 : Opt (gr us x) x.length r0 := ⟨t0, ht0, c1, e0⟩
        obtain ⟨tv, hv1, hv2, hv3⟩ := o1
        have n2 := hd0 v0 ((srm _).mpr ⟨tv, hv1, hv3⟩)
        rw [ltD_rw] at n2
        have lv : v0.length = best (gr us x) x.length 0 := by rw [hv3, row_len]; exact hv2
        have n3 := o2 r0 o0
        by_cases e : r0 = v0
        · exact e
        · exfalso
          exact n3 (tri_list (fun w => n2 (.inr ⟨by omega, w⟩)) e)
      have vl : v0.length ≤ 1000 ∧ ∀ c ∈ v0, c < 16 ^ 8 := by
        subst rv
        obtain ⟨t0, ht0, e0⟩ := (srm r0).mp List.mem_cons_self
        refine ⟨rsl r0 ((rsm r0).mpr ⟨t0, ht0, e0⟩), fun c hc => ?_⟩
        rw [e0] at hc
        unfold row at hc
        obtain ⟨o, ho, hco⟩ := List.mem_flatten.mp hc
        obtain ⟨a, ha, rfl⟩ := List.mem_map.mp ho
        obtain ⟨q, hq⟩ := P_all hg 0 (by omega) t0 ht0 a ha
        obtain ⟨s, hs, _⟩ := gr_in hq
        have := hd.so _ (List.mem_of_getElem? hs) c hco
        have : (16 : Nat) ^ 8 = 4294967296 := by decide
        omega
      have h12 : reprD [tx v0] = some (.sh (.str (reprText (Sx v0)))) := by
        show (if (reprText (Sx v0)).length ≤ sizeLine then some (T.sh (.str (reprText (Sx v0)))) else none) = _
        rw [if_pos]
        have := StrLaws.reprText_len (Sx v0) (fun c hc => vl.2 c hc)
        rw [Sx_len] at this
        rw [sz]
        omega
      have fdn : ¬ fd.map iD = [] := fun e => by
        rw [List.map_eq_nil_iff] at e
        have := (rsm (row tb)).mpr ⟨tb, htb, rfl⟩
        rw [e] at this
        cases this
      refine right_run d1 t1 a1 h4 h5 h6 h7 h8 (by rw [List.length_map, fdl]) h9 h10 (by rw [decide_eq_false fdn]; decide +kernel) h11 h12 h13 ?_
      rw [if_pos (decide_eq_true (by simp))]
      exact ⟨_, by rw [List.map_cons, at_0, rv]; rfl⟩
    · exact absurd hb hb'
  · rcases least_ok hd t3 (by omega : x.length ≤ 2000) with ⟨hb', _⟩ | ⟨_, h11⟩
    · exact absurd hb' hb
    · have pe : P (gr us x) x.length 0 = [] := by
        by_cases e : P (gr us x) x.length 0 = []
        · exact e
        · exact absurd ((best_iff hg (by omega) (by omega)).mpr e) hb
      have fde : fd = [] := by
        have := a2.length_eq
        rw [pe] at this
        exact List.length_eq_zero_iff.mp this
      have sre : sr = [] := by
        have := q2.length_eq
        rw [fde] at this
        exact List.length_eq_zero_iff.mp this
      have h12 : reprD [.non] = some (.sh (.str "None")) := rfl
      refine right_run d1 t1 a1 h4 h5 h6 h7 h8 (by rw [List.length_map, fdl]) h9 h10 (by rw [fde]; rfl) h11 h12 h13 ?_
      rw [sre]
      rfl
end DD

namespace DD
open PySem PySem.Spec PyProof.Rows L2
/-! ### the law's pots and cells -/
noncomputable abbrev potC : FE := (fIf (fB (f2 (ltF false false) (fVar 1) (fBlt lenD (qCons (fVar 0) qNil)))) (f2 ixD (fVar 0) (fVar 1)) (f2 addD (f2 addD (f2 modD (fBlt intD (qCons (fBlt sumD (qCons (fSl (fVar 0) fNoPart (fPart (fC (.int 1)))) qNil)) qNil)) (fC (.int 1000003))) (f2 mulF (fC (.int 7996)) (fVar 1))) (fC (.int 19876))))
theorem pot_run {d0 : D} {v c : Int} (hv0 : 0 ≤ v) (hv2 : v ≤ 2) (hc : potC [some ⟨false, false, d0⟩, some ⟨false, false, .int v⟩, none, none, none] = some (.sh (.int c), [some ⟨false, false, d0⟩, some ⟨false, false, .int v⟩, none, none, none])) :
    ∃ p, G__law_pot [(false, d0), (false, .int v)] = some ((true, p), [(false, .non), (false, .non)]) ∧ Pot 0 p := by
  have e : G__law_pot = runDef 2 5 (sSeq (sSet 2 potC)
    (sSeq (sSet 3 (f2 mulF (f2 modD (fBlt intD (qCons (fBlt absD (qCons (fVar 2) qNil)) qNil)) (f2 powD (f2 powD (fC (.int 10)) (fC (.int 60))) (fC (.int 5)))) (fBlt intD (qCons (f2 (ltF true false) (fBlt absD (qCons (fVar 2) qNil)) (f2 powD (fC (.int 10)) (fC (.int 18)))) qNil))))
    (sSeq (sSet 4 (f2 modD (fBlt intD (qCons (fVar 2) qNil)) (fC (.int 2305843009213693951))))
    (sSeq (sRet (fLst (fCons (fVar 3) (fCons (f2 modD (fBlt intD (qCons (f2 addD (f2 addD (f2 mulF (fVar 4) (fC (.int 162322))) (f2 mulF (f2 mulF (fC (.int 19274)) (fVar 1)) (fVar 1))) (fC (.int 5248))) qNil)) (fC (.int 2305843009213693921))) (fCons (fC (.int 0)) fNil)))))
    sNil)))) := rfl
  rw [e]
  generalize potC = F at hc
  generalize hA : (if c < 0 then -c else c) = A
  have hA0 : 0 ≤ A := by split at hA <;> omega
  have pw1 : powD (.int 10) (.int 60) = some (.sh (.int (10 ^ 60))) := by
    rw [o_pow, if_pos]
    · rfl
    · have : Builtin.Int.intBits 10 ≤ 4 := bits_int (by omega) (by omega)
      omega
  have pw2 : powD (.int (10 ^ 60)) (.int 5) = some (.sh (.int (10 ^ 300))) := by
    rw [o_pow, if_pos]
    · rfl
    · have : Builtin.Int.intBits (10 ^ 60) ≤ 200 := bits_int (by omega) (by decide +kernel)
      omega
  have pw3 : powD (.int 10) (.int 18) = some (.sh (.int (10 ^ 18))) := by
    rw [o_pow, if_pos]
    · rfl
    · have : Builtin.Int.intBits 10 ≤ 4 := bits_int (by omega) (by omega)
      omega
  have ab : absD [.int c] = some (.sh (.int A)) := by rw [a_int, hA]
  have md : modD (.int A) (.int (10 ^ 300)) = some (.sh (.int (A % 10 ^ 300))) := by
    rw [o_mod, if_pos (by decide +kernel)]
  have m0 : 0 ≤ A % 10 ^ 300 := Int.emod_nonneg _ (by decide +kernel)
  have m1 : A % 10 ^ 300 < 10 ^ 300 := Int.emod_lt_of_pos _ (by decide +kernel)
  have m2 : (A % 10 ^ 300).natAbs.log2 < 1000 := log2_int m0 (Int.lt_trans m1 (by decide +kernel)) (by omega)
  generalize A % 10 ^ 300 = M at md m0 m2
  generalize (10 : Int) ^ 300 = T300 at pw2 md
  generalize (10 : Int) ^ 60 = T60 at pw1 pw2
  generalize (10 : Int) ^ 18 = T18 at pw3
  obtain ⟨z, hz, z0, z1⟩ : ∃ z : Int, intD [.bl (decide (T18 ≤ A))] = some (.sh (.int z)) ∧ 0 ≤ z ∧ z ≤ 1 := by
    rw [i_bl]
    by_cases h : T18 ≤ A
    · exact ⟨1, by rw [decide_eq_true h]; rfl, by omega, by omega⟩
    · exact ⟨0, by rw [decide_eq_false h]; rfl, by omega, by omega⟩
  have ge : ltF true false (.int A) (.int T18) = some (.sh (.bl (decide (T18 ≤ A)))) := lt4
  have mu : mulF (.int M) (.int z) = some (.sh (.int (M * z))) := by
    rw [o_mul, if_pos]
    have := log2_int (i := z) (k := 10) z0 (by omega) (by omega)
    omega
  have mz : 0 ≤ M * z := Int.mul_nonneg m0 z0
  generalize M * z = O at mu mz
  have x0 : 0 ≤ c % 2305843009213693951 := Int.emod_nonneg _ (by omega)
  have x1 : c % 2305843009213693951 < 2305843009213693951 := Int.emod_lt_of_pos _ (by omega)
  have md2 : modD (.int c) (.int 2305843009213693951) = some (.sh (.int (c % 2305843009213693951))) := by rw [o_mod, if_pos (by omega)]
  generalize c % 2305843009213693951 = X at x0 x1 md2
  have k1 : mulF (.int X) (.int 162322) = some (.sh (.int (X * 162322))) := by
    rw [o_mul, if_pos]
    have := log2_int (i := X) (k := 61) x0 (by omega) (by omega)
    have := log2_int (i := 162322) (k := 30) (by omega) (by omega) (by omega)
    omega
  have k2 : mulF (.int 19274) (.int v) = some (.sh (.int (19274 * v))) := by
    rw [o_mul, if_pos]
    have := log2_int (i := v) (k := 30) hv0 (by omega) (by omega)
    have := log2_int (i := 19274) (k := 30) (by omega) (by omega) (by omega)
    omega
  have k3 : mulF (.int (19274 * v)) (.int v) = some (.sh (.int (19274 * v * v))) := by
    rw [o_mul, if_pos]
    have := log2_int (i := v) (k := 30) hv0 (by omega) (by omega)
    have := log2_int (i := 19274 * v) (k := 30) (by omega) (by omega) (by omega)
    omega
  have y0 := Int.emod_nonneg (X * 162322 + 19274 * v * v + 5248) (by omega : (2305843009213693921 : Int) ≠ 0)
  have y1 := Int.emod_lt_of_pos (X * 162322 + 19274 * v * v + 5248) (by omega : (0 : Int) < 2305843009213693921)
  have md3 : modD (.int (X * 162322 + 19274 * v * v + 5248)) (.int 2305843009213693921) = some (.sh (.int ((X * 162322 + 19274 * v * v + 5248) % 2305843009213693921))) := by rw [o_mod, if_pos (by omega)]
  generalize (X * 162322 + 19274 * v * v + 5248) % 2305843009213693921 = Y at y0 y1 md3
  refine ⟨potD O Y 0, ?_, O, Y, 0, rfl, mz, y0, y1, by omega, by omega⟩
  simp [outs_eq, hc, pw1, pw2, pw3, ab, md, hz, ge, mu, md2, k1, k2, k3, md3, potD, sz, -o_mul, -o_mod, -o_pow, -a_int, -i_bl, -lt4]
theorem pot_ok {ns : List Int} {v : Nat} (hl : ns.length ≤ 63) (hv : v ≤ 2) (h : v < ns.length ∨ (v = 0 ∧ ns = [])) :
    ∃ p, G__law_pot [(false, .scr ns), (false, .int (v : Nat))] = some ((true, p), [(false, .non), (false, .non)]) ∧ Pot 0 p := by
  rcases h with h | ⟨rfl, rfl⟩
  · obtain ⟨c, hc⟩ : ∃ c, ns[v]? = some c := ⟨ns[v], List.getElem?_eq_getElem h⟩
    have ha := atI_n hc
    refine pot_run (c := c) (by omega) (by omega) ?_
    simp [h, ha]
  · refine pot_run (c := 19876) (by omega) (by omega) ?_
    have s : sumD [.lst []] = some (.sh (.int 0)) := rfl
    have cu : slD (.scr []) none (some 1) = some (.ow (.lst [])) := rfl
    have lg : Nat.log2 7996 < 1000000 := by decide +kernel
    simp [s, cu, lg]
theorem cells_ok {ns : List Int} (hl : ns.length ≤ 63) : ∃ m : Nat, G__law_cells [(false, .scr ns), (false, .int 3)] = some ((true, .lst (rangeD 0 m)), [(false, .non), (false, .non)]) ∧ m ≤ 3 ∧ 1 ≤ m ∧ (m ≤ ns.length ∨ (m = 1 ∧ ns = [])) := by
  have m1 : minOf [.int 3, .int (ns.length : Nat)] = some (.sh (.int (if ((ns.length : Nat) : Int) < 3 then ((ns.length : Nat) : Int) else 3))) := rfl
  obtain ⟨k, hk, k3, kn⟩ : ∃ k : Nat, (if ((ns.length : Nat) : Int) < 3 then ((ns.length : Nat) : Int) else 3) = (k : Nat) ∧ k ≤ 3 ∧ (k = ns.length ∨ (k = 3 ∧ 3 ≤ ns.length)) := by
    by_cases h : ((ns.length : Nat) : Int) < 3
    · exact ⟨ns.length, by rw [if_pos h], by omega, .inl rfl⟩
    · exact ⟨3, by rw [if_neg h]; rfl, by omega, .inr ⟨rfl, by omega⟩⟩
  rw [hk] at m1
  have m2 : maxOf [.int 1, .int (k : Nat)] = some (.sh (.int (if ((k : Nat) : Int) > 1 then ((k : Nat) : Int) else 1))) := rfl
  obtain ⟨m, hm, mm⟩ : ∃ m : Nat, (if ((k : Nat) : Int) > 1 then ((k : Nat) : Int) else 1) = (m : Nat) ∧ ((m = k ∧ 1 < k) ∨ (m = 1 ∧ k ≤ 1)) := by
    by_cases h : ((k : Nat) : Int) > 1
    · exact ⟨k, by rw [if_pos h], .inl ⟨rfl, by omega⟩⟩
    · exact ⟨1, by rw [if_neg h]; rfl, .inr ⟨rfl, by omega⟩⟩
  rw [hm] at m2
  refine ⟨m, ?_, by omega, by omega, ?_⟩
  · have s1 : m ≤ 16777216 := by omega
    have s2 : ((m : Nat) : Int) < 4611686018427387904 := by omega
    have s3 : -4611686018427387904 ≤ ((m : Nat) : Int) := by omega
    simp [G__law_cells, S__law_cells, outs_eq, m1, m2, s1, s2, s3]
  · by_cases h0 : ns = []
    · right
      rw [h0] at kn
      simp at kn
      exact ⟨by omega, h0⟩
    · left
      have := List.length_pos_iff.mpr h0
      omega
end DD

namespace DD
open PySem PySem.Spec PyProof.Rows L2
/-! ### long texts of one sign -/
theorem numE_fm {β : Type} (b : Ent → Bool) (f : Ent → β) : ∀ (us : List Ent) (k : Nat), ((numE k us).filter fun a => b a.2).map (fun a => f a.2) = (us.filter b).map f
  | [], _ => rfl
  | e :: us, k => by
    rw [numE, List.filter_cons, List.filter_cons]
    by_cases h : b e = true
    · simp only [h, if_true, List.map_cons]
      rw [numE_fm b f us]
    · simp only [h]
      exact numE_fm b f us (k + 1)
def hitE (x : List Nat) (p : Nat) (e : Ent) : Bool := decide (e.2 ≠ []) && decide ((x.drop p).take e.2.length = e.2)
theorem gr_map {us : List Ent} {x : List Nat} {p : Nat} (F : List Nat → Nat → Nat) : (gr us x p).map (fun a => F a.2.1 a.2.2) = (us.filter (hitE x p)).map fun e => F e.1 (p + e.2.length) := by
  unfold gr
  rw [List.map_map]
  exact numE_fm (hitE x p) (fun e => F e.1 (p + e.2.length)) us 0
theorem mn_perm {a b : List Nat} (h : a.Perm b) : mn a = mn b := by
  induction h with
  | nil => rfl
  | cons x _ ih => rw [mn, mn, ih]
  | swap x y l => rw [mn, mn, mn, mn]; omega
  | trans _ _ h1 h2 => rw [h1, h2]
theorem sum_perm {a b : List Nat} (h : a.Perm b) : a.sum = b.sum := by
  induction h with
  | nil => rfl
  | cons x _ ih => rw [List.sum_cons, List.sum_cons, ih]
  | swap x y l => rw [List.sum_cons, List.sum_cons, List.sum_cons, List.sum_cons]; omega
  | trans _ _ h1 h2 => rw [h1, h2]
theorem sum_const {α : Type} (c : Nat) : ∀ l : List α, (l.map fun _ => c).sum = l.length * c
  | [] => by simp
  | a :: l => by rw [List.map_cons, List.sum_cons, sum_const c l, List.length_cons, Nat.succ_mul]; omega
theorem mn_addr {α : Type} (f : α → Nat) (c : Nat) : ∀ l : List α, mn (l.map fun a => f a + c) = min 1000000 (mn (l.map f) + c)
  | [] => by simp only [List.map_nil, mn]; omega
  | a :: l => by rw [List.map_cons, List.map_cons, mn, mn, mn_addr f c l]; omega
def lx (o1 o2 : List (List Nat)) : List Ent := (o1.map fun o => ((o, [120]) : Ent)) ++ o2.map fun o => ((o, [120, 120]) : Ent)
abbrev xs (n : Nat) : List Nat := List.replicate n 120
theorem hit_x {n p : Nat} {o : List Nat} (hp : p < n) : hitE (xs n) p (o, [120]) = true := by
  unfold hitE
  rw [Bool.and_eq_true, decide_eq_true_eq, decide_eq_true_eq, List.drop_replicate, List.take_replicate]
  refine ⟨by simp, ?_⟩
  rw [show min ([120] : List Nat).length (n - p) = 1 by simp; omega]
  rfl
theorem hit_xx {n p : Nat} {o : List Nat} : hitE (xs n) p (o, [120, 120]) = decide (p + 2 ≤ n) := by
  unfold hitE
  rw [List.drop_replicate, List.take_replicate]
  by_cases h : p + 2 ≤ n
  · rw [decide_eq_true h, Bool.and_eq_true, decide_eq_true_eq, decide_eq_true_eq]
    refine ⟨by simp, ?_⟩
    rw [show min ([120, 120] : List Nat).length (n - p) = 2 by simp; omega]
    rfl
  · rw [decide_eq_false h, Bool.and_eq_false_iff]
    right
    rw [decide_eq_false_iff_not]
    intro e
    have := congrArg List.length e
    simp at this
    omega
theorem fil_x {o1 o2 : List (List Nat)} {n p : Nat} (hp : p < n) : (lx o1 o2).filter (hitE (xs n) p) = lx o1 (if p + 2 ≤ n then o2 else []) := by
  unfold lx
  rw [List.filter_append]
  congr 1
  · rw [List.filter_eq_self.mpr]
    intro e he
    obtain ⟨o, _, rfl⟩ := List.mem_map.mp he
    exact hit_x hp
  · by_cases h : p + 2 ≤ n
    · rw [if_pos h, List.filter_eq_self.mpr]
      intro e he
      obtain ⟨o, _, rfl⟩ := List.mem_map.mp he
      rw [hit_xx, decide_eq_true h]
    · rw [if_neg h, List.map_nil, List.filter_eq_nil_iff]
      intro e he
      obtain ⟨o, _, rfl⟩ := List.mem_map.mp he
      rw [hit_xx, decide_eq_false h]
      simp
section
variable {us : List Ent} {o1 o2 : List (List Nat)} {n : Nat}
theorem gr_x (hu : us.Perm (lx o1 o2)) {p : Nat} (hp : p < n) (F : List Nat → Nat → Nat) : ((gr us (xs n) p).map fun a => F a.2.1 a.2.2).Perm ((o1.map fun o => F o (p + 1)) ++ (if p + 2 ≤ n then o2 else []).map fun o => F o (p + 2)) := by
  rw [gr_map F]
  have h1 := (hu.filter (hitE (xs n) p)).map fun e => F e.1 (p + e.2.length)
  refine h1.trans ?_
  rw [fil_x hp]
  unfold lx
  rw [List.map_append, List.map_map, List.map_map]
  exact List.Perm.refl _
/-- how many, by the length left -/
def Fm (a b : Nat) : Nat → Nat
  | 0 => 1
  | 1 => a
  | k + 2 => a * Fm a b (k + 1) + b * Fm a b k
def Fl (a b : Nat) : Nat → Nat
  | 0 => 0
  | 1 => a
  | k + 2 => min (a + Fl a b (k + 1)) (b + Fl a b k)
theorem B_x (hg : Gr (gr us (xs n)) n) (hu : us.Perm (lx o1 o2)) : ∀ k, k ≤ n → B (gr us (xs n)) n (n - k) = Fm o1.length o2.length k
  | 0, _ => by rw [Nat.sub_zero]; exact B_L
  | 1, h => by
    have h2 := sum_perm (gr_x (n := n) hu (p := n - 1) (by omega) fun _ q => B (gr us (xs n)) n q)
    rw [B_lt hg (by omega), h2, if_neg (by omega), List.map_nil, List.append_nil, sum_const, show n - 1 + 1 = n by omega, B_L, Fm]
    omega
  | k + 2, h => by
    have h2 := sum_perm (gr_x (n := n) hu (p := n - (k + 2)) (by omega) fun _ q => B (gr us (xs n)) n q)
    rw [B_lt hg (by omega), h2, if_pos (by omega), List.sum_append, sum_const, sum_const, show n - (k + 2) + 1 = n - (k + 1) by omega, show n - (k + 2) + 2 = n - k by omega, B_x hg hu (k + 1) (by omega), B_x hg hu k (by omega), Fm]
theorem best_x (hg : Gr (gr us (xs n)) n) (hu : us.Perm (lx o1 o2)) (ha : mn (o1.map List.length) ≤ 8) (hn : n ≤ 2000) : ∀ k, k ≤ n → best (gr us (xs n)) n (n - k) = Fl (mn (o1.map List.length)) (mn (o2.map List.length)) k ∧ Fl (mn (o1.map List.length)) (mn (o2.map List.length)) k ≤ 8 * k
  | 0, _ => ⟨by rw [Nat.sub_zero]; exact best_L, Nat.le_refl _⟩
  | 1, h => by
    have h2 := mn_perm (gr_x (n := n) hu (p := n - 1) (by omega) fun o q => o.length + best (gr us (xs n)) n q)
    rw [best_lt hg (by omega), h2, if_neg (by omega), List.map_nil, List.append_nil, mn_addr, show n - 1 + 1 = n by omega, best_L, Fl]
    have : (o1.map fun o => o.length) = o1.map List.length := rfl
    rw [this]
    omega
  | k + 2, h => by
    have h2 := mn_perm (gr_x (n := n) hu (p := n - (k + 2)) (by omega) fun o q => o.length + best (gr us (xs n)) n q)
    have i1 := best_x hg hu ha hn (k + 1) (by omega)
    have i2 := best_x hg hu ha hn k (by omega)
    rw [best_lt hg (by omega), h2, if_pos (by omega), mn_app, mn_addr, mn_addr, show n - (k + 2) + 1 = n - (k + 1) by omega, show n - (k + 2) + 2 = n - k by omega, i1.1, i2.1, Fl]
    have e1 : (o1.map fun o => o.length) = o1.map List.length := rfl
    have e2 : (o2.map fun o => o.length) = o2.map List.length := rfl
    rw [e1, e2]
    omega
end
theorem Fm_lt {a b : Nat} (ha : a ≤ 4) (hb : b ≤ 4) : ∀ k, Fm a b k ≤ 8 ^ k ∧ Fm a b (k + 1) ≤ 8 ^ (k + 1)
  | 0 => ⟨by rw [Fm]; simp, by rw [Fm]; omega⟩
  | k + 1 => by
    obtain ⟨h1, h2⟩ := Fm_lt ha hb k
    refine ⟨h2, ?_⟩
    rw [Fm]
    have h3 : a * Fm a b (k + 1) ≤ 4 * 8 ^ (k + 1) := Nat.mul_le_mul ha h2
    have h4 : b * Fm a b k ≤ 4 * 8 ^ k := Nat.mul_le_mul hb h1
    have h5 : 8 ^ (k + 1 + 1) = 8 * 8 ^ (k + 1) := by rw [Nat.pow_succ]; omega
    have h6 : 8 ^ (k + 1) = 8 * 8 ^ k := by rw [Nat.pow_succ]; omega
    omega
end DD

namespace DD
open PySem PySem.Spec PyProof.Rows L2
/-! ### the long dictionary -/
noncomputable abbrev lgC (hi : Int) : FE := (fLc (fWalk rng1 (fCons (f2 addD (fC (.int 1)) (fCall G__law_take (aCons (fVar 0) (aCons (fC (.int 4)) aNil)))) fNil)) [10] (gN 10) fYes (fCall G__law_row (aCons (fVar 0) (aCons (fC (.str "ab")) (aCons (fC (.int 1)) (aCons (fC (.int hi)) aNil))))))
theorem draw_rows {n : Nat} {p : D} {hi : Int} (h : Pot n p) (hn : n + 100 < 1000000) (h1 : 1 ≤ hi) (h8 : hi ≤ 8) :
    ∃ (ls : List (List Nat)) (p' : D), lgC hi [some ⟨true, true, p⟩, none, none, none, none, none, none, none, none, none, none] = some (.ow (.lst (ls.map tx)), [some ⟨true, true, p'⟩, none, none, none, none, none, none, none, none, none, none]) ∧ 1 ≤ ls.length ∧ ls.length ≤ 4 ∧ (∀ l ∈ ls, (∀ c ∈ l, c = 97 ∨ c = 98) ∧ 1 ≤ l.length ∧ (l.length : Int) ≤ hi) ∧ Pot (n + 50) p' := by
  obtain ⟨v, q1, e1, v0, v1, hq1⟩ := take_ok (u := 4) h (by omega) (by omega) (by omega)
  obtain ⟨ys, e', g1, g2, g3, q2, hq2, rfl⟩ := lcF_inv (vs := [10]) (g := gN 10) (A := fYes) (F := (fCall G__law_row (aCons (fVar 0) (aCons (fC (.str "ab")) (aCons (fC (.int 1)) (aCons (fC (.int hi)) aNil))))))
    (fun j e => ∃ q2, Pot (n + 1 + 10 * j) q2 ∧ e = [some ⟨true, true, q2⟩, none, none, none, none, none, none, none, none, none, none]) (fun y => ∃ l : List Nat, ((∀ c ∈ l, c = 97 ∨ c = 98) ∧ 1 ≤ l.length ∧ (l.length : Int) ≤ hi) ∧ y = tx l)
    (rangeD 0 (1 + v).toNat) [] 0 [some ⟨true, true, q1⟩, none, none, none, none, none, none, none, none, none, none] (by rw [sz]; simp; omega) ⟨q1, hq1, rfl⟩ (by
      rintro j d e hj1 hj2 hd ⟨q2, hq2, rfl⟩
      rw [rangeD_len] at hj2
      obtain ⟨l, q3, w1, w2, w3, w4, w5⟩ := row_ok (S := [97, 98]) (lo := 1) (hi := hi) hq2 (by omega) (by omega) (by omega) (by simp) (by simp)
      refine ⟨tx l, [some ⟨true, true, q3⟩, none, none, none, none, none, none, none, none, none, none], ?_, ⟨l, ⟨fun c hc => ?_, by omega, w4⟩, rfl⟩, q3, w5.mono (by omega), rfl⟩
      · simp [turnF, str_ab, w1]
      · have := w2 c hc
        simpa using this)
  obtain ⟨ls, l1, l2, l3⟩ := txs_of g3
  rw [rangeD_len] at g2 hq2
  refine ⟨ls, q2, ?_, by omega, by omega, l2, hq2.mono (by omega)⟩
  have small : (-4611686018427387904 ≤ 1 + v ∧ 1 + v < 4611686018427387904) := by omega
  rw [List.nil_append, l1] at g1
  unfold lgC
  generalize (fCall G__law_row (aCons (fVar 0) (aCons (fC (.str "ab")) (aCons (fC (.int 1)) (aCons (fC (.int hi)) aNil))))) = Y at g1
  simp [e1, small, g1]
theorem ded_self {κ : Type} [DecidableEq κ] : ∀ (ks acc : List κ), (acc ++ ks).Nodup → ded acc ks = acc ++ ks
  | [], acc, _ => by rw [List.append_nil]; rfl
  | k :: ks, acc, h => by
    show ded (if _ then _ else _) ks = _
    have hk : ¬ k ∈ acc := by
      intro hk
      rw [List.nodup_append] at h
      exact h.2.2 k hk k List.mem_cons_self rfl
    rw [if_neg (by
      rw [List.any_eq_true]
      rintro ⟨y, hy, e⟩
      rw [of_decide_eq_true e] at hy
      exact hk hy)]
    rw [ded_self ks (acc ++ [k]) (by rw [List.append_assoc]; exact h), List.append_assoc]
    rfl
theorem pw_nodup {l : List (List Nat)} (h : l.Pairwise (· < ·)) : l.Nodup := h.imp fun {a b} hab e => by
  rw [e] at hab
  exact irr_list _ hab
theorem nodup_map {α β : Type} {f : α → β} (inj : ∀ a b, f a = f b → a = b) {l : List α} (h : l.Nodup) : (l.map f).Nodup := by
  unfold List.Nodup at *
  rw [List.pairwise_map]
  exact h.imp fun {a b} hab e => hab (inj a b e)
theorem lx_nodup {o1 o2 : List (List Nat)} (h1 : o1.Nodup) (h2 : o2.Nodup) : (lx o1 o2).Nodup := by
  unfold lx
  rw [List.nodup_append]
  refine ⟨nodup_map (fun a b e => (Prod.mk.inj e).1) h1, nodup_map (fun a b e => (Prod.mk.inj e).1) h2, ?_⟩
  intro a ha b hb e
  obtain ⟨x, _, rfl⟩ := List.mem_map.mp ha
  obtain ⟨y, _, rfl⟩ := List.mem_map.mp hb
  have := (Prod.mk.inj e).2
  simp at this
theorem dic_lx {us : List Ent} {o1 o2 : List (List Nat)} (hu : us.Perm (lx o1 o2)) (asc : us.Pairwise ltE) (h0 : 1 ≤ o1.length) (h1 : o1.length ≤ 4) (h2 : o2.length ≤ 4) (l1 : ∀ l ∈ o1, (∀ c ∈ l, c = 97 ∨ c = 98) ∧ 1 ≤ l.length ∧ l.length ≤ 8) (l2 : ∀ l ∈ o2, (∀ c ∈ l, c = 97 ∨ c = 98) ∧ 1 ≤ l.length ∧ l.length ≤ 8) : Dic us := by
  have hl := hu.length_eq
  unfold lx at hl
  rw [List.length_append, List.length_map, List.length_map] at hl
  have mem : ∀ e ∈ us, ((∀ c ∈ e.1, c = 97 ∨ c = 98) ∧ 1 ≤ e.1.length ∧ e.1.length ≤ 8) ∧ (e.2 = [120] ∨ e.2 = [120, 120]) := by
    intro e he
    have := hu.mem_iff.mp he
    unfold lx at this
    rcases List.mem_append.mp this with h | h
    · obtain ⟨o, ho, rfl⟩ := List.mem_map.mp h
      exact ⟨l1 o ho, .inl rfl⟩
    · obtain ⟨o, ho, rfl⟩ := List.mem_map.mp h
      exact ⟨l2 o ho, .inr rfl⟩
  refine ⟨fun e => ?_, by omega, asc, fun e he => (mem e he).1.2, fun e he => ?_, fun e he c hc => ?_, fun e he c hc => ?_⟩
  · rw [e] at hl
    simp at hl
    omega
  · rcases (mem e he).2 with h | h <;> rw [h] <;> simp
  · have := (mem e he).1.1 c hc
    omega
  · rcases (mem e he).2 with h | h <;> rw [h] at hc <;> simp at hc <;> omega
theorem min_nat {ls : List Nat} (h : ls ≠ []) (hb : ∀ a ∈ ls, a ≤ 1000000) : minOf [.lst (ls.map fun a => .int (a : Nat))] = some (.sh (.int (mn ls : Nat))) := by
  obtain ⟨a, l, rfl⟩ : ∃ a l, ls = a :: l := by
    cases ls with
    | nil => exact absurd rfl h
    | cons a l => exact ⟨a, l, rfl⟩
  have h1 := min_ints (a : Nat) (l.map fun a => ((a : Nat) : Int))
  rw [List.map_map, fold_mn, fold_min l a (hb a List.mem_cons_self)] at h1
  exact h1
theorem fold_rep : ∀ (n : Nat) (a : Array Nat), ((List.replicate n (#[120] : Array Nat)).foldl (· ++ ·) a).toList = a.toList ++ List.replicate n 120
  | 0, a => by simp
  | n + 1, a => by
    rw [List.replicate_succ, List.foldl_cons, fold_rep n, Array.toList_append, List.append_assoc, List.replicate_succ]
    rfl
theorem rep_xs (n : Nat) : repS (Sx [120]) n = Sx (xs n) := by
  have h := fold_rep n #[]
  rw [Sx_of (repS (Sx [120]) n)]
  exact congrArg Sx h
end DD

namespace DD
open PySem PySem.Spec PyProof.Rows L2
/-! ### the recurrences of the long law -/
theorem tab_snoc (n : Nat) (f : Nat → Nat) : tabL (n + 1) f = tabL n f ++ [.int (f n : Nat)] := by
  unfold tabL
  rw [List.range_succ, List.map_append]
  rfl
theorem at_last2 {α : Type} {xs : List α} {x y : α} : atI (xs ++ [x] ++ [y]) (-2) = some x := by
  have hl : (xs ++ [x] ++ [y]).length = xs.length + 2 := by simp
  unfold atI ixN
  rw [if_neg (by omega), if_pos (by rw [hl]; omega), Option.bind_some, hl, show (-2 + ((xs.length + 2 : Nat) : Int)).toNat = xs.length by omega, List.append_assoc, List.getElem?_append_right (Nat.le_refl _), Nat.sub_self]
  rfl
theorem tab_last2 {n : Nat} {f : Nat → Nat} : atI (tabL (n + 2) f) (-2) = some (.int (f n : Nat)) := by
  rw [tab_snoc, tab_snoc]
  exact at_last2
noncomputable abbrev lgM : FE := (f2 addD (f2 mulF (fBlt lenD (qCons (fVar 6) qNil)) (f2 ixD (fVar 8) (fNeg (fC (.int 1))))) (f2 mulF (fBlt lenD (qCons (fVar 7) qNil)) (f2 ixD (fVar 8) (fNeg (fC (.int 2))))))
noncomputable abbrev lgL (i : Nat) : FE := (fLc (fIter (fVar i)) [5] (gN 5) fYes (fBlt lenD (qCons (fVar 5) qNil)))
noncomputable abbrev lgB : FS := (sSeq (sExpr (fMeth "list" mAppend (fVar 8) (fCons lgM fNil)))
  (sSeq (sExpr (fMeth "list" mAppend (fVar 9) (fCons (fBlt minOf (qCons (fLst (fCons (f2 addD (f2 ixD (fVar 9) (fNeg (fC (.int 1)))) (f2 ixD (fVar 9) (fC (.int 1)))) (fCons (f2 addD (f2 ixD (fVar 9) (fNeg (fC (.int 2)))) (fBlt minOf (qCons (lgL 7) qNil))) fNil))) qNil)) fNil)))
  sNil))
theorem lg_body {s0 s1 s2 s3 : Option Slot} {d6 d7 t8 t9 vl : List D} {a b x y u v w m z : Int} (h8 : t8.length < 16777216) (h9 : t9.length < 16777216)
    (x1 : atI t8 (-1) = some (.int x)) (x2 : atI t8 (-2) = some (.int y)) (x3 : atI t9 (-1) = some (.int u)) (x4 : atI t9 1 = some (.int v)) (x5 : atI t9 (-2) = some (.int w))
    (l6 : ((d6.length : Nat) : Int) = a) (l7 : ((d7.length : Nat) : Int) = b) (m1 : mulF (.int a) (.int x) = some (.sh (.int (a * x)))) (m2 : mulF (.int b) (.int y) = some (.sh (.int (b * y))))
    (lc : ∀ s8 s9 : Option Slot, lcF [5] (gN 5) fYes (fBlt lenD (qCons (fVar 5) qNil)) d7 [] [s0, s1, s2, s3, none, none, some ⟨false, false, .lst d6⟩, some ⟨false, false, .lst d7⟩, s8, s9, none] = some (vl, [s0, s1, s2, s3, none, none, some ⟨false, false, .lst d6⟩, some ⟨false, false, .lst d7⟩, s8, s9, none]))
    (mv : minOf [.lst vl] = some (.sh (.int m))) (mz : minOf [.lst [.int (u + v), .int (w + m)]] = some (.sh (.int z))) :
    lgB [s0, s1, s2, s3, none, none, some ⟨false, false, .lst d6⟩, some ⟨false, false, .lst d7⟩, some ⟨false, true, .lst t8⟩, some ⟨false, true, .lst t9⟩, none] =
      some (.nx [s0, s1, s2, s3, none, none, some ⟨false, false, .lst d6⟩, some ⟨false, false, .lst d7⟩, some ⟨false, true, .lst (t8 ++ [.int (a * x + b * y)])⟩, some ⟨false, true, .lst (t9 ++ [.int z])⟩, none]) := by
  simp [x1, x2, x3, x4, x5, l6, l7, m1, m2, lc, mv, mz, h8, h9, sz, -o_mul]
theorem lens_lc {i : Nat} {ls : List (List Nat)} (hl : ls.length ≤ 1000) (hb : ∀ l ∈ ls, l.length ≤ 1000) {s0 s1 s2 s3 s4 s6 s7 s8 s9 s10 : Option Slot} : lcF [5] (gN 5) fYes (fBlt lenD (qCons (fVar 5) qNil)) (ls.map tx) [] [s0, s1, s2, s3, s4, none, s6, s7, s8, s9, s10] = some ((ls.map List.length).map fun a => .int (a : Nat), [s0, s1, s2, s3, s4, none, s6, s7, s8, s9, s10]) := by
  rw [List.map_map]
  refine lcF_ma tx _ ls (by rw [sz]; omega) fun l h => ?_
  have := hb l h
  have h2 : l.length ≤ 16777216 := by omega
  simp [turnF, sz, h2]
theorem lg_loop {o1 o2 : List (List Nat)} {n : Nat} {s0 s1 s2 : Option Slot} (hn : 2 ≤ n) (hn2 : n ≤ 300) (a0 : 1 ≤ o1.length) (a4 : o1.length ≤ 4) (b0 : 1 ≤ o2.length) (b4 : o2.length ≤ 4) (l1 : ∀ l ∈ o1, l.length ≤ 8) (l2 : ∀ l ∈ o2, l.length ≤ 8) :
    ∃ e', loopF (gN 3) lgB ((List.range (n - 1)).map fun (i : Nat) => D.int (2 + (i : Int))) [s0, s1, s2, none, none, none, some ⟨false, false, .lst (o1.map tx)⟩, some ⟨false, false, .lst (o2.map tx)⟩, some ⟨false, true, .lst (tabL 2 (Fm o1.length o2.length))⟩, some ⟨false, true, .lst (tabL 2 (Fl (mn (o1.map List.length)) (mn (o2.map List.length))))⟩, none] = some (.nx e') ∧
      ∃ s3, Fr s3 ∧ e' = [s0, s1, s2, s3, none, none, some ⟨false, false, .lst (o1.map tx)⟩, some ⟨false, false, .lst (o2.map tx)⟩, some ⟨false, true, .lst (tabL (n + 1) (Fm o1.length o2.length))⟩, some ⟨false, true, .lst (tabL (n + 1) (Fl (mn (o1.map List.length)) (mn (o2.map List.length))))⟩, none] := by
  obtain ⟨e', w, s3, f3, he⟩ := loop_rng (g := gN 3) (S := lgB) (fun (i : Nat) => D.int (2 + (i : Int)))
    (fun i e => ∃ s3, Fr s3 ∧ e = [s0, s1, s2, s3, none, none, some ⟨false, false, .lst (o1.map tx)⟩, some ⟨false, false, .lst (o2.map tx)⟩, some ⟨false, true, .lst (tabL (i + 2) (Fm o1.length o2.length))⟩, some ⟨false, true, .lst (tabL (i + 2) (Fl (mn (o1.map List.length)) (mn (o2.map List.length))))⟩, none]) (n - 1)
    (e := [s0, s1, s2, none, none, none, some ⟨false, false, .lst (o1.map tx)⟩, some ⟨false, false, .lst (o2.map tx)⟩, some ⟨false, true, .lst (tabL 2 (Fm o1.length o2.length))⟩, some ⟨false, true, .lst (tabL 2 (Fl (mn (o1.map List.length)) (mn (o2.map List.length))))⟩, none]) ⟨none, trivial, rfl⟩ (by
      rintro i e hi ⟨s3, f3, rfl⟩
      have hF := Fm_lt a4 b4
      have pw : ∀ k, k ≤ 301 → 8 ^ k < 2 ^ 1000 := fun k hk => by
        rw [show (8 : Nat) = 2 ^ 3 from rfl, ← Nat.pow_mul]
        exact Nat.pow_lt_pow_right (by omega) (by omega)
      have lgF : ∀ k, k ≤ 301 → (((Fm o1.length o2.length k : Nat) : Int)).natAbs.log2 < 1000 := fun k hk => by
        refine log2_lt ?_ (by omega)
        rw [Int.natAbs_natCast]
        exact Nat.lt_of_le_of_lt (hF k).1 (pw k hk)
      have m1 : mulF (.int (o1.length : Nat)) (.int (Fm o1.length o2.length (i + 1) : Nat)) = some (.sh (.int (((o1.length : Nat) : Int) * ((Fm o1.length o2.length (i + 1) : Nat) : Int)))) := by
        rw [o_mul, if_pos]
        have := lgF (i + 1) (by omega)
        have := log2_int (i := ((o1.length : Nat) : Int)) (k := 10) (by omega) (by omega) (by omega)
        omega
      have m2 : mulF (.int (o2.length : Nat)) (.int (Fm o1.length o2.length i : Nat)) = some (.sh (.int (((o2.length : Nat) : Int) * ((Fm o1.length o2.length i : Nat) : Int)))) := by
        rw [o_mul, if_pos]
        have := lgF i (by omega)
        have := log2_int (i := ((o2.length : Nat) : Int)) (k := 10) (by omega) (by omega) (by omega)
        omega
      have mv := min_nat (ls := o2.map List.length) (fun e => by
        rw [List.map_eq_nil_iff] at e
        rw [e] at b0
        simp at b0) (fun a ha => by
        obtain ⟨l, hl, rfl⟩ := List.mem_map.mp ha
        have := l2 l hl
        omega)
      have mz : minOf [.lst [.int (((Fl (mn (o1.map List.length)) (mn (o2.map List.length)) (i + 1) : Nat) : Int) + ((Fl (mn (o1.map List.length)) (mn (o2.map List.length)) 1 : Nat) : Int)), .int (((Fl (mn (o1.map List.length)) (mn (o2.map List.length)) i : Nat) : Int) + ((mn (o2.map List.length) : Nat) : Int))]] = some (.sh (.int (Fl (mn (o1.map List.length)) (mn (o2.map List.length)) (i + 2) : Nat))) := by
        have := min_ints (((Fl (mn (o1.map List.length)) (mn (o2.map List.length)) (i + 1) : Nat) : Int) + ((Fl (mn (o1.map List.length)) (mn (o2.map List.length)) 1 : Nat) : Int)) [((Fl (mn (o1.map List.length)) (mn (o2.map List.length)) i : Nat) : Int) + ((mn (o2.map List.length) : Nat) : Int)]
        rw [List.map_cons, List.map_nil, List.foldl_cons, List.foldl_nil] at this
        rw [this]
        refine congrArg (fun i => some (T.sh (D.int i))) ?_
        have e1 : Fl (mn (o1.map List.length)) (mn (o2.map List.length)) 1 = mn (o1.map List.length) := rfl
        have e2 : Fl (mn (o1.map List.length)) (mn (o2.map List.length)) (i + 2) = min (mn (o1.map List.length) + Fl (mn (o1.map List.length)) (mn (o2.map List.length)) (i + 1)) (mn (o2.map List.length) + Fl (mn (o1.map List.length)) (mn (o2.map List.length)) i) := by rw [Fl]
        rw [e1, e2]
        omega
      have body := lg_body (s0 := s0) (s1 := s1) (s2 := s2) (s3 := some ⟨false, false, .int (2 + (i : Int))⟩) (d6 := o1.map tx) (d7 := o2.map tx) (by rw [tab_len]; omega) (by rw [tab_len]; omega) (tab_last (n := i + 1) (f := Fm o1.length o2.length)) (tab_last2 (n := i) (f := Fm o1.length o2.length)) (tab_last (n := i + 1) (f := Fl (mn (o1.map List.length)) (mn (o2.map List.length)))) (tab_at (n := i + 2) (p := 1) (f := Fl (mn (o1.map List.length)) (mn (o2.map List.length))) (by omega)) (tab_last2 (n := i) (f := Fl (mn (o1.map List.length)) (mn (o2.map List.length)))) (by rw [List.length_map]) (by rw [List.length_map]) m1 m2 (fun s8 s9 => lens_lc (i := 0) (by omega) (fun l hl => by have := l2 l hl; omega)) mv mz
      refine ⟨[s0, s1, s2, some ⟨false, false, .int (2 + (i : Int))⟩, none, none, some ⟨false, false, .lst (o1.map tx)⟩, some ⟨false, false, .lst (o2.map tx)⟩, some ⟨false, true, .lst (tabL (i + 2) (Fm o1.length o2.length))⟩, some ⟨false, true, .lst (tabL (i + 2) (Fl (mn (o1.map List.length)) (mn (o2.map List.length))))⟩, none], _, ?_, body, some ⟨false, false, .int (2 + (i : Int))⟩, fr_ok, ?_⟩
      · rw [r_gN, st_fr (by simp [f3])]
        rfl
      · have e1 : (((o1.length : Nat) : Int) * ((Fm o1.length o2.length (i + 1) : Nat) : Int) + ((o2.length : Nat) : Int) * ((Fm o1.length o2.length i : Nat) : Int)) = ((Fm o1.length o2.length (i + 2) : Nat) : Int) := by
          rw [Fm]
          push_cast
          rfl
        rw [e1, ← tab_snoc, ← tab_snoc])
  refine ⟨e', w, s3, f3, ?_⟩
  rw [show n - 1 + 2 = n + 1 by omega] at he
  exact he
end DD

namespace DD
open PySem PySem.Spec PyProof.Rows L2
/-! ### _law_is_long_right -/
noncomputable abbrev lgD : FE := (fBlt tupleD (qCons (fCall G__law_unlike (aCons (f2 addD (fLc (fIter (fVar 6)) [5] (gN 5) fYes (fTup (fCons (fVar 5) (fCons (fC (.str "x")) fNil)))) (fLc (fIter (fVar 7)) [5] (gN 5) fYes (fTup (fCons (fVar 5) (fCons (fC (.str "xx")) fNil))))) aNil)) qNil))
theorem long_run {p p1 p2 p3 : D} {l1 l2 o1 o2 us vl rs t8 t9 tl : List D} {xt v0 : List Nat} {lg m1 b L : Int} {zb st : Str} {s3 : Option Slot}
    (c1 : lgC 4 [some ⟨true, true, p⟩, none, none, none, none, none, none, none, none, none, none] = some (.ow (.lst l1), [some ⟨true, true, p1⟩, none, none, none, none, none, none, none, none, none, none]))
    (u1 : G__law_unlike [(false, .lst l1)] = some ((true, .lst o1), [(false, .non)]))
    (c2 : lgC 8 [some ⟨true, true, p1⟩, none, none, none, none, none, none, none, none, none, none] = some (.ow (.lst l2), [some ⟨true, true, p2⟩, none, none, none, none, none, none, none, none, none, none]))
    (u2 : G__law_unlike [(false, .lst l2)] = some ((true, .lst o2), [(false, .non)]))
    (dd : lgD [some ⟨true, true, p2⟩, none, none, none, none, none, some ⟨false, true, .lst o1⟩, some ⟨false, true, .lst o2⟩, none, none, none] = some (.sh (.tup us), [some ⟨true, true, p2⟩, none, none, none, none, none, some ⟨false, false, .lst o1⟩, some ⟨false, false, .lst o2⟩, none, none, none]))
    (tk : G__law_take [(true, p2), (false, .int 280)] = some ((false, .int (lg - 20)), [(true, p3), (false, .non)]))
    (lc : lcF [5] (gN 5) fYes (fBlt lenD (qCons (fVar 5) qNil)) o1 [] [some ⟨true, true, p3⟩, some ⟨false, false, .tup us⟩, some ⟨false, false, .int lg⟩, none, none, none, some ⟨false, false, .lst o1⟩, some ⟨false, false, .lst o2⟩, none, none, none] = some (vl, [some ⟨true, true, p3⟩, some ⟨false, false, .tup us⟩, some ⟨false, false, .int lg⟩, none, none, none, some ⟨false, false, .lst o1⟩, some ⟨false, false, .lst o2⟩, none, none, none]))
    (mv : minOf [.lst vl] = some (.sh (.int m1)))
    (rg : rng2 [.int 2, .int (lg + 1)] = some rs)
    (lp : loopF (gN 3) lgB rs [some ⟨true, true, p3⟩, some ⟨false, false, .tup us⟩, some ⟨false, false, .int lg⟩, none, none, none, some ⟨false, false, .lst o1⟩, some ⟨false, false, .lst o2⟩, some ⟨false, true, .lst [.int 1, .int (o1.length : Nat)]⟩, some ⟨false, true, .lst [.int 0, .int m1]⟩, none] = some (.nx [some ⟨true, true, p3⟩, some ⟨false, false, .tup us⟩, some ⟨false, false, .int lg⟩, s3, none, none, some ⟨false, false, .lst o1⟩, some ⟨false, false, .lst o2⟩, some ⟨false, true, .lst t8⟩, some ⟨false, true, .lst t9⟩, none]))
    (xm : mulF (.str "x") (.int lg) = some (.sh (tx xt)))
    (lw : G_least_written [(false, .tup us), (false, tx xt)] = some ((false, tx v0), [(false, .non), (false, .non)]))
    (wm : G_writings_many [(false, .tup us), (false, tx xt)] = some ((false, .int b), [(false, .non), (false, .non)]))
    (rb : reprD [.int b] = some (.sh (.str zb))) (t8l : atI t8 (-1) = some (.int b)) (t9l : atI t9 (-1) = some (.int L))
    (wt : G_written_told [(false, .tup us), (false, tx xt)] = some ((false, .tup (.str st :: .int L :: tl)), [(false, .non), (false, .non)]))
    (vL : ((v0.length : Nat) : Int) = L) (vl0 : v0.length ≤ 16777216) :
    G__law_is_long_right [(true, p)] = some ((false, .bl true), [(true, p3)]) := by
  have e : G__law_is_long_right = runDef 1 11 (sSeq (sPar [6, 7] (tsCons (fCall G__law_unlike (aCons (lgC 4) aNil)) (tsCons (fCall G__law_unlike (aCons (lgC 8) aNil)) tsNil)))
    (sSeq (sSet 1 lgD)
    (sSeq (sSet 2 (f2 addD (fC (.int 20)) (fCall G__law_take (aCons (fVar 0) (aCons (fC (.int 280)) aNil)))))
    (sSeq (sPar [8, 9] (tsCons (fLst (fCons (fC (.int 1)) (fCons (fBlt lenD (qCons (fVar 6) qNil)) fNil))) (tsCons (fLst (fCons (fC (.int 0)) (fCons (fBlt minOf (qCons (lgL 6) qNil)) fNil))) tsNil)))
    (sSeq (sFor (fWalk rng2 (fCons (fC (.int 2)) (fCons (f2 addD (fVar 2) (fC (.int 1))) fNil))) (gN 3) lgB)
    (sSeq (sSet 4 (f2 mulF (fC (.str "x")) (fVar 2)))
    (sSeq (sSet 5 (fCall G_least_written (aCons (fVar 1) (aCons (fVar 4) aNil))))
    (sSeq (sRet (fAnd (f2 eqF (fBlt reprD (qCons (fCall G_writings_many (aCons (fVar 1) (aCons (fVar 4) aNil))) qNil)) (fBlt reprD (qCons (fBlt intD (qCons (f2 ixD (fVar 8) (fNeg (fC (.int 1)))) qNil)) qNil))) (fChain eqF eqF (f2 ixD (fCall G_written_told (aCons (fVar 1) (aCons (fVar 4) aNil))) (fC (.int 1))) (f2 ixD (fVar 9) (fNeg (fC (.int 1)))) (fBlt lenD (qCons (fVar 5) qNil)))))
    sNil)))))))) := rfl
  rw [e]
  generalize lgC 4 = C4 at c1
  generalize lgC 8 = C8 at c2
  generalize lgD = DD at dd
  generalize lgB = BB at lp
  have hlg : 20 + (lg - 20) = lg := by omega
  simp [outs_eq, c1, u1, c2, u2, dd, tk, hlg, lc, mv, rg, lp, xm, lw, wm, rb, t8l, t9l, wt, vL, vl0, sz, -g_2, -o_mulS]
end DD

namespace DD
open PySem PySem.Spec PyProof.Rows L2
theorem lgD_run {s0 : Option Slot} {o1 o2 : List (List Nat)} {us : List Ent} (h1 : o1.length ≤ 1000) (h2 : o2.length ≤ 1000) (u : G__law_unlike [(false, .lst ((lx o1 o2).map ent))] = some ((true, .lst (us.map ent)), [(false, .non)])) :
    lgD [s0, none, none, none, none, none, some ⟨false, true, .lst (o1.map tx)⟩, some ⟨false, true, .lst (o2.map tx)⟩, none, none, none] = some (.sh (.tup (us.map ent)), [s0, none, none, none, none, none, some ⟨false, false, .lst (o1.map tx)⟩, some ⟨false, false, .lst (o2.map tx)⟩, none, none, none]) := by
  have k1 : ∀ s6 s7 : Option Slot, lcF [5] (gN 5) fYes (fTup (fCons (fVar 5) (fCons (fC (.str "x")) fNil))) (o1.map tx) [] [s0, none, none, none, none, none, s6, s7, none, none, none] = some (o1.map fun o => ent (o, [120]), [s0, none, none, none, none, none, s6, s7, none, none, none]) := fun s6 s7 =>
    lcF_ma tx _ o1 (by rw [sz]; omega) fun o _ => by simp [turnF, str_x, ent, sz]
  have k2 : ∀ s6 s7 : Option Slot, lcF [5] (gN 5) fYes (fTup (fCons (fVar 5) (fCons (fC (.str "xx")) fNil))) (o2.map tx) [] [s0, none, none, none, none, none, s6, s7, none, none, none] = some (o2.map fun o => ent (o, [120, 120]), [s0, none, none, none, none, none, s6, s7, none, none, none]) := fun s6 s7 =>
    lcF_ma tx _ o2 (by rw [sz]; omega) fun o _ => by simp [turnF, str_xx, ent, sz]
  have ad : addD (.lst (o1.map fun o => ent (o, [120]))) (.lst (o2.map fun o => ent (o, [120, 120]))) = some (.ow (.lst ((lx o1 o2).map ent))) := by
    rw [o_addL, if_pos (by rw [List.length_map, List.length_map, sz]; omega)]
    unfold lx
    rw [List.map_append, List.map_map, List.map_map]
    rfl
  generalize (o1.map fun o => ent (o, [120])) = w1 at k1 ad
  generalize (o2.map fun o => ent (o, [120, 120])) = w2 at k2 ad
  generalize (lx o1 o2).map ent = w3 at ad u
  generalize us.map ent = w4 at u
  generalize o1.map tx = w5 at k1
  generalize o2.map tx = w6 at k2
  simp [k1, k2, ad, u, -o_addL]
theorem long_ok {n : Nat} {p : D} (h : Pot n p) (hn : n + 1000 < 1000000) : ∃ p', G__law_is_long_right [(true, p)] = some ((false, .bl true), [(true, p')]) ∧ Pot (n + 200) p' := by
  obtain ⟨l1, p1, c1, a0, a4, al, hp1⟩ := draw_rows (hi := 4) h (by omega) (by omega) (by omega)
  obtain ⟨l2, p2, c2, b0, b4, bl, hp2⟩ := draw_rows (hi := 8) hp1 (by omega) (by omega) (by omega)
  obtain ⟨o1, u1, pw1, mem1, len1⟩ := unlike_str (b := false) (ls := l1) (by omega)
  obtain ⟨o2, u2, pw2, mem2, len2⟩ := unlike_str (b := false) (ls := l2) (by omega)
  have pos : ∀ {o l : List (List Nat)}, (∀ x, x ∈ o ↔ x ∈ l) → 1 ≤ l.length → 1 ≤ o.length := by
    intro o l hm hl
    obtain ⟨x, hx⟩ := List.exists_mem_of_ne_nil l (fun e => by rw [e] at hl; simp at hl)
    exact List.length_pos_of_mem ((hm x).mpr hx)
  have a0' := pos mem1 a0
  have b0' := pos mem2 b0
  have ol1 : ∀ l ∈ o1, (∀ c ∈ l, c = 97 ∨ c = 98) ∧ 1 ≤ l.length ∧ l.length ≤ 8 := fun l hl => by
    have := al l ((mem1 l).mp hl)
    exact ⟨this.1, this.2.1, by omega⟩
  have ol2 : ∀ l ∈ o2, (∀ c ∈ l, c = 97 ∨ c = 98) ∧ 1 ≤ l.length ∧ l.length ≤ 8 := fun l hl => by
    have := bl l ((mem2 l).mp hl)
    exact ⟨this.1, this.2.1, by omega⟩
  have lxl : (lx o1 o2).length = o1.length + o2.length := by unfold lx; simp
  obtain ⟨us, u3, asc, _, ul, up⟩ := unlike_ent (b := false) (ls := lx o1 o2) (fun e => by rw [e] at lxl; simp at lxl; omega) (by omega)
  rw [ded_self _ _ (by rw [List.nil_append]; exact lx_nodup (pw_nodup pw1) (pw_nodup pw2)), List.nil_append] at up
  have hd := dic_lx up asc a0' (by omega) (by omega) ol1 ol2
  obtain ⟨v, p3, tk, v0, v1, hp3⟩ := take_ok (u := 280) hp2 (by omega) (by omega) (by omega)
  obtain ⟨N, hN, hN1, hN2⟩ : ∃ N : Nat, 20 + v = (N : Nat) ∧ 20 ≤ N ∧ N < 300 := ⟨(20 + v).toNat, by omega, by omega, by omega⟩
  have xl : (xs N).length = N := List.length_replicate
  have sm : Small (xs N) := fun c hc => by rw [(List.mem_replicate.mp hc).2]; omega
  have hg : Gr (gr us (xs N)) N := by
    have := gr_ok (x := xs N) hd
    rwa [xl] at this
  have ma : mn (o1.map List.length) ≤ 8 := by
    obtain ⟨x, hx⟩ := List.exists_mem_of_ne_nil o1 (fun e => by rw [e] at a0'; simp at a0')
    have := mn_mem (l := o1.map List.length) (List.mem_map.mpr ⟨x, hx, rfl⟩)
    have := (ol1 x hx).2.2
    omega
  have hB := B_x hg up N (Nat.le_refl _)
  have hbst := best_x hg up ma (by omega) N (Nat.le_refl _)
  rw [Nat.sub_self] at hB hbst
  have mv := min_nat (ls := o1.map List.length) (fun e => by rw [List.map_eq_nil_iff] at e; rw [e] at a0'; simp at a0') (fun a ha => by
    obtain ⟨l, hl, rfl⟩ := List.mem_map.mp ha
    have := (ol1 l hl).2.2
    omega)
  obtain ⟨e', lp, s3, f3, rfl⟩ := lg_loop (o1 := o1) (o2 := o2) (n := N) (s0 := some ⟨true, true, p3⟩) (s1 := some ⟨false, false, dicD us⟩) (s2 := some ⟨false, false, .int (N : Nat)⟩) (by omega) (by omega) a0' (by omega) b0' (by omega) (fun l hl => (ol1 l hl).2.2) (fun l hl => (ol2 l hl).2.2)
  have rg : rng2 [.int 2, .int (((N : Nat) : Int) + 1)] = some ((List.range (N - 1)).map fun (i : Nat) => D.int (2 + (i : Int))) := by
    rw [g_2, if_pos (by simp; omega)]
    unfold rangeD
    rw [show ((((N : Nat) : Int) + 1 - 2).toNat) = N - 1 by omega]
  have xm : mulF (.str "x") (.int (N : Nat)) = some (.sh (tx (xs N))) := by
    rw [str_x, o_mulS, if_pos (by rw [Sx_len]; simp; omega), Int.toNat_natCast, rep_xs]
  have wm := writings_ok hd sm (by rw [xl]; omega)
  rw [xl, hB] at wm
  have rb : reprD [.int (Fm o1.length o2.length N : Nat)] = some (.sh (.str (toString ((Fm o1.length o2.length N : Nat) : Int)))) := by
    show (if (((Fm o1.length o2.length N : Nat) : Int)).natAbs.log2 < 1920 then some (T.sh (.str (toString ((Fm o1.length o2.length N : Nat) : Int)))) else none) = _
    rw [if_pos]
    refine log2_lt ?_ (by omega)
    rw [Int.natAbs_natCast]
    refine Nat.lt_of_le_of_lt (Fm_lt (a := o1.length) (b := o2.length) (by omega) (by omega) N).1 ?_
    rw [show (8 : Nat) = 2 ^ 3 from rfl, ← Nat.pow_mul]
    exact Nat.pow_lt_pow_right (by omega) (by omega)
  rcases told_ok hd sm (by rw [xl]; omega) with ⟨hb, a, b, wt⟩ | ⟨hb, _⟩
  · rcases least_ok hd sm (by rw [xl]; omega) with ⟨_, w0, ho, _, lw⟩ | ⟨hb', _⟩
    · rw [xl, hbst.1] at wt
      obtain ⟨t, ht, tc, te⟩ := ho
      have wl : w0.length = Fl (mn (o1.map List.length)) (mn (o2.map List.length)) N := by
        rw [te, row_len, tc, xl, hbst.1]
      refine ⟨p3, long_run (s3 := s3) (lg := (N : Nat)) (m1 := (mn (o1.map List.length) : Nat)) (us := us.map ent) c1 u1 c2 u2 (lgD_run (by omega) (by omega) u3) (by rw [show ((N : Nat) : Int) - 20 = v by omega]; exact tk) (lens_lc (i := 0) (by omega) (fun l hl => by have := (ol1 l hl).2.2; omega)) mv rg ?_ xm lw wm rb (tab_last (n := N)) (tab_last (n := N)) wt (by rw [wl]) (by omega), hp3.mono (by omega)⟩
      have t8 : tabL 2 (Fm o1.length o2.length) = [.int 1, .int ((o1.map tx).length : Nat)] := by rw [List.length_map]; rfl
      have t9 : tabL 2 (Fl (mn (o1.map List.length)) (mn (o2.map List.length))) = [.int 0, .int (mn (o1.map List.length) : Nat)] := rfl
      rw [t8, t9] at lp
      exact lp
    · exact absurd hb hb'
  · exfalso
    apply hb
    rw [xl, hbst.1]
    omega
end DD

namespace DD
open PySem PySem.Spec PyProof.Rows L2
/-! ### the law -/
noncomputable abbrev lwR : FE := (fCall G__law_right (aCons (fVar 2) aNil))
noncomputable abbrev lwB : FS := (sSeq (sSet 2 (fCall G__law_pot (aCons (fVar 0) (aCons (fVar 1) aNil))))
  (sSeq (sIf (fOrT (fNotT (fB (fCall G__law_is_long_right (aCons (fVar 2) aNil)))) (fNotT (fB (fBlt allD (qCons (fLc (fWalk rng1 (fCons (fC (.int 8)) fNil)) [3] (gN 3) fYes lwR) qNil))))) (sSeq (sRet (fC (.bl false)))
  sNil) sNil)
  sNil))
theorem lawB_run {d0 p p1 p2 : D} {v : Int} {s2 : Option Slot} {ys : List D} (f2' : Fr s2) (hp : G__law_pot [(false, d0), (false, .int v)] = some ((true, p), [(false, .non), (false, .non)])) (hl : G__law_is_long_right [(true, p)] = some ((false, .bl true), [(true, p1)]))
    (lc : lcF [3] (gN 3) fYes lwR (rangeD 0 8) [] [some ⟨false, false, d0⟩, some ⟨false, false, .int v⟩, some ⟨false, true, p1⟩, none] = some (ys, [some ⟨false, false, d0⟩, some ⟨false, false, .int v⟩, some ⟨false, true, p2⟩, none])) (al : allD [.lst ys] = some (.sh (.bl true))) :
    lwB [some ⟨false, false, d0⟩, some ⟨false, false, .int v⟩, s2, none] = some (.nx [some ⟨false, false, d0⟩, some ⟨false, false, .int v⟩, some ⟨false, true, p2⟩, none]) := by
  have rg : rng1 [.int 8] = some (rangeD 0 8) := by rw [g_1, if_pos (by simp)]; rfl
  generalize rangeD 0 8 = rs at lc rg
  unfold lwB
  generalize lwR = RR at lc
  simp [hp, st_fr, f2', hl, rg, lc, al, -r_stT, -g_1]
theorem law_run {ns : List Int} {ds : List D} {s1 s2 : Option Slot} (hc : G__law_cells [(false, .scr ns), (false, .int 3)] = some ((true, .lst ds), [(false, .non), (false, .non)]))
    (lp : loopF (gN 1) lwB ds [some ⟨false, false, .scr ns⟩, none, none, none] = some (.nx [some ⟨false, false, .scr ns⟩, s1, s2, none])) : G_law [(false, .scr ns)] = some ((false, .bl true), [(false, .non)]) := by
  have e : G_law = runDef 1 4 (sSeq (sFor (fIter (fCall G__law_cells (aCons (fVar 0) (aCons (fC (.int 3)) aNil)))) (gN 1) lwB) (sSeq (sRet (fC (.bl true))) sNil)) := rfl
  rw [e]
  generalize lwB = BB at lp
  simp [outs_eq, hc, lp]
theorem math_law (ns : List Int) (h : ns.length ≤ 63) : ∃ os, G_law [(false, .scr ns)] = some ((false, .bl true), os) := by
  obtain ⟨m, hc, m3, m1, mn⟩ := cells_ok h
  obtain ⟨e', lp, s1, s2, f1, f2', rfl⟩ := loop_rng (g := gN 1) (S := lwB) (fun (i : Nat) => D.int (0 + (i : Int)))
    (fun i e => ∃ s1 s2, Fr s1 ∧ Fr s2 ∧ e = [some ⟨false, false, .scr ns⟩, s1, s2, none]) m (e := [some ⟨false, false, .scr ns⟩, none, none, none]) ⟨none, none, trivial, trivial, rfl⟩ (by
      rintro i e hi ⟨s1, s2, f1, f2', rfl⟩
      obtain ⟨p, hp, hp0⟩ := pot_ok (ns := ns) (v := i) h (by omega) (by
        rcases mn with mn | ⟨rfl, mn⟩
        · left; omega
        · right; exact ⟨by omega, mn⟩)
      obtain ⟨p1, hl, hp1⟩ := long_ok hp0 (by omega)
      obtain ⟨ys, e2, g1, g2, g3, p2, hp2, rfl⟩ := lcF_inv (vs := [3]) (g := gN 3) (A := fYes) (F := lwR)
        (fun j e => ∃ q, Pot (0 + 200 + 100 * j) q ∧ e = [some ⟨false, false, .scr ns⟩, some ⟨false, false, .int (i : Nat)⟩, some ⟨false, true, q⟩, none]) (fun y => y = .bl true)
        (rangeD 0 8) [] 0 [some ⟨false, false, .scr ns⟩, some ⟨false, false, .int (i : Nat)⟩, some ⟨false, true, p1⟩, none] (by rw [sz]; simp) ⟨p1, hp1, rfl⟩ (by
          rintro j d e hj1 hj2 hd ⟨q, hq, rfl⟩
          rw [rangeD_len] at hj2
          obtain ⟨q', w1, w2⟩ := right_ok hq (by omega)
          exact ⟨.bl true, [some ⟨false, false, .scr ns⟩, some ⟨false, false, .int (i : Nat)⟩, some ⟨false, true, q'⟩, none], by simp [turnF, w1], rfl, q', w2.mono (by omega), rfl⟩)
      rw [List.nil_append] at g1
      refine ⟨[some ⟨false, false, .scr ns⟩, some ⟨false, false, .int (i : Nat)⟩, s2, none], _, ?_, lawB_run f2' hp hl g1 (bls_true ys g3), some ⟨false, false, .int (i : Nat)⟩, some ⟨false, true, p2⟩, fr_ok, fr_ok, rfl⟩
      rw [r_gN, st_fr (by simp [f1]), Int.zero_add]
      rfl)
  exact ⟨_, law_run hc lp⟩
end DD
open PySem PySem.W PyProof.Rows
theorem PySem.Challenge.cw_onestrokeatatime_k73_whole_least_rows_an_holds : PySem.Challenge.rw_onestrokeatatime_k73_whole_least_rows_an.Holds := by
  w_on; o_law; k_head; (case hw => w_witness2)
  k_fill
  refine L2.walk_of (l := PySem.Challenge.rw_onestrokeatatime_k73_whole_least_rows_an) (n := 63) (k := 9) (x := "script") (CX := fun _ => L2.CX0) (sp := fun w => DD.spLaw _) rfl (by decide) rfl ⟨rfl, by decide, by decide⟩ (fun w h Y => PySem.W.kIn_of Y) ?F (fun _ _ a ns hl _ hS => ⟨a, ns, rfl, hS, hl, fun _ => rfl⟩) (fun _ _ _ _ _ h => h)
  case F =>
    intro w mg fa h KX G hmg
    refine' DD.law_end (DD.all_mk KX G hmg ?a__law_cells ?l__law_cells ?c__law_cells ?k__law_cells ?a_entries_on ?l_entries_on ?c_entries_on ?k_entries_on ?a_are_signs ?l_are_signs ?c_are_signs ?k_are_signs ?a_is_tuple_of ?l_is_tuple_of ?c_is_tuple_of ?k_is_tuple_of ?a_is_ascending ?l_is_ascending ?c_is_ascending ?k_is_ascending ?a__law_take ?l__law_take ?c__law_take ?k__law_take ?a__law_unlike ?l__law_unlike ?c__law_unlike ?k__law_unlike ?a__law_all_writings ?l__law_all_writings ?c__law_all_writings ?k__law_all_writings ?a__law_pot ?l__law_pot ?c__law_pot ?k__law_pot ?a_is_signs ?l_is_signs ?c_is_signs ?k_is_signs ?a_strokes_on ?l_strokes_on ?c_strokes_on ?k_strokes_on ?a_levels_by ?l_levels_by ?c_levels_by ?k_levels_by ?a_begun_on ?l_begun_on ?c_begun_on ?k_begun_on ?a__law_of ?l__law_of ?c__law_of ?k__law_of ?a_is_row_of ?l_is_row_of ?c_is_row_of ?k_is_row_of ?a_is_entry_of ?l_is_entry_of ?c_is_entry_of ?k_is_entry_of ?a_reading_by ?l_reading_by ?c_reading_by ?k_reading_by ?a__law_row ?l__law_row ?c__law_row ?k__law_row ?a_is_dictionary_of ?l_is_dictionary_of ?c_is_dictionary_of ?k_is_dictionary_of ?a__law_dictionary ?l__law_dictionary ?c__law_dictionary ?k__law_dictionary ?a_check_dictionary ?l_check_dictionary ?c_check_dictionary ?k_check_dictionary ?a_check_written ?l_check_written ?c_check_written ?k_check_written ?a_writings_many ?l_writings_many ?c_writings_many ?k_writings_many ?a_written_told ?l_written_told ?c_written_told ?k_written_told ?a_least_written ?l_least_written ?c_least_written ?k_least_written ?a__law_is_long_right ?l__law_is_long_right ?c__law_is_long_right ?k__law_is_long_right ?a__law_right ?l__law_right ?c__law_right ?k__law_right ?a_law ?l_law ?c_law ?k_law ?z_LOT ?z_MOST_ENTRIES ?z_MOST_OUTLINE ?z_MOST_ROW ?z_NEVER ?z_ROW ?z_SIGNS ?z_abs ?z_all ?z_dict ?z_enumerate ?z_int ?z_isinstance ?z_len ?z_list ?z_max ?z_min ?z_range ?z_repr ?z_sorted ?z_str ?z_sum ?z_tuple ?z_zip) DD.math_law
    (case a__law_cells => k_is); (case l__law_cells => k_is); (case c__law_cells => k_is); (case k__law_cells => k_is); (case a_entries_on => k_is); (case l_entries_on => k_is)
    (case c_entries_on => k_is); (case k_entries_on => k_is); (case a_are_signs => k_is); (case l_are_signs => k_is); (case c_are_signs => k_is); (case k_are_signs => k_is)
    (case a_is_tuple_of => k_is); (case l_is_tuple_of => k_is); (case c_is_tuple_of => k_is); (case k_is_tuple_of => k_is); (case a_is_ascending => k_is); (case l_is_ascending => k_is)
    (case c_is_ascending => k_is); (case k_is_ascending => k_is); (case a__law_take => k_is); (case l__law_take => k_is); (case c__law_take => k_is); (case k__law_take => k_is)
    (case a__law_unlike => k_is); (case l__law_unlike => k_is); (case c__law_unlike => k_is); (case k__law_unlike => k_is); (case a__law_all_writings => k_is); (case l__law_all_writings => k_is)
    (case c__law_all_writings => k_is); (case k__law_all_writings => k_is); (case a__law_pot => k_is); (case l__law_pot => k_is); (case c__law_pot => k_is); (case k__law_pot => k_is)
    (case a_is_signs => k_is); (case l_is_signs => k_is); (case c_is_signs => k_is); (case k_is_signs => k_is); (case a_strokes_on => k_is); (case l_strokes_on => k_is)
    (case c_strokes_on => k_is); (case k_strokes_on => k_is); (case a_levels_by => k_is); (case l_levels_by => k_is); (case c_levels_by => k_is); (case k_levels_by => k_is)
    (case a_begun_on => k_is); (case l_begun_on => k_is); (case c_begun_on => k_is); (case k_begun_on => k_is); (case a__law_of => k_is); (case l__law_of => k_is)
    (case c__law_of => k_is); (case k__law_of => k_is); (case a_is_row_of => k_is); (case l_is_row_of => k_is); (case c_is_row_of => k_is); (case k_is_row_of => k_is)
    (case a_is_entry_of => k_is); (case l_is_entry_of => k_is); (case c_is_entry_of => k_is); (case k_is_entry_of => k_is); (case a_reading_by => k_is); (case l_reading_by => k_is)
    (case c_reading_by => k_is); (case k_reading_by => k_is); (case a__law_row => k_is); (case l__law_row => k_is); (case c__law_row => k_is); (case k__law_row => k_is)
    (case a_is_dictionary_of => k_is); (case l_is_dictionary_of => k_is); (case c_is_dictionary_of => k_is); (case k_is_dictionary_of => k_is); (case a__law_dictionary => k_is); (case l__law_dictionary => k_is)
    (case c__law_dictionary => k_is); (case k__law_dictionary => k_is); (case a_check_dictionary => k_is); (case l_check_dictionary => k_is); (case c_check_dictionary => k_is); (case k_check_dictionary => k_is)
    (case a_check_written => k_is); (case l_check_written => k_is); (case c_check_written => k_is); (case k_check_written => k_is); (case a_writings_many => k_is); (case l_writings_many => k_is)
    (case c_writings_many => k_is); (case k_writings_many => k_is); (case a_written_told => k_is); (case l_written_told => k_is); (case c_written_told => k_is); (case k_written_told => k_is)
    (case a_least_written => k_is); (case l_least_written => k_is); (case c_least_written => k_is); (case k_least_written => k_is); (case a__law_is_long_right => k_is); (case l__law_is_long_right => k_is)
    (case c__law_is_long_right => k_is); (case k__law_is_long_right => k_is); (case a__law_right => k_is); (case l__law_right => k_is); (case c__law_right => k_is); (case k__law_right => k_is)
    (case a_law => k_is); (case l_law => k_is); (case c_law => k_is); (case k_law => k_is); (case z_LOT => k_is); (case z_MOST_ENTRIES => k_is)
    (case z_MOST_OUTLINE => k_is); (case z_MOST_ROW => k_is); (case z_NEVER => k_is); (case z_ROW => k_is); (case z_SIGNS => k_is); (case z_abs => k_is)
    (case z_all => k_is); (case z_dict => k_is); (case z_enumerate => k_is); (case z_int => k_is); (case z_isinstance => k_is); (case z_len => k_is)
    (case z_list => k_is); (case z_max => k_is); (case z_min => k_is); (case z_range => k_is); (case z_repr => k_is); (case z_sorted => k_is)
    (case z_str => k_is); (case z_sum => k_is); (case z_tuple => k_is); (case z_zip => k_is)
