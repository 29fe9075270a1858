import PyProof.Rows.All
import Wide.All
import OpenK.AllK
import Wide.FinOn
import HandS.ForMost
import HandS.ForExc
import HandS.TupAny
import HandS.IsInst
import HandS.Style
import HandS.Conv
import HandS.Flow
import HandS.Deep
import HandS.SortInts
import HandS.TryMany
import HandS.HeadHook2
import HandS.ExcIs
import HandS.Zip
import HandS.Strs
import HandS.StrMore
import HandS.Head0
import HandS.Head1
import HandS.Head2
import HandS.HeadEnd
import PyProof.ReprRoads
import KE.SortData
import HandS.Sort
import HandS.TupSets
import HandS.TupMul
import HandS.Iter
import KE.DataMinMax
import KE.GoesEnum
import KE.KTupSum
import HandS.SetFor
import PyProof.Rows.ReprOcc
import PyProof.ReprLen
import PySem.Challenge.RW_cardwhole_k24_tops_to_places_and_dealt_h
section
set_option Elab.async false
set_option linter.all false
set_option maxRecDepth 100000
set_option maxHeartbeats 4000000
set_option autoImplicit false
namespace Pv
open PySem PySem.Spec PyProof.Rows L2

mutual
/-- v stands for the data d; the lists and tuples in it are not owned (O) by any frame: they never change -/
inductive FR (O : Addr → Prop) (H : Hp) : V → PyData → Prop
  | non : FR O H .non .none
  | bl (b : Bool) : FR O H (.bl b) (.bool b)
  | int (i : Int) : FR O H (.int i) (.int i)
  | str (x : Str) : FR O H (.str x) (.str x)
  | lst {a : Addr} {xs : List V} {ds : List PyData} : H a = some (.lst xs) → ¬ O a → FRs O H xs ds → FR O H (.ref a) (.list ds)
  | tup {a : Addr} {xs : List V} {ds : List PyData} : H a = some (.tup xs) → ¬ O a → FRs O H xs ds → FR O H (.ref a) (.tuple ds)
  | dic {a : Addr} : H a = some (.dK []) → ¬ O a → FR O H (.ref a) (.dict [])
inductive FRs (O : Addr → Prop) (H : Hp) : List V → List PyData → Prop
  | nil : FRs O H [] []
  | cons {v : V} {vs : List V} {d : PyData} {ds : List PyData} : FR O H v d → FRs O H vs ds → FRs O H (v :: vs) (d :: ds)
end

mutual
theorem FR.mono {O O' : Addr → Prop} {H H' : Hp} (k : ∀ a o, H a = some o → ¬ O a → H' a = some o ∧ ¬ O' a) : ∀ (d : PyData) (v : V), FR O H v d → FR O' H' v d
  | .none, _, h => by cases h; exact .non
  | .bool b, _, h => by cases h; exact .bl b
  | .int i, _, h => by cases h; exact .int i
  | .str x, _, h => by cases h; exact .str x
  | .list ds, _, h => by
    cases h with
    | lst e n r => exact .lst (k _ _ e n).1 (k _ _ e n).2 (FRs.mono k ds _ r)
  | .tuple ds, _, h => by
    cases h with
    | tup e n r => exact .tup (k _ _ e n).1 (k _ _ e n).2 (FRs.mono k ds _ r)
  | .dict _, _, h => by
    cases h with
    | dic e n => exact .dic (k _ _ e n).1 (k _ _ e n).2
theorem FRs.mono {O O' : Addr → Prop} {H H' : Hp} (k : ∀ a o, H a = some o → ¬ O a → H' a = some o ∧ ¬ O' a) : ∀ (ds : List PyData) (vs : List V), FRs O H vs ds → FRs O' H' vs ds
  | [], _, h => by cases h; exact .nil
  | d :: ds, _, h => by
    cases h with
    | cons a b => exact .cons (FR.mono k d _ a) (FRs.mono k ds _ b)
end
theorem FRs.length {O : Addr → Prop} {H : Hp} : ∀ {vs : List V} {ds : List PyData}, FRs O H vs ds → vs.length = ds.length
  | _, _, .nil => rfl
  | _, _, .cons _ t => by rw [List.length_cons, List.length_cons, FRs.length t]
theorem FRs.get {O : Addr → Prop} {H : Hp} : ∀ {vs : List V} {ds : List PyData} {i : Nat} {d : PyData}, FRs O H vs ds → ds[i]? = some d → ∃ v, vs[i]? = some v ∧ FR O H v d
  | _, _, _, _, .nil, e => by simp at e
  | _, _, 0, _, .cons a _, e => by simp at e; subst e; exact ⟨_, rfl, a⟩
  | _, _, i + 1, d, .cons _ t, e => by
    obtain ⟨v, h1, h2⟩ := FRs.get (i := i) (d := d) t (by simpa using e)
    exact ⟨v, by simpa using h1, h2⟩
theorem FRs.append {O : Addr → Prop} {H : Hp} : ∀ {xs ys : List V} {ds es : List PyData}, FRs O H xs ds → FRs O H ys es → FRs O H (xs ++ ys) (ds ++ es)
  | _, _, _, _, .nil, s => s
  | _, _, _, _, .cons r t, s => .cons r (FRs.append t s)
theorem FRs.take {O : Addr → Prop} {H : Hp} : ∀ {xs : List V} {ds : List PyData} (n : Nat), FRs O H xs ds → FRs O H (xs.take n) (ds.take n)
  | _, _, 0, _ => .nil
  | _, _, _ + 1, .nil => .nil
  | _, _, n + 1, .cons r t => .cons r (FRs.take n t)
theorem FRs.drop {O : Addr → Prop} {H : Hp} : ∀ {xs : List V} {ds : List PyData} (n : Nat), FRs O H xs ds → FRs O H (xs.drop n) (ds.drop n)
  | _, _, 0, r => r
  | _, _, _ + 1, .nil => .nil
  | _, _, n + 1, .cons _ t => FRs.drop n t
theorem FRs.set {O : Addr → Prop} {H : Hp} {v : V} {d : PyData} (r : FR O H v d) : ∀ {xs : List V} {ds : List PyData} (n : Nat), FRs O H xs ds → FRs O H (xs.set n v) (ds.set n d)
  | _, _, _, .nil => .nil
  | _, _, 0, .cons _ t => .cons r t
  | _, _, n + 1, .cons q t => .cons q (FRs.set r n t)
theorem FRs.reverse {O : Addr → Prop} {H : Hp} : ∀ {xs : List V} {ds : List PyData}, FRs O H xs ds → FRs O H xs.reverse ds.reverse
  | _, _, .nil => .nil
  | _, _, .cons r t => by
    rw [List.reverse_cons, List.reverse_cons]
    exact FRs.append (FRs.reverse t) (.cons r .nil)
theorem FRs.eraseIdx {O : Addr → Prop} {H : Hp} : ∀ {xs : List V} {ds : List PyData} (n : Nat), FRs O H xs ds → FRs O H (xs.eraseIdx n) (ds.eraseIdx n)
  | _, _, _, .nil => .nil
  | _, _, 0, .cons _ t => t
  | _, _, n + 1, .cons q t => .cons q (FRs.eraseIdx n t)
theorem FRs.rep {O : Addr → Prop} {H : Hp} {xs : List V} {ds : List PyData} (r : FRs O H xs ds) : ∀ k : Nat, FRs O H (List.replicate k xs).flatten (List.replicate k ds).flatten
  | 0 => .nil
  | k + 1 => by
    rw [List.replicate_succ, List.replicate_succ, List.flatten_cons, List.flatten_cons]
    exact r.append (FRs.rep r k)
theorem FRs.ints {O : Addr → Prop} {H : Hp} : ∀ ns : List Int, FRs O H (ns.map V.int) (ns.map PyData.int)
  | [] => .nil
  | n :: ns => .cons (.int n) (FRs.ints ns)

/-- what a slot holds: nothing known; frozen data; a list of this frame's own (or handed in to be changed); the script -/
inductive SV where
  | un
  | val (d : PyData)
  | own (io : Bool) (d : PyData)
  | scr (ns : List Int)
abbrev Env := List SV
/-- what is the same through a frame's whole run: the written part, the lists that were handed in to be changed, the addresses that other frames own -/
structure Cc where
  K : PySem.W.Frag
  ios : Nat → Option Addr
  Fg : Addr → Prop
abbrev Cc.O (C : Cc) (M : Addr → Prop) : Addr → Prop := fun a => M a ∨ C.Fg a
/-- an own list -/
inductive OwnR (O M : Addr → Prop) (H : Hp) : V → PyData → Prop
  | lst {a : Addr} {xs : List V} {ds : List PyData} : H a = some (.lst xs) → M a → FRs O H xs ds → OwnR O M H (.ref a) (.list ds)
def ScrR (K : PySem.W.Frag) (O : Addr → Prop) (H : Hp) (a : Addr) (xs : List V) : Prop :=
  (Rd H a (.lst xs) ∧ ¬ O a) ∨ ∃ (o : Obj) (its : Array Value) (n : Nat), K.lookup a = some o ∧ o.cls = .type "list" ∧ o.dict = none ∧ o.data = .seq its n ∧ its.size ≤ sizeLine ∧ Vals xs its.toList
theorem ScrR.sql {K : PySem.W.Frag} {O : Addr → Prop} {H : Hp} {a : Addr} {xs : List V} (h : ScrR K O H a xs) : SqL K H a xs := h.elim (fun z => .inl z.1) .inr
def SVR (C : Cc) (M : Addr → Prop) (H : Hp) (i : Nat) (s : Option V) : SV → Prop
  | .un => True
  | .val d => ∃ v, s = some v ∧ FR (C.O M) H v d
  | .own io d => ∃ v, s = some v ∧ OwnR (C.O M) M H v d ∧ (io = true → ∃ a, C.ios i = some a ∧ v = .ref a)
  | .scr ns => ∃ a, s = some (.ref a) ∧ ScrR C.K (C.O M) H a (ns.map V.int)
structure Rep (C : Cc) (M : Addr → Prop) (H : Hp) (σ : L2.St) (env : Env) : Prop where
  len : σ.length = env.length
  at_ : ∀ i sv, env[i]? = some sv → ∃ s, σ[i]? = some s ∧ SVR C M H i s sv
  sep : ∀ (i j : Nat) (a : Addr) (bi bj : Bool) (di dj : PyData), i ≠ j → env[i]? = some (SV.own bi di) → env[j]? = some (SV.own bj dj) → σ[i]? = some (some (V.ref a)) → σ[j]? = some (some (V.ref a)) → False
  live : ∀ a, M a → ∃ xs, H a = some (.lst xs)
  fg : ∀ a, C.Fg a → H a ≠ none
  apart : ∀ a, C.Fg a → ¬ M a
/-- from one state to a later one: what is not this frame's own is kept -/
structure Step (M : Addr → Prop) (H : Hp) (M' : Addr → Prop) (H' : Hp) : Prop where
  keep : ∀ a o, H a = some o → ¬ M a → H' a = some o
  own : ∀ a, M' a → M a ∨ H a = none
  live : ∀ a, H a ≠ none → H' a ≠ none
theorem Step.refl (M : Addr → Prop) (H : Hp) : Step M H M H := ⟨fun _ _ h _ => h, fun _ h => .inl h, fun _ h => h⟩
theorem Step.trans {M M1 M2 : Addr → Prop} {H H1 H2 : Hp} (a : Step M H M1 H1) (b : Step M1 H1 M2 H2) : Step M H M2 H2 where
  keep := fun x o h n => b.keep x o (a.keep x o h n) fun m1 => (a.own x m1).elim n fun z => by rw [h] at z; cases z
  own := fun x m => (b.own x m).elim (a.own x) fun z => .inr (by
    cases q : H x with
    | none => rfl
    | some o => exact absurd z (a.live x (by rw [q]; simp)))
  live := fun x h => b.live x (a.live x h)
/-- all that was tracked is as it was -/
abbrev Ext (H H' : Hp) : Prop := ∀ a o, H a = some o → H' a = some o
theorem Step.ext {M : Addr → Prop} {H H' : Hp} (e : Ext H H') : Step M H M H' := ⟨fun a o h _ => e a o h, fun _ h => .inl h, fun a h => by
  cases q : H a with
  | none => exact absurd q h
  | some o => rw [e a o q]; simp⟩
theorem Ext.upd {H : Hp} {p : Addr} {o : HO} (n : H p = none) : Ext H (upd H p o) := fun a u h => by
  rw [upd_ne (ne_of_none h n)]; exact h
theorem Ext.refl (H : Hp) : Ext H H := fun _ _ h => h
theorem FR.step {C : Cc} {M M' : Addr → Prop} {H H' : Hp} {v : V} {d : PyData} (s : Step M H M' H') (r : FR (C.O M) H v d) : FR (C.O M') H' v d :=
  FR.mono (fun a o h n => ⟨s.keep a o h fun m => n (.inl m), fun z => z.elim (fun m => (s.own a m).elim (fun m0 => n (.inl m0)) fun q => by rw [h] at q; cases q) fun f => n (.inr f)⟩) d v r
theorem FRs.step {C : Cc} {M M' : Addr → Prop} {H H' : Hp} {v : List V} {d : List PyData} (s : Step M H M' H') (r : FRs (C.O M) H v d) : FRs (C.O M') H' v d :=
  FRs.mono (fun a o h n => ⟨s.keep a o h fun m => n (.inl m), fun z => z.elim (fun m => (s.own a m).elim (fun m0 => n (.inl m0)) fun q => by rw [h] at q; cases q) fun f => n (.inr f)⟩) d v r
theorem FR.ext {O : Addr → Prop} {H H' : Hp} {v : V} {d : PyData} (s : Ext H H') (r : FR O H v d) : FR O H' v d := FR.mono (fun a o h n => ⟨s a o h, n⟩) d v r
theorem FRs.ext {O : Addr → Prop} {H H' : Hp} {v : List V} {d : List PyData} (s : Ext H H') (r : FRs O H v d) : FRs O H' v d := FRs.mono (fun a o h n => ⟨s a o h, n⟩) d v r
theorem SVR.ext {C : Cc} {M : Addr → Prop} {H H' : Hp} {i : Nat} {s : Option V} {sv : SV} (e : Ext H H') (r : SVR C M H i s sv) : SVR C M H' i s sv := by
  cases sv with
  | un => trivial
  | val d => obtain ⟨v, h1, h2⟩ := r; exact ⟨v, h1, h2.ext e⟩
  | own io d =>
    obtain ⟨v, h1, h2, h3⟩ := r
    cases h2 with
    | lst ha m r => exact ⟨_, h1, .lst (e _ _ ha) m (r.ext e), h3⟩
  | scr ns =>
    obtain ⟨a, h1, h2⟩ := r
    refine ⟨a, h1, ?_⟩
    rcases h2 with ⟨h | ⟨o, h⟩, n⟩ | h
    · exact .inl ⟨.inl (e _ _ h), n⟩
    · exact .inl ⟨.inr ⟨o, e _ _ h⟩, n⟩
    · exact .inr h
theorem Rep.ext {C : Cc} {M : Addr → Prop} {H H' : Hp} {σ : L2.St} {env : Env} (r : Rep C M H σ env) (e : Ext H H') : Rep C M H' σ env where
  len := r.len
  at_ := fun i sv h => let ⟨s, h1, h2⟩ := r.at_ i sv h; ⟨s, h1, h2.ext e⟩
  sep := r.sep
  live := fun a m => let ⟨xs, h⟩ := r.live a m; ⟨xs, e _ _ h⟩
  fg := fun a f => by
    cases q : H a with
    | none => exact absurd q (r.fg a f)
    | some o => rw [e a o q]; simp
  apart := r.apart
/-- a new address is no one's -/
theorem Rep.fresh {C : Cc} {M : Addr → Prop} {H : Hp} {σ : L2.St} {env : Env} (r : Rep C M H σ env) {p : Addr} (n : H p = none) : ¬ C.O M p := fun z =>
  z.elim (fun m => by obtain ⟨xs, h⟩ := r.live p m; rw [n] at h; cases h) fun f => r.fg p f n

/-- frozen data, or a slot whose own list is meant -/
inductive W where
  | d (d : PyData)
  | sl (i : Nat)
inductive R (α : Type) where
  | ok (a : α) (env : Env)
  | exc (c : Str) (env : Env)
  | bad
def R.bind {α β : Type} (r : R α) (k : α → Env → R β) : R β :=
  match r with
  | .ok a env => k a env
  | .exc c env => .exc c env
  | .bad => .bad
inductive FnRes where
  | ok (d : PyData) (io : List PyData)
  | exc (c : Str)
  | bad
structure Tab where
  fn : Str → List PyData → FnRes
  wh : Nat
abbrev Ex := Tab → Env → R W
def WR (C : Cc) (M : Addr → Prop) (H : Hp) (σ : L2.St) (_ : Env) : W → V → Prop
  | .d d, v => FR (C.O M) H v d
  | .sl i, v => σ[i]? = some (some v)
abbrev Rel (α β : Type) := Cc → (Addr → Prop) → Hp → L2.St → Env → α → β → Prop
def eqRel {α : Type} : Rel α α := fun _ _ _ _ _ a b => a = b
/-- what is wanted of a result: from the state (M, H) on -/
def Post {α β : Type} (rel : Rel α β) (C : Cc) (wx : WX) (σ : L2.St) (M : Addr → Prop) (H : Hp) (r : R α) (Q : β → Hp → Prop) : Prop :=
  match r with
  | .bad => False
  | .exc c env' => ∀ M' H', Rep C M' H' σ env' → Step M H M' H' → wx (.ref (He.ga C.K c)) none σ H'
  | .ok a env' => ∀ v M' H', Rep C M' H' σ env' → Step M H M' H' → rel C M' H' σ env' a v → Q v H'
theorem Post.later {α β : Type} {rel : Rel α β} {C : Cc} {wx : WX} {σ : L2.St} {M M1 : Addr → Prop} {H H1 : Hp} {r : R α} {Q : β → Hp → Prop} (p : Post rel C wx σ M H r Q) (s : Step M H M1 H1) : Post rel C wx σ M1 H1 r Q := by
  cases r with
  | bad => exact p
  | exc c env => exact fun M' H' q z => p M' H' q (s.trans z)
  | ok a env => exact fun v M' H' q z w => p v M' H' q (s.trans z) w
theorem Post.imp {α β : Type} {rel : Rel α β} {C : Cc} {wx : WX} {σ : L2.St} {M : Addr → Prop} {H : Hp} {r : R α} {Q Q' : β → Hp → Prop} (p : Post rel C wx σ M H r Q) (k : ∀ v H', Q v H' → Q' v H') : Post rel C wx σ M H r Q' := by
  cases r with
  | bad => exact p
  | exc c env => exact p
  | ok a env => exact fun v M' H' q z w => k _ _ (p v M' H' q z w)
def rd {α β : Type} (rel : Rel α β) (K : PySem.W.Frag) (wx : WX) (T : Tab) (f : Tab → Env → R α) : L2.St → Hp → (β → Hp → Prop) → Prop := fun σ H Q =>
  ∃ C env M, C.K = K ∧ Rep C M H σ env ∧ Post rel C wx σ M H (f T env) Q
abbrev rdE := rd WR
/-- one behind the other -/
theorem rd_bind {α β γ δ : Type} {rel : Rel α β} {rel' : Rel γ δ} {K : PySem.W.Frag} {C : Cc} {wx : WX} {T : Tab} {f : Tab → Env → R α} {k : α → Env → R γ} {σ : L2.St} {H : Hp} {env : Env} {M : Addr → Prop} {Q : δ → Hp → Prop} {P : β → Hp → Prop}
    (hK : C.K = K) (r : Rep C M H σ env) (h : Post rel' C wx σ M H ((f T env).bind k) Q)
    (go : ∀ a env1 v M1 H1, Rep C M1 H1 σ env1 → Step M H M1 H1 → rel C M1 H1 σ env1 a v → Post rel' C wx σ M1 H1 (k a env1) Q → P v H1) : rd rel K wx T f σ H P := by
  refine ⟨C, env, M, hK, r, ?_⟩
  cases e : f T env with
  | bad => rw [e] at h; exact h
  | exc c env' => rw [e] at h; exact h
  | ok a env' =>
    rw [e] at h
    exact fun v M' H' q z w => go a env' v M' H' q z w (Post.later (r := k a env') h z)
theorem WR.step {C : Cc} {M M' : Addr → Prop} {H H' : Hp} {σ : L2.St} {env env' : Env} {w : W} {v : V} (s : Step M H M' H') (r : WR C M H σ env w v) : WR C M' H' σ env' w v := by
  cases w with
  | d d => exact FR.step s r
  | sl i => exact r

/-- the data that is meant -/
def deref (env : Env) : W → Option PyData
  | .d d => some d
  | .sl i => match env[i]? with
    | some (.own _ d) => some d
    | _ => none
/-- data to be read: frozen, or an own list whose items are frozen -/
inductive BR (O : Addr → Prop) (H : Hp) : V → PyData → Prop
  | fr {v : V} {d : PyData} : FR O H v d → BR O H v d
  | ol {a : Addr} {xs : List V} {ds : List PyData} : H a = some (.lst xs) → FRs O H xs ds → BR O H (.ref a) (.list ds)
theorem deref_br {C : Cc} {M : Addr → Prop} {H : Hp} {σ : L2.St} {env env' : Env} {w : W} {v : V} {d : PyData} (r : Rep C M H σ env) (wr : WR C M H σ env' w v) (e : deref env w = some d) : BR (C.O M) H v d := by
  cases w with
  | d d' => cases e; exact .fr wr
  | sl i =>
    have e' : (match env[i]? with | some (.own _ d) => some d | _ => none) = some d := e
    split at e'
    · rename_i io d' h
      cases e'
      obtain ⟨s, h1, v', h2, h3, _⟩ := r.at_ i _ h
      have wr' : σ[i]? = some (some v) := wr
      rw [h1, h2] at wr'
      cases wr'
      cases h3 with
      | lst ha m rr => exact .ol ha rr
    · cases e'
theorem BR.list {O : Addr → Prop} {H : Hp} {v : V} {ds : List PyData} (h : BR O H v (.list ds)) : ∃ a xs, v = .ref a ∧ H a = some (.lst xs) ∧ FRs O H xs ds := by
  cases h with
  | fr q => cases q with | lst e n r => exact ⟨_, _, rfl, e, r⟩
  | ol e r => exact ⟨_, _, rfl, e, r⟩
theorem BR.tuple {O : Addr → Prop} {H : Hp} {v : V} {ds : List PyData} (h : BR O H v (.tuple ds)) : ∃ a xs, v = .ref a ∧ H a = some (.tup xs) ∧ ¬ O a ∧ FRs O H xs ds := by
  cases h with
  | fr q => cases q with | tup e n r => exact ⟨_, _, rfl, e, n, r⟩
theorem BR.int {O : Addr → Prop} {H : Hp} {v : V} {i : Int} (h : BR O H v (.int i)) : v = .int i := by
  cases h with
  | fr q => cases q; rfl
theorem BR.bool {O : Addr → Prop} {H : Hp} {v : V} {i : Bool} (h : BR O H v (.bool i)) : v = .bl i := by
  cases h with
  | fr q => cases q; rfl
theorem BR.str {O : Addr → Prop} {H : Hp} {v : V} {i : Str} (h : BR O H v (.str i)) : v = .str i := by
  cases h with
  | fr q => cases q; rfl
theorem BR.none {O : Addr → Prop} {H : Hp} {v : V} (h : BR O H v .none) : v = .non := by
  cases h with
  | fr q => cases q; rfl
theorem BR.dict {O : Addr → Prop} {H : Hp} {v : V} {kvs : List (PyData × PyData)} (h : BR O H v (.dict kvs)) : ∃ a, v = .ref a ∧ H a = some (.dK []) ∧ kvs = [] := by
  cases h with
  | fr q => cases q with | dic e n => exact ⟨_, rfl, e, rfl⟩
mutual
def noDict : PyData → Bool
  | .dict _ => false
  | .list ds => noDicts ds
  | .tuple ds => noDicts ds
  | _ => true
def noDicts : List PyData → Bool
  | [] => true
  | d :: ds => noDict d && noDicts ds
end
mutual
theorem FR.toDp {K : PySem.W.Frag} {O : Addr → Prop} {H : Hp} : ∀ (d : PyData) (v : V), FR O H v d → noDict d = true → Dp K H v d
  | .none, _, h, _ => by cases h; exact .non
  | .bool b, _, h, _ => by cases h; exact .bl b
  | .int i, _, h, _ => by cases h; exact .int i
  | .str x, _, h, _ => by cases h; exact .str x
  | .list ds, _, h, n => by
    cases h with
    | lst e _ r => exact .lst (SqL.of e) (FRs.toDp ds _ r (by simpa [noDict] using n))
  | .tuple ds, _, h, n => by
    cases h with
    | tup e _ r => exact .tup (SqT.of e) (FRs.toDp ds _ r (by simpa [noDict] using n))
  | .dict _, _, _, n => by simp [noDict] at n
theorem FRs.toDp {K : PySem.W.Frag} {O : Addr → Prop} {H : Hp} : ∀ (ds : List PyData) (vs : List V), FRs O H vs ds → noDicts ds = true → DpAll K H vs ds
  | [], _, h, _ => by cases h; exact .nil
  | d :: ds, _, h, n => by
    cases h with
    | cons a b =>
      have n' : noDict d = true ∧ noDicts ds = true := by simpa [noDicts] using n
      exact .cons (FR.toDp d _ a n'.1) (FRs.toDp ds _ b n'.2)
end
theorem BR.toDp {K : PySem.W.Frag} {O : Addr → Prop} {H : Hp} {v : V} {d : PyData} (h : BR O H v d) (n : noDict d = true) : Dp K H v d := by
  cases h with
  | fr q => exact FR.toDp d v q n
  | ol e r => exact .lst (SqL.of e) (FRs.toDp _ _ r (by simpa [noDict] using n))

theorem peImp {X : Cx} {e : Expr} {t t' : TE} (h : PE X e t) (k : ∀ σ H Q, t' σ H Q → t σ H Q) : PE X e t' := ⟨fun pins s σ H Q I q => h.run pins s σ H Q I (k σ H Q q)⟩
theorem ptImp {X : Cx} {e : Expr} {t t' : TT} (h : PT X e t) (k : ∀ σ H Q, t' σ H Q → t σ H Q) : PT X e t' := ⟨fun pins s σ H Q I q => h.run pins s σ H Q I (k σ H Q q)⟩
theorem paImp {X : Cx} {e : List Expr} {t t' : TA} (h : PA X e t) (k : ∀ σ H Q, t' σ H Q → t σ H Q) : PA X e t' := ⟨fun pos pins s σ H Q I q => h.run pos pins s σ H Q I (k σ H Q q)⟩
theorem psImp {X : Cx} {e : Stmt} {t t' : TS} (h : PS X e t) (k : ∀ σ H Q, t' Q σ H → t Q σ H) : PS X e t' := ⟨fun pins s σ H D I q => h.run pins s σ H D I (k σ H D q)⟩
theorem pssImp {X : Cx} {e : List Stmt} {t t' : TS} (h : PSs X e t) (k : ∀ σ H Q, t' Q σ H → t Q σ H) : PSs X e t' := ⟨fun pins s σ H D I q => h.run pins s σ H D I (k σ H D q)⟩

def dLit (d : PyData) : Ex := fun _ env => .ok (.d d) env
def dVar (i : Nat) : Ex := fun _ env => match env[i]? with
  | some (.val d) => .ok (.d d) env
  | some (.own _ _) => .ok (.sl i) env
  | some (.scr _) => .ok (.sl i) env
  | _ => .bad
section
variable {X : Cx} {K : PySem.W.Frag} {wx : WX} {T : Tab}
theorem pd_var {i : Nat} {x : Str} {pos : Pos} (hN : X.N[i]? = some x) (hv : Vis X.env.scope x) (hd : (x == ("__debug__" : Str)) = false) (hcd : (x == ("__classdict__" : Str)) = false) : PE X (.Name x pos) (rdE K wx T (dVar i)) := by
  refine peImp (pe_var hN hv hd hcd) fun σ H Q h => ?_
  obtain ⟨C, env, M, hK, r, p⟩ := h
  unfold dVar at p
  have fin : ∀ sv : SV, env[i]? = some sv → sv ≠ .un → ∃ v : V, σ[i]? = some (some v) ∧ (∀ d, sv = .val d → FR (C.O M) H v d) := by
    intro sv hsv hne
    obtain ⟨s, h1, h2⟩ := r.at_ i sv hsv
    cases sv with
    | un => exact absurd rfl hne
    | val d =>
      obtain ⟨v, rfl, q⟩ := h2
      exact ⟨v, h1, fun d' e => by cases e; exact q⟩
    | own io d =>
      obtain ⟨v, rfl, _, _⟩ := h2
      exact ⟨v, h1, fun d' e => by cases e⟩
    | scr ns =>
      obtain ⟨a, rfl, _⟩ := h2
      exact ⟨_, h1, fun d' e => by cases e⟩
  split at p
  · rename_i d hd
    obtain ⟨v, h1, h2⟩ := fin _ hd (by simp)
    exact ⟨v, h1, p v M H r (Step.refl M H) (h2 d rfl)⟩
  · rename_i io d hd
    obtain ⟨v, h1, _⟩ := fin _ hd (by simp)
    exact ⟨v, h1, p v M H r (Step.refl M H) h1⟩
  · rename_i ns hd
    obtain ⟨v, h1, _⟩ := fin _ hd (by simp)
    exact ⟨v, h1, p v M H r (Step.refl M H) h1⟩
  · exact p.elim
theorem pd_const {e : Expr} {v : V} {d : PyData} (h : PE X e (tC v)) (q : ∀ O H, FR O H v d) : PE X e (rdE K wx T (dLit d)) := by
  refine peImp h fun σ H Q h => ?_
  obtain ⟨C, env, M, hK, r, p⟩ := h
  exact p v M H r (Step.refl M H) (q _ _)

/-- the rule r serves the function F on data: what it gives is frozen -/
def OpD (r : R2) (F : PyData → PyData → Option PyData) : Prop :=
  ∀ (O : Addr → Prop) (H : Hp) (v1 v2 : V) (d1 d2 d : PyData) (Q : VK), (∀ p, H p = none → ¬ O p) → BR O H v1 d1 → BR O H v2 d2 → F d1 d2 = some d →
    (∀ v H', Ext H H' → FR O H' v d → Q v H') → r v1 v2 H Q
def dBin (F : PyData → PyData → Option PyData) (f g : Ex) : Ex := fun T env =>
  (f T env).bind fun w1 env1 => (g T env1).bind fun w2 env2 =>
    match deref env2 w1, deref env2 w2 with
    | some a, some b => (match F a b with
      | some d => .ok (.d d) env2
      | none => .bad)
    | _, _ => .bad
theorem tOp_bin {a b : TE} {r : R2} {F : PyData → PyData → Option PyData} {f g : Ex} (hF : OpD r F) (σ : L2.St) (H : Hp) (Q : VK) (ha : ∀ σ H Q, rdE K wx T f σ H Q → a σ H Q) (hb : ∀ σ H Q, rdE K wx T g σ H Q → b σ H Q) (h : rdE K wx T (dBin F f g) σ H Q) : tOp r a b σ H Q := by
  obtain ⟨C, env, M, hK, rp, p⟩ := h
  refine ha _ _ _ (rd_bind hK rp p fun w1 env1 v1 M1 H1 r1 s1 q1 p1 => ?_)
  refine hb _ _ _ (rd_bind hK r1 p1 fun w2 env2 v2 M2 H2 r2 s2 q2 p2 => ?_)
  split at p2
  · rename_i x y e1 e2
    split at p2
    · rename_i d ed
      refine hF (C.O M2) H2 v1 v2 x y d Q (fun p n => r2.fresh n) (deref_br r2 (q1.step (env' := env2) s2) e1) (deref_br r2 q2 e2) ed fun v H' ex fr => ?_
      exact p2 v M2 H' (r2.ext ex) (Step.ext ex) fr
    · exact p2.elim
  · exact p2.elim
theorem pd_bin {op : Operator} {r : R2} {F : PyData → PyData → Option PyData} {f g : Ex} {a b : Expr} {pos : Pos} (ho : OpR X (binaryOp op) r) (hF : OpD r F) (ha : PE X a (rdE K wx T f)) (hb : PE X b (rdE K wx T g)) :
    PE X (.BinOp a op b pos) (rdE K wx T (dBin F f g)) := peImp (pe_op ho ha hb) fun σ H Q h => tOp_bin hF σ H Q (fun _ _ _ z => z) (fun _ _ _ z => z) h
end
end Pv
end
section
set_option Elab.async false
set_option linter.all false
set_option maxRecDepth 100000
set_option maxHeartbeats 4000000
set_option autoImplicit false
namespace Pv
open PySem PySem.Spec PyProof.Rows L2

mutual
theorem noDict_of : ∀ d : PyData, d.canLay0 = true → noDict d = true
  | .none, _ => rfl
  | .bool _, _ => rfl
  | .int _, _ => rfl
  | .str _, _ => rfl
  | .list xs, h => by
    have h' : PyData.canLayAll0 xs = true := by simpa [PyData.canLay0] using h
    simpa [noDict] using noDicts_of xs h'
  | .tuple xs, h => by
    have h' : PyData.canLayAll0 xs = true := by simpa [PyData.canLay0] using h
    simpa [noDict] using noDicts_of xs h'
  | .dict _, h => by simp [PyData.canLay0] at h
theorem noDicts_of : ∀ ds : List PyData, PyData.canLayAll0 ds = true → noDicts ds = true
  | [], _ => rfl
  | d :: ds, h => by
    have h' : d.canLay0 = true ∧ PyData.canLayAll0 ds = true := by simpa [PyData.canLayAll0] using h
    simp [noDicts, noDict_of d h'.1, noDicts_of ds h'.2]
end
abbrev okD (d : PyData) : Bool := SeqAt.shaped d
theorem BR.toDpS {K : PySem.W.Frag} {O : Addr → Prop} {H : Hp} {v : V} {d : PyData} (h : BR O H v d) (s : okD d = true) : Dp K H v d := h.toDp (noDict_of d (SeqAt.canLay_of_shaped s))

abbrev LINE : Nat := 16777216
theorem le_line {n : Nat} (h : n ≤ LINE) : n ≤ sizeLine := by rw [sizeLine_eq]; exact h

def fAdd : PyData → PyData → Option PyData
  | .int a, .int b => some (.int (a + b))
  | .str a, .str b => if a.length + b.length ≤ LINE then some (.str (a ++ b)) else none
  | .tuple a, .tuple b => if a.length + b.length ≤ LINE then some (.tuple (a ++ b)) else none
  | .list a, .list b => if a.length + b.length ≤ LINE then some (.list (a ++ b)) else none
  | _, _ => none
def rAddD (K : PySem.W.Frag) : R2 := fun x y H Q => (rI0 (fun i j => .int (i + j)) x y H Q) ∨ ((∃ i j, x = .str i ∧ y = .str j ∧ i.length + j.length ≤ sizeLine ∧ Q (.str (i ++ j)) H) ∨ (rCatA K x y H Q ∨ rCat x y H Q))
theorem op_addD {X : Cx} : OpR X (binaryOp .Add) (rAddD X.K) := op_add.or (op_add_str.or (op_catA.or op_cat))
theorem addD (K : PySem.W.Frag) : OpD (rAddD K) fAdd := by
  intro O H v1 v2 d1 d2 d Q fr b1 b2 e q
  unfold fAdd at e
  split at e
  · cases e
    exact .inl ⟨_, _, b1.int, b2.int, q _ H (Ext.refl H) (.int _)⟩
  · split at e
    · rename_i hz
      cases e
      exact .inr (.inl ⟨_, _, b1.str, b2.str, le_line hz, q _ H (Ext.refl H) (.str _)⟩)
    · cases e
  · split at e
    · rename_i a b hz
      cases e
      obtain ⟨p1, xs, rfl, h1, n1, r1⟩ := b1.tuple
      obtain ⟨p2, ys, rfl, h2, n2, r2⟩ := b2.tuple
      have l1 := r1.length
      have l2 := r2.length
      refine .inr (.inr (.inl ⟨p1, p2, xs, ys, rfl, rfl, SqT.of h1, SqT.of h2, le_line (by omega), fun e => ?_, fun e1 e2 => ?_, fun e1 e2 p np => ?_⟩))
      · subst e
        cases r1
        exact q _ H (Ext.refl H) (.tup h2 n2 r2)
      · subst e2
        cases r2
        rw [List.append_nil] at *
        exact q _ H (Ext.refl H) (.tup h1 n1 r1)
      · exact q _ _ (Ext.upd np) (.tup upd_same (fr p np) ((r1.append r2).ext (Ext.upd np)))
    · cases e
  · split at e
    · rename_i a b hz
      cases e
      obtain ⟨p1, xs, rfl, h1, r1⟩ := b1.list
      obtain ⟨p2, ys, rfl, h2, r2⟩ := b2.list
      have l1 := r1.length
      have l2 := r2.length
      refine .inr (.inr (.inr ⟨p1, p2, xs, ys, rfl, rfl, h1, h2, le_line (by omega), fun p np => ?_⟩))
      exact q _ _ (Ext.upd np) (.lst upd_same (fr p np) ((r1.append r2).ext (Ext.upd np)))
    · cases e
  · cases e

def fSub : PyData → PyData → Option PyData
  | .int a, .int b => some (.int (a - b))
  | _, _ => none
theorem subD : OpD (rI0 fun i j => .int (i - j)) fSub := by
  intro O H v1 v2 d1 d2 d Q fr b1 b2 e q
  unfold fSub at e
  split at e
  · cases e
    exact ⟨_, _, b1.int, b2.int, q _ H (Ext.refl H) (.int _)⟩
  · cases e
abbrev B64 : Int := 18446744073709551616
def fMul : PyData → PyData → Option PyData
  | .int a, .int b => if (-B64 < a ∧ a < B64) ∨ (-B64 < b ∧ b < B64) then some (.int (a * b)) else none
  | .list a, .int k => if k < 1000000 ∧ -1000000 < k ∧ a.length * k.toNat ≤ LINE then some (.list (List.replicate k.toNat a).flatten) else none
  | _, _ => none
theorem op_mulD {X : Cx} : OpR X (binaryOp .Mult) (fun x y H Q => rI CMul (fun i j => .int (i * j)) x y H Q ∨ rRep x y H Q) := op_mul.or op_rep
theorem mulD : OpD (fun x y H Q => rI CMul (fun i j => .int (i * j)) x y H Q ∨ rRep x y H Q) fMul := by
  intro O H v1 v2 d1 d2 d Q fr b1 b2 e q
  unfold fMul at e
  split at e
  · split at e
    · rename_i a b hz
      cases e
      refine .inl ⟨_, _, b1.int, b2.int, ?_, q _ H (Ext.refl H) (.int _)⟩
      unfold CMul
      rcases hz with ⟨h1, h2⟩ | ⟨h1, h2⟩
      · exact .inl ⟨h1, h2⟩
      · exact .inr ⟨h1, h2⟩
    · cases e
  · split at e
    · rename_i a k hz
      cases e
      obtain ⟨p1, xs, rfl, h1, r1⟩ := b1.list
      have l1 := r1.length
      refine .inr ⟨p1, _, xs, rfl, b2.int, h1, by omega, by omega, le_line (by rw [l1]; exact hz.2.2), fun p np => ?_⟩
      exact q _ _ (Ext.upd np) (.lst upd_same (fr p np) ((r1.rep _).ext (Ext.upd np)))
    · cases e
  · cases e
def fDiv : PyData → PyData → Option PyData
  | .int a, .int b => if b ≠ 0 ∧ b.natAbs < 1073741824 then some (.int (a.fdiv b)) else none
  | _, _ => none
theorem divD : OpD (rI CDivN fun i j => .int (i.fdiv j)) fDiv := by
  intro O H v1 v2 d1 d2 d Q fr b1 b2 e q
  unfold fDiv at e
  split at e
  · split at e
    · rename_i hz
      cases e
      exact ⟨_, _, b1.int, b2.int, hz, q _ H (Ext.refl H) (.int _)⟩
    · cases e
  · cases e
def fMod : PyData → PyData → Option PyData
  | .int a, .int b => if b ≠ 0 then some (.int (a.fmod b)) else none
  | _, _ => none
theorem modD : OpD (rI (fun _ j => j ≠ 0) fun i j => .int (i.fmod j)) fMod := by
  intro O H v1 v2 d1 d2 d Q fr b1 b2 e q
  unfold fMod at e
  split at e
  · split at e
    · rename_i hz
      cases e
      exact ⟨_, _, b1.int, b2.int, hz, q _ H (Ext.refl H) (.int _)⟩
    · cases e
  · cases e
def fPow : PyData → PyData → Option PyData
  | .int a, .int b => if 0 ≤ b ∧ b ≤ 1000 ∧ a.natAbs < 1000000 then some (.int (a ^ b.toNat)) else none
  | _, _ => none
theorem powD : OpD (rI CPow fun i j => .int (i ^ j.toNat)) fPow := by
  intro O H v1 v2 d1 d2 d Q fr b1 b2 e q
  unfold fPow at e
  split at e
  · split at e
    · rename_i hz
      cases e
      refine ⟨_, _, b1.int, b2.int, ⟨hz.1, by omega, by omega⟩, q _ H (Ext.refl H) (.int _)⟩
    · cases e
  · cases e

def fCmpI (p : Int → Int → Bool) : PyData → PyData → Option PyData
  | .int a, .int b => some (.bool (p a b))
  | _, _ => none
theorem cmpD (p : Int → Int → Bool) : OpD (fun x y H Q => ∃ i j, x = .int i ∧ y = .int j ∧ Q (.bl (p i j)) H) (fCmpI p) := by
  intro O H v1 v2 d1 d2 d Q fr b1 b2 e q
  unfold fCmpI at e
  split at e
  · cases e
    exact ⟨_, _, b1.int, b2.int, q _ H (Ext.refl H) (.bl _)⟩
  · cases e
theorem opLt {X : Cx} : OpR X (compareOp .Lt) (fun x y H Q => ∃ i j, x = .int i ∧ y = .int j ∧ Q (.bl (decide (i < j))) H) := op_lt
theorem opLe {X : Cx} : OpR X (compareOp .LtE) (fun x y H Q => ∃ i j, x = .int i ∧ y = .int j ∧ Q (.bl (decide (i ≤ j))) H) := op_le
theorem opGt {X : Cx} : OpR X (compareOp .Gt) (fun x y H Q => ∃ i j, x = .int i ∧ y = .int j ∧ Q (.bl (decide (j < i))) H) := op_gt
theorem opGe {X : Cx} : OpR X (compareOp .GtE) (fun x y H Q => ∃ i j, x = .int i ∧ y = .int j ∧ Q (.bl (decide (j ≤ i))) H) := op_ge
def fEq (d e : PyData) : Option PyData := if okD d = true ∧ okD e = true then some (.bool (PyData.eqv d e)) else none
def fNe (d e : PyData) : Option PyData := if okD d = true ∧ okD e = true then some (.bool (!PyData.eqv d e)) else none
theorem eqD (K : PySem.W.Frag) : OpD (rEqD K) fEq := by
  intro O H v1 v2 d1 d2 d Q fr b1 b2 e q
  unfold fEq at e
  split at e
  · rename_i hz
    cases e
    exact ⟨_, _, b1.toDpS hz.1, b2.toDpS hz.2, hz.1, hz.2, q _ H (Ext.refl H) (.bl _)⟩
  · cases e
theorem neD (K : PySem.W.Frag) : OpD (rNeD K) fNe := by
  intro O H v1 v2 d1 d2 d Q fr b1 b2 e q
  unfold fNe at e
  split at e
  · rename_i hz
    cases e
    exact ⟨_, _, b1.toDpS hz.1, b2.toDpS hz.2, hz.1, hz.2, q _ H (Ext.refl H) (.bl _)⟩
  · cases e
def flatD : PyData → Bool
  | .none => true
  | .bool _ => true
  | .int _ => true
  | .str _ => true
  | _ => false
theorem FR.flat {O : Addr → Prop} {H : Hp} {v : V} {d : PyData} (r : FR O H v d) (f : flatD d = true) : flatV v = true := by
  cases r <;> first | rfl | exact absurd f Bool.false_ne_true
theorem FRs.flat {O : Addr → Prop} {H : Hp} : ∀ {vs : List V} {ds : List PyData}, FRs O H vs ds → ds.all flatD = true → vs.all flatV = true
  | _, _, .nil, _ => rfl
  | _, _, .cons r t, f => by
    rw [List.all_cons, Bool.and_eq_true] at f
    rw [List.all_cons, r.flat f.1, t.flat f.2]; rfl
theorem FR.eqv {O : Addr → Prop} {H : Hp} {v w : V} {d e : PyData} (r : FR O H v d) (q : FR O H w e) (f : flatD d = true) (g : flatD e = true) : eqV v w = PyData.eqv d e := by
  cases r <;> cases q <;> first | rfl | exact absurd f Bool.false_ne_true | exact absurd g Bool.false_ne_true | simp [eqV, PyData.eqv]
theorem FRs.inV {O : Addr → Prop} {H : Hp} {x : V} {d : PyData} (rx : FR O H x d) (fx : flatD d = true) : ∀ {vs : List V} {ds : List PyData}, FRs O H vs ds → ds.all flatD = true → L2.inV x vs = ds.any fun z => PyData.eqv z d
  | _, _, .nil, _ => rfl
  | _, _, .cons r t, f => by
    rw [List.all_cons, Bool.and_eq_true] at f
    show (eqV _ x || L2.inV x _) = _
    rw [List.any_cons, FR.eqv r rx f.1 fx, FRs.inV rx fx t f.2]
def fIn (neg : Bool) : PyData → PyData → Option PyData
  | d, .list ds => if okD d = true ∧ okD (.list ds) = true then some (.bool (if neg then !(ds.any fun z => PyData.eqv z d) else ds.any fun z => PyData.eqv z d)) else none
  | d, .tuple ds => if flatD d = true ∧ ds.all flatD = true then some (.bool (if neg then !(ds.any fun z => PyData.eqv z d) else ds.any fun z => PyData.eqv z d)) else none
  | _, _ => none
theorem notInD (K : PySem.W.Frag) : OpD (fun x y H Q => rNotInD K x y H Q ∨ rIn K true x y H Q) (fIn true) := by
  intro O H v1 v2 d1 d2 d Q fr b1 b2 e q
  unfold fIn at e
  split at e
  · split at e
    · rename_i ds hz
      cases e
      exact .inl ⟨_, _, b1.toDpS hz.1, b2.toDpS hz.2, hz.1, hz.2, q _ H (Ext.refl H) (.bl _)⟩
    · cases e
  · split at e
    · rename_i ds hz
      cases e
      obtain ⟨p, xs, rfl, h, n, r⟩ := b2.tuple
      have r1 : FR O H v1 d1 := by
        cases b1 with
        | fr q => exact q
        | ol _ _ => cases hz.1
      refine .inr ⟨p, xs, rfl, .inr (SqT.of h), r1.flat hz.1, r.flat hz.2, ?_⟩
      rw [FRs.inV r1 hz.1 r hz.2]
      exact q _ H (Ext.refl H) (.bl _)
    · cases e
  · cases e
theorem op_notInE {X : Cx} (hu : X.A.units + 65 < cLine) : OpR X (compareOp .NotIn) (fun x y H Q => rNotInD X.K x y H Q ∨ rIn X.K true x y H Q) := (op_notInD hu).or op_notIn_seq
def fIsB (neg : Bool) : PyData → PyData → Option PyData
  | .bool a, .bool b => some (.bool (if neg then !decide (a = b) else decide (a = b)))
  | _, _ => none
theorem isNotBD : OpD rNotB (fIsB true) := by
  intro O H v1 v2 d1 d2 d Q fr b1 b2 e q
  unfold fIsB at e
  split at e
  · cases e
    exact ⟨_, _, b1.bool, b2.bool, q _ H (Ext.refl H) (.bl _)⟩
  · cases e

def fIx : PyData → PyData → Option PyData
  | .list ds, .int i => atI ds i
  | .tuple ds, .int i => atI ds i
  | .str z, .int i => if z.length ≤ LINE then (atI z.cps.toList i).map fun c => .str ⟨#[c]⟩ else none
  | _, _ => none
theorem FRs.atI {O : Addr → Prop} {H : Hp} {vs : List V} {ds : List PyData} {i : Int} {d : PyData} (r : FRs O H vs ds) (e : L2.atI ds i = some d) : ∃ v, L2.atI vs i = some v ∧ FR O H v d := by
  unfold L2.atI at e ⊢
  rw [r.length]
  cases h : ixN ds.length i with
  | none => rw [h] at e; cases e
  | some j =>
    rw [h] at e
    exact r.get e
theorem ixD (K : PySem.W.Frag) : OpD (rIx K) fIx := by
  intro O H v1 v2 d1 d2 d Q fr b1 b2 e q
  unfold fIx at e
  split at e
  · obtain ⟨p, xs, rfl, h, r⟩ := b1.list
    obtain ⟨v, e1, e2⟩ := r.atI e
    exact .inl ⟨p, xs, _, v, rfl, b2.int, SqL.of h, e1, q _ H (Ext.refl H) e2⟩
  · obtain ⟨p, xs, rfl, h, n, r⟩ := b1.tuple
    obtain ⟨v, e1, e2⟩ := r.atI e
    exact .inr (.inl ⟨p, xs, _, v, rfl, b2.int, SqT.of h, e1, q _ H (Ext.refl H) e2⟩)
  · split at e
    · rename_i z i hz
      obtain ⟨c, e1, rfl⟩ := Option.map_eq_some_iff.mp e
      exact .inr (.inr ⟨z, i, c, b1.str, b2.int, le_line hz, e1, q _ H (Ext.refl H) (.str _)⟩)
    · cases e
  · cases e
end Pv
end
section
set_option Elab.async false
set_option linter.all false
set_option maxRecDepth 100000
set_option maxHeartbeats 4000000
set_option autoImplicit false
namespace Pv
open PySem PySem.Spec PyProof.Rows L2

abbrev Tx := Tab → Env → R Bool
abbrev rdT := rd (eqRel (α := Bool))
def fTru : PyData → Option Bool
  | .none => some false
  | .bool b => some b
  | .int i => some (i != 0)
  | .str z => if z.length ≤ LINE then some ((z.length : Int) != 0) else none
  | .list ds => some (!ds.isEmpty)
  | .tuple ds => some (!ds.isEmpty)
  | .dict kvs => some (!kvs.isEmpty)
theorem FRs.isEmpty {O : Addr → Prop} {H : Hp} {vs : List V} {ds : List PyData} (r : FRs O H vs ds) : vs.isEmpty = ds.isEmpty := by cases r <;> rfl
theorem BR.tru {K : PySem.W.Frag} {O : Addr → Prop} {H : Hp} {v : V} {d : PyData} {k : Bool} (b : BR O H v d) (e : fTru d = some k) : TruV K v H k := by
  cases d with
  | none => cases e; rw [b.none]; exact rfl
  | bool x => cases e; rw [b.bool]; exact rfl
  | int x => cases e; rw [b.int]; exact rfl
  | str z =>
    have e : (if z.length ≤ LINE then some ((z.length : Int) != 0) else Option.none) = some k := e
    split at e
    · rename_i hz
      cases e
      rw [b.str]
      exact ⟨le_line hz, rfl⟩
    · cases e
  | list ds =>
    cases e
    obtain ⟨a, xs, rfl, h, r⟩ := b.list
    exact .inl ⟨xs, SqL.of h, by rw [r.isEmpty]⟩
  | tuple ds =>
    cases e
    obtain ⟨a, xs, rfl, h, _, r⟩ := b.tuple
    exact .inr (.inl ⟨xs, SqT.of h, by rw [r.isEmpty]⟩)
  | dict kvs =>
    cases e
    obtain ⟨a, rfl, h, rfl⟩ := b.dict
    exact .inr (.inr ⟨[], h, rfl⟩)
def dTru (f : Ex) : Tx := fun T env => (f T env).bind fun w env1 => match (deref env1 w).bind fTru with
  | some k => .ok k env1
  | none => .bad
section
variable {X : Cx} {K : PySem.W.Frag} {wx : WX} {T : Tab}
/-- from a value's reading to a test's -/
theorem rd_tru {f : Ex} {σ : L2.St} {H : Hp} {Q : Bool → Hp → Prop} (h : rdT K wx T (dTru f) σ H Q) : rdE K wx T f σ H fun x H' => ∃ k, TruV K x H' k ∧ Q k H' := by
  obtain ⟨C, env, M, hK, r, p⟩ := h
  refine rd_bind hK r p fun w env1 v M1 H1 r1 s1 q1 p1 => ?_
  split at p1
  · rename_i k e
    obtain ⟨d, e1, e2⟩ := Option.bind_eq_some_iff.mp e
    exact ⟨k, (deref_br r1 q1 e1).tru e2, p1 k M1 H1 r1 (Step.refl _ _) rfl⟩
  · exact p1.elim
theorem pd_truth {f : Ex} {a : Expr} (hK : X.K = K) (ha : PE X a (rdE K wx T f)) (he : ∀ whole, isTrue a X.env whole = (do let v ← whole; standAt a.pos; holding [v] (truthy v))) : PT X a (rdT K wx T (dTru f)) := by
  subst hK
  exact ptImp (pt_truth ha he) fun σ H Q h => rd_tru h

/-- a test read as a value -/
def dOfT (f : Tx) : Ex := fun T env => (f T env).bind fun k e => .ok (.d (.bool k)) e
/-- the value of a bool-valued reading, from its test's -/
theorem ofT_rd {f : Tx} {σ : L2.St} {H : Hp} {Q : VK} (h : rdE K wx T (dOfT f) σ H Q) : rdT K wx T f σ H (fun k H' => Q (.bl k) H') := by
  obtain ⟨C, env, M, hK, r, p⟩ := h
  exact rd_bind hK r p fun k env1 k' M1 H1 r1 s1 q1 p1 => by
    have q1 : k = k' := q1
    subst q1
    exact p1 _ M1 H1 r1 (Step.refl _ _) (.bl k)
/-- a op b, a comparison whose answer is a bool -/
def dCmp (F : PyData → PyData → Option PyData) (f g : Ex) : Tx := fun T env =>
  (f T env).bind fun w1 env1 => (g T env1).bind fun w2 env2 =>
    match deref env2 w1, deref env2 w2 with
    | some a, some b => (match F a b with
      | some (.bool k) => .ok k env2
      | _ => .bad)
    | _, _ => .bad
theorem tCmp_rd {a b : TE} {r : R2} {F : PyData → PyData → Option PyData} {f g : Ex} (hF : OpD r F) {σ : L2.St} {H : Hp} {Qb : Bool → Hp → Prop} {Q : VK} (h : rdT K wx T (dCmp F f g) σ H Qb) (hQ : ∀ k H', Qb k H' → Q (.bl k) H')
    (ha : ∀ σ H Q, rdE K wx T f σ H Q → a σ H Q) (hb : ∀ σ H Q, rdE K wx T g σ H Q → b σ H Q) : tOp r a b σ H Q := by
  obtain ⟨C, env, M, hK, rp, p⟩ := h
  refine ha _ _ _ (rd_bind hK rp p fun w1 env1 v1 M1 H1 r1 s1 q1 p1 => ?_)
  refine hb _ _ _ (rd_bind hK r1 p1 fun w2 env2 v2 M2 H2 r2 s2 q2 p2 => ?_)
  split at p2
  · rename_i x y e1 e2
    split at p2
    · rename_i k ed
      refine hF (C.O M2) H2 v1 v2 x y _ Q (fun p n => r2.fresh n) (deref_br r2 (q1.step (env' := env2) s2) e1) (deref_br r2 q2 e2) ed fun v H' ex fr => ?_
      cases fr
      exact hQ _ _ (p2 k M2 H' (r2.ext ex) (Step.ext ex) rfl)
    · exact p2.elim
  · exact p2.elim
theorem pdt_cmp {op : CmpOp} {r : R2} {F : PyData → PyData → Option PyData} {f g : Ex} {a b : Expr} {pos : Pos} (ho : OpR X (compareOp op) r) (hF : OpD r F) (ha : PE X a (rdE K wx T f)) (hb : PE X b (rdE K wx T g)) (hm : behindInMarks op b = false) :
    PT X (.Compare a [op] [b] pos) (rdT K wx T (dCmp F f g)) :=
  ptImp (pt_cmpR ho ha hb hm) fun σ H Q h => tCmp_rd hF h (fun k H' q => ⟨k, rfl, q⟩) (fun _ _ _ z => z) (fun _ _ _ z => z)
theorem pd_cmp {op : CmpOp} {r : R2} {F : PyData → PyData → Option PyData} {f g : Ex} {a b : Expr} {pos : Pos} (ho : OpR X (compareOp op) r) (hF : OpD r F) (ha : PE X a (rdE K wx T f)) (hb : PE X b (rdE K wx T g)) (hm : behindInMarks op b = false) :
    PE X (.Compare a [op] [b] pos) (rdE K wx T (dOfT (dCmp F f g))) :=
  peImp (pe_cmpR ho ha hb hm) fun σ H Q h => tCmp_rd hF (ofT_rd h) (fun k H' q => q) (fun _ _ _ z => z) (fun _ _ _ z => z)

/-- a op b op' c -/
def dChain (F F' : PyData → PyData → Option PyData) (f g h : Ex) : Tx := fun T env =>
  (f T env).bind fun w1 e1 => (g T e1).bind fun w2 e2 =>
    match deref e2 w1, deref e2 w2 with
    | some a, some b => (match F a b with
      | some (.bool true) => (h T e2).bind fun w3 e3 =>
        (match deref e3 w2, deref e3 w3 with
        | some b', some c => (match F' b' c with
          | some (.bool k) => .ok k e3
          | _ => .bad)
        | _, _ => .bad)
      | some (.bool false) => .ok false e2
      | _ => .bad)
    | _, _ => .bad
theorem tChain_rd {a b c : TE} {r r' : R2} {F F' : PyData → PyData → Option PyData} {f g h : Ex} (hF : OpD r F) (hF' : OpD r' F') {σ : L2.St} {H : Hp} {Qb : Bool → Hp → Prop} {Q : VK} (q : rdT K wx T (dChain F F' f g h) σ H Qb) (hQ : ∀ k H', Qb k H' → Q (.bl k) H')
    (ha : ∀ σ H Q, rdE K wx T f σ H Q → a σ H Q) (hb : ∀ σ H Q, rdE K wx T g σ H Q → b σ H Q) (hc : ∀ σ H Q, rdE K wx T h σ H Q → c σ H Q) : tChain r r' a b c σ H Q := by
  obtain ⟨C, env, M, hK, rp, p⟩ := q
  refine ha _ _ _ (rd_bind hK rp p fun w1 env1 v1 M1 H1 r1 s1 q1 p1 => ?_)
  refine hb _ _ _ (rd_bind hK r1 p1 fun w2 env2 v2 M2 H2 r2 s2 q2 p2 => ?_)
  split at p2
  · rename_i x y e1 e2
    have b1 := deref_br r2 (q1.step (env' := env2) s2) e1
    have b2 := deref_br r2 q2 e2
    split at p2
    · rename_i ed
      refine hF (C.O M2) H2 v1 v2 x y _ _ (fun p n => r2.fresh n) b1 b2 ed fun v H' ex fr => ?_
      cases fr
      have s3 : Step M2 H2 M2 H' := Step.ext ex
      refine ⟨true, rfl, ?_⟩
      rw [if_pos rfl]
      refine hc _ _ _ (rd_bind hK (r2.ext ex) (Post.later p2 s3) fun w3 env3 v3 M3 H3 r3 s4 q3 p3 => ?_)
      split at p3
      · rename_i b' c' e3 e4
        split at p3
        · rename_i k ek
          refine hF' (C.O M3) H3 v2 v3 b' c' _ _ (fun p n => r3.fresh n) (deref_br r3 ((q2.step (env' := env2) s3).step (env' := env3) s4) e3) (deref_br r3 q3 e4) ek fun v H' ex fr => ?_
          cases fr
          exact hQ _ _ (p3 k M3 H' (r3.ext ex) (Step.ext ex) rfl)
        · exact p3.elim
      · exact p3.elim
    · rename_i ed
      refine hF (C.O M2) H2 v1 v2 x y _ _ (fun p n => r2.fresh n) b1 b2 ed fun v H' ex fr => ?_
      cases fr
      refine ⟨false, rfl, ?_⟩
      rw [if_neg Bool.false_ne_true]
      exact hQ _ _ (p2 false M2 H' (r2.ext ex) (Step.ext ex) rfl)
    · exact p2.elim
  · exact p2.elim
theorem pdt_chain {op op' : CmpOp} {r r' : R2} {F F' : PyData → PyData → Option PyData} {f g h : Ex} {a b c : Expr} {pos : Pos} (ho : OpR X (compareOp op) r) (ho' : OpR X (compareOp op') r') (hF : OpD r F) (hF' : OpD r' F')
    (ha : PE X a (rdE K wx T f)) (hb : PE X b (rdE K wx T g)) (hc : PE X c (rdE K wx T h)) (hm : lastMarks [op, op'] [b, c] = false) : PT X (.Compare a [op, op'] [b, c] pos) (rdT K wx T (dChain F F' f g h)) :=
  ptImp (pt_chain ho ho' ha hb hc hm) fun σ H Q q => tChain_rd hF hF' q (fun k H' z => ⟨k, rfl, z⟩) (fun _ _ _ z => z) (fun _ _ _ z => z) (fun _ _ _ z => z)
theorem pd_chain {op op' : CmpOp} {r r' : R2} {F F' : PyData → PyData → Option PyData} {f g h : Ex} {a b c : Expr} {pos : Pos} (ho : OpR X (compareOp op) r) (ho' : OpR X (compareOp op') r') (hF : OpD r F) (hF' : OpD r' F')
    (ha : PE X a (rdE K wx T f)) (hb : PE X b (rdE K wx T g)) (hc : PE X c (rdE K wx T h)) (hm : lastMarks [op, op'] [b, c] = false) : PE X (.Compare a [op, op'] [b, c] pos) (rdE K wx T (dOfT (dChain F F' f g h))) :=
  peImp (pe_chain ho ho' ha hb hc hm) fun σ H Q q => tChain_rd hF hF' (ofT_rd q) (fun k H' z => z) (fun _ _ _ z => z) (fun _ _ _ z => z) (fun _ _ _ z => z)

/-- x is None, x is not None -/
def dIsN (neg : Bool) (f : Ex) : Tx := fun T env => (f T env).bind fun w e => match deref e w with
  | some .none => .ok (!neg) e
  | some _ => .ok neg e
  | none => .bad
theorem BR.isN {O : Addr → Prop} {H : Hp} {v : V} {d : PyData} (b : BR O H v d) (h : d ≠ .none) : decide (v = .non) = false := by
  cases b with
  | fr q => cases q <;> first | exact absurd rfl h | rfl
  | ol _ _ => rfl
theorem isN_rd {f : Ex} {neg : Bool} {σ : L2.St} {H : Hp} {Qb : Bool → Hp → Prop} {Q : VK} (h : rdT K wx T (dIsN neg f) σ H Qb) (hQ : ∀ k H', Qb k H' → Q (.bl k) H') : rdE K wx T f σ H (fun x H1 => Q (.bl (if neg then !decide (x = .non) else decide (x = .non))) H1) := by
  obtain ⟨C, env, M, hK, rp, p⟩ := h
  refine rd_bind hK rp p fun w env1 v M1 H1 r1 s1 q1 p1 => ?_
  split at p1
  · rename_i e
    rw [(deref_br r1 q1 e).none]
    have z := p1 _ M1 H1 r1 (Step.refl _ _) rfl
    cases neg <;> exact hQ _ _ z
  · rename_i d hne e
    rw [(deref_br r1 q1 e).isN hne]
    have z := p1 _ M1 H1 r1 (Step.refl _ _) rfl
    cases neg <;> exact hQ _ _ z
  · exact p1.elim
theorem pd_isN {f : Ex} {a : Expr} {j : Nat} {pos pos' : Pos} (ha : PE X a (rdE K wx T f)) : PE X (.Compare a [.Is] [.Constant .none j pos'] pos) (rdE K wx T (dOfT (dIsN false f))) :=
  peImp (pe_cmp (pc_isN ha) rfl) fun σ H Q h => isN_rd (ofT_rd h) fun _ _ z => z
theorem pdt_isN {f : Ex} {a : Expr} {j : Nat} {pos pos' : Pos} (ha : PE X a (rdE K wx T f)) : PT X (.Compare a [.Is] [.Constant .none j pos'] pos) (rdT K wx T (dIsN false f)) :=
  ptImp (pt_cmp (pc_isN ha) rfl) fun σ H Q h => isN_rd (Q := fun x H' => ∃ c, x = .bl c ∧ Q c H') h fun k H' z => ⟨k, rfl, z⟩
def dAnd (f g : Ex) : Ex := fun T env => (f T env).bind fun w e => match (deref e w).bind fTru with
  | some true => g T e
  | some false => .ok w e
  | none => .bad
def dOr (f g : Ex) : Ex := fun T env => (f T env).bind fun w e => match (deref e w).bind fTru with
  | some true => .ok w e
  | some false => g T e
  | none => .bad
theorem pd_and {f g : Ex} {a b : Expr} {rest : List Expr} {pos : Pos} (hK : X.K = K) (ha : PE X a (rdE K wx T f)) (hb : PE X (.BoolOp .And (b :: rest) pos) (rdE K wx T g)) : PE X (.BoolOp .And (a :: b :: rest) pos) (rdE K wx T (dAnd f g)) := by
  subst hK
  refine peImp (pe_andT ha hb) fun σ H Q h => ?_
  obtain ⟨C, env, M, hK, rp, p⟩ := h
  refine rd_bind hK rp p fun w env1 v M1 H1 r1 s1 q1 p1 => ?_
  split at p1
  · rename_i e
    obtain ⟨d, e1, e2⟩ := Option.bind_eq_some_iff.mp e
    exact ⟨true, (deref_br r1 q1 e1).tru e2, by rw [if_pos rfl]; exact ⟨C, env1, M1, hK, r1, p1⟩⟩
  · rename_i e
    obtain ⟨d, e1, e2⟩ := Option.bind_eq_some_iff.mp e
    exact ⟨false, (deref_br r1 q1 e1).tru e2, by rw [if_neg Bool.false_ne_true]; exact p1 v M1 H1 r1 (Step.refl _ _) q1⟩
  · exact p1.elim
theorem pd_or {f g : Ex} {a b : Expr} {rest : List Expr} {pos : Pos} (hK : X.K = K) (ha : PE X a (rdE K wx T f)) (hb : PE X (.BoolOp .Or (b :: rest) pos) (rdE K wx T g)) : PE X (.BoolOp .Or (a :: b :: rest) pos) (rdE K wx T (dOr f g)) := by
  subst hK
  refine peImp (pe_orT ha hb) fun σ H Q h => ?_
  obtain ⟨C, env, M, hK, rp, p⟩ := h
  refine rd_bind hK rp p fun w env1 v M1 H1 r1 s1 q1 p1 => ?_
  split at p1
  · rename_i e
    obtain ⟨d, e1, e2⟩ := Option.bind_eq_some_iff.mp e
    exact ⟨true, (deref_br r1 q1 e1).tru e2, by rw [if_pos rfl]; exact p1 v M1 H1 r1 (Step.refl _ _) q1⟩
  · rename_i e
    obtain ⟨d, e1, e2⟩ := Option.bind_eq_some_iff.mp e
    exact ⟨false, (deref_br r1 q1 e1).tru e2, by rw [if_neg Bool.false_ne_true]; exact ⟨C, env1, M1, hK, r1, p1⟩⟩
  · exact p1.elim
def dAndT (f g : Tx) : Tx := fun T env => (f T env).bind fun k e => if k = true then g T e else .ok false e
def dOrT (f g : Tx) : Tx := fun T env => (f T env).bind fun k e => if k = true then .ok true e else g T e
def dNotT (f : Tx) : Tx := fun T env => (f T env).bind fun k e => .ok (!k) e
theorem ptw_imp {e : Expr} {t t' : TT} (h : PW X e t) (k : ∀ σ H Q, t' σ H Q → t σ H Q) : PW X e t' := ⟨fun wh pins s σ H Q I q => h.run wh pins s σ H Q I (k σ H Q q)⟩
theorem pdw_and {f g : Tx} {a b : Expr} {rest : List Expr} {pos : Pos} (ha : PT X a (rdT K wx T f)) (hb : PW X (.BoolOp .And (b :: rest) pos) (rdT K wx T g)) : PW X (.BoolOp .And (a :: b :: rest) pos) (rdT K wx T (dAndT f g)) := by
  refine ptw_imp (pw_and ha hb) fun σ H Q h => ?_
  obtain ⟨C, env, M, hK, rp, p⟩ := h
  refine rd_bind hK rp p fun w env1 v M1 H1 r1 s1 q1 p1 => ?_
  have q1 : w = v := q1
  subst q1
  cases w with
  | true => rw [if_pos rfl] at p1 ⊢; exact ⟨C, env1, M1, hK, r1, p1⟩
  | false => rw [if_neg Bool.false_ne_true] at p1 ⊢; exact p1 false M1 H1 r1 (Step.refl _ _) rfl
theorem pdw_or {f g : Tx} {a b : Expr} {rest : List Expr} {pos : Pos} (ha : PT X a (rdT K wx T f)) (hb : PW X (.BoolOp .Or (b :: rest) pos) (rdT K wx T g)) : PW X (.BoolOp .Or (a :: b :: rest) pos) (rdT K wx T (dOrT f g)) := by
  refine ptw_imp (pw_or ha hb) fun σ H Q h => ?_
  obtain ⟨C, env, M, hK, rp, p⟩ := h
  refine rd_bind hK rp p fun w env1 v M1 H1 r1 s1 q1 p1 => ?_
  have q1 : w = v := q1
  subst q1
  cases w with
  | true => rw [if_pos rfl] at p1 ⊢; exact p1 true M1 H1 r1 (Step.refl _ _) rfl
  | false => rw [if_neg Bool.false_ne_true] at p1 ⊢; exact ⟨C, env1, M1, hK, r1, p1⟩
theorem pdt_not {f : Tx} {a : Expr} {pos : Pos} (ha : PT X a (rdT K wx T f)) : PT X (.UnaryOp .Not a pos) (rdT K wx T (dNotT f)) := by
  refine ptImp (pt_not ha) fun σ H Q h => ?_
  obtain ⟨C, env, M, hK, rp, p⟩ := h
  refine rd_bind hK rp p fun w env1 v M1 H1 r1 s1 q1 p1 => ?_
  have q1 : w = v := q1
  subst q1
  exact p1 (!w) M1 H1 r1 (Step.refl _ _) rfl
theorem pd_not {f : Ex} {a : Expr} {pos : Pos} (hK : X.K = K) (ha : PE X a (rdE K wx T f)) : PE X (.UnaryOp .Not a pos) (rdE K wx T (dOfT (dNotT (dTru f)))) := by
  subst hK
  refine peImp (pe_notT ha) fun σ H Q h => ?_
  have h1 := ofT_rd h
  obtain ⟨C, env, M, hK, rp, p⟩ := h1
  have h2 : rdT X.K wx T (dTru f) σ H (fun k H' => Q (.bl (!k)) H') := rd_bind hK rp p fun w env1 v M1 H1 r1 s1 q1 p1 => by
    have q1 : w = v := q1
    subst q1
    exact p1 (!w) M1 H1 r1 (Step.refl _ _) rfl
  exact rd_tru h2
def dIf {α : Type} (c : Tx) (f g : Tab → Env → R α) : Tab → Env → R α := fun T env => (c T env).bind fun k e => if k = true then f T e else g T e
theorem pd_ifExp {c : Tx} {f g : Ex} {ec ea eb : Expr} {pos : Pos} (hc : PT X ec (rdT K wx T c)) (ha : PE X ea (rdE K wx T f)) (hb : PE X eb (rdE K wx T g)) : PE X (.IfExp ec ea eb pos) (rdE K wx T (dIf c f g)) := by
  refine peImp (pe_ifExp hc ha hb) fun σ H Q h => ?_
  obtain ⟨C, env, M, hK, rp, p⟩ := h
  refine rd_bind hK rp p fun w env1 v M1 H1 r1 s1 q1 p1 => ?_
  have q1 : w = v := q1
  subst q1
  cases w with
  | true => rw [if_pos rfl] at p1 ⊢; exact ⟨C, env1, M1, hK, r1, p1⟩
  | false => rw [if_neg Bool.false_ne_true] at p1 ⊢; exact ⟨C, env1, M1, hK, r1, p1⟩

abbrev Ax := Tab → Env → R (List W)
def WRs : Rel (List W) (List V) := fun C M H σ env ws vs => Paired (WR C M H σ env) ws vs
abbrev rdA := rd WRs
def dNil : Ax := fun _ env => .ok [] env
def dCons (f : Ex) (g : Ax) : Ax := fun T env => (f T env).bind fun w e => (g T e).bind fun ws e' => .ok (w :: ws) e'
theorem pairedMono {α β : Type} {F G : α → β → Prop} (h : ∀ a b, F a b → G a b) : ∀ {xs : List α} {ys : List β}, Paired F xs ys → Paired G xs ys
  | _, _, .nil => .nil
  | _, _, .cons r t => .cons (h _ _ r) (pairedMono h t)
theorem WRs.step {C : Cc} {M M' : Addr → Prop} {H H' : Hp} {σ : L2.St} {env env' : Env} {w : List W} {v : List V} (s : Step M H M' H') (r : WRs C M H σ env w v) : WRs C M' H' σ env' w v := pairedMono (fun _ _ q => WR.step s q) r
theorem pda_nil : PA X [] (rdA K wx T dNil) := paImp pa_nil fun σ H Q h => by
  obtain ⟨C, env, M, hK, rp, p⟩ := h
  exact p [] M H rp (Step.refl _ _) .nil
theorem pda_cons {e : Expr} {es : List Expr} {f : Ex} {g : Ax} (ha : PE X e (rdE K wx T f)) (hr : PA X es (rdA K wx T g)) (hs : starEach (e :: es) X.env = (false, eval e X.env) :: starEach es X.env) : PA X (e :: es) (rdA K wx T (dCons f g)) := by
  refine paImp (pa_cons ha hr hs) fun σ H Q h => ?_
  obtain ⟨C, env, M, hK, rp, p⟩ := h
  refine rd_bind hK rp p fun w env1 v M1 H1 r1 s1 q1 p1 => ?_
  refine rd_bind hK r1 p1 fun ws env2 vs M2 H2 r2 s2 q2 p2 => ?_
  exact p2 (v :: vs) M2 H2 r2 (Step.refl _ _) (.cons (q1.step s2) q2)
def derefs (env : Env) : List W → Option (List PyData)
  | [] => some []
  | w :: ws => (deref env w).bind fun d => (derefs env ws).map fun ds => d :: ds
inductive BRs (O : Addr → Prop) (H : Hp) : List V → List PyData → Prop
  | nil : BRs O H [] []
  | cons {v : V} {vs : List V} {d : PyData} {ds : List PyData} : BR O H v d → BRs O H vs ds → BRs O H (v :: vs) (d :: ds)
theorem derefs_br {C : Cc} {M : Addr → Prop} {H : Hp} {σ : L2.St} {env env' : Env} (r : Rep C M H σ env) : ∀ {ws : List W} {vs : List V} {ds : List PyData}, WRs C M H σ env' ws vs → derefs env ws = some ds → BRs (C.O M) H vs ds
  | _, _, ds, .nil, e => by cases e; exact .nil
  | w :: ws, v :: vs, ds, .cons q t, e => by
    have e : ((deref env w).bind fun d => (derefs env ws).map fun ds => d :: ds) = some ds := e
    obtain ⟨d, e1, e2⟩ := Option.bind_eq_some_iff.mp e
    obtain ⟨ds', e3, rfl⟩ := Option.map_eq_some_iff.mp e2
    exact .cons (deref_br r q e1) (derefs_br r t e3)
/-- a rule of a call by values serves F -/
def CallD (r : List V → Hp → VK → Prop) (F : List PyData → Option PyData) : Prop :=
  ∀ (O : Addr → Prop) (H : Hp) (vs : List V) (ds : List PyData) (d : PyData) (Q : VK), (∀ p, H p = none → ¬ O p) → BRs O H vs ds → F ds = some d → (∀ v H', Ext H H' → FR O H' v d → Q v H') → r vs H Q
def dCall (F : List PyData → Option PyData) (g : Ax) : Ex := fun T env => (g T env).bind fun ws e => match (derefs e ws).bind F with
  | some d => .ok (.d d) e
  | none => .bad
theorem call_rd {r : List V → Hp → VK → Prop} {F : List PyData → Option PyData} {g : Ax} (hF : CallD r F) {σ : L2.St} {H : Hp} {Q : VK} (h : rdE K wx T (dCall F g) σ H Q) : rdA K wx T g σ H fun vs H1 => r vs H1 Q := by
  obtain ⟨C, env, M, hK, rp, p⟩ := h
  refine rd_bind hK rp p fun ws env1 vs M1 H1 r1 s1 q1 p1 => ?_
  split at p1
  · rename_i d e
    obtain ⟨ds, e1, e2⟩ := Option.bind_eq_some_iff.mp e
    exact hF (C.O M1) H1 vs ds d Q (fun p n => r1.fresh n) (derefs_br r1 q1 e1) e2 fun v H' ex fr => p1 v M1 H' (r1.ext ex) (Step.ext ex) fr
  · exact p1.elim
theorem pd_callB {id : String} {r : List V → Hp → VK → Prop} {F : List PyData → Option PyData} {x : Str} {p pos : Pos} {e : Expr} {es : List Expr} {g : Ax} (hc : CallR X (.builtin id) r) (hF : CallD r F) (hg : Gl X x) (hm : X.mg x = none) (hv : bootBuiltins x = some (.builtin id)) (ha : PA X (e :: es) (rdA K wx T g)) (hn : x ≠ "__name__") (hdb : (x == ("__debug__" : Str)) = false)
    (he : starEach (e :: es) X.env = (false, eval e X.env) :: starEach es X.env) (hpl : (backTo pos (starEach es X.env)).any (·.1) = false) : PE X (.Call (.Name x p) (e :: es) [] pos) (rdE K wx T (dCall F g)) :=
  peImp (pe_callB hc hg hm hv ha hn hdb he hpl) fun σ H Q h => call_rd hF h
theorem pd_callTy {id : String} {r : List V → Hp → VK → Prop} {F : List PyData → Option PyData} {x : Str} {p pos : Pos} {e : Expr} {es : List Expr} {g : Ax} (hc : CallR X (.type id) r) (hF : CallD r F) (hg : Gl X x) (hm : X.mg x = none) (hv : bootBuiltins x = some (.type id)) (ha : PA X (e :: es) (rdA K wx T g)) (hn : x ≠ "__name__") (hdb : (x == ("__debug__" : Str)) = false)
    (he : starEach (e :: es) X.env = (false, eval e X.env) :: starEach es X.env) (hpl : (backTo pos (starEach es X.env)).any (·.1) = false) : PE X (.Call (.Name x p) (e :: es) [] pos) (rdE K wx T (dCall F g)) :=
  peImp (pe_callTy hc hg hm hv ha hn hdb he hpl) fun σ H Q h => call_rd hF h
end
end Pv
end
section
set_option Elab.async false
set_option linter.all false
set_option maxRecDepth 100000
set_option maxHeartbeats 4000000
set_option autoImplicit false
namespace Pv
open PySem PySem.Spec PyProof.Rows L2

def takeW (env : Env) : W → Option (PyData × Env)
  | .d d => some (d, env)
  | .sl i => match env[i]? with
    | some (.own false d) => some (d, env.set i .un)
    | _ => none
def takes (env : Env) : List W → Option (List PyData × Env)
  | [] => some ([], env)
  | w :: ws => (takeW env w).bind fun p => (takes p.2 ws).map fun q => (p.1 :: q.1, q.2)
theorem Step.shrink {M M' : Addr → Prop} {H : Hp} (h : ∀ a, M' a → M a) : Step M H M' H := ⟨fun _ _ e _ => e, fun a m => .inl (h a m), fun _ e => e⟩
/-- an entry of a changed environment -/
theorem get_set {α : Type} {l : List α} {i j : Nat} {x y : α} (h : (l.set i x)[j]? = some y) : (j = i ∧ y = x) ∨ (j ≠ i ∧ l[j]? = some y) := by
  by_cases e : j = i
  · subst e
    have hl : j < l.length := by
      have := (List.getElem?_eq_some_iff.mp h).1
      simpa using this
    rw [List.getElem?_set_self hl] at h
    exact .inl ⟨rfl, (Option.some.inj h).symm⟩
  · rw [List.getElem?_set_ne (Ne.symm e)] at h
    exact .inr ⟨e, h⟩
theorem SVR.less {C : Cc} {M M' : Addr → Prop} {H : Hp} {i : Nat} {s : Option V} {sv : SV} (hM : ∀ a, M' a → M a) (r : SVR C M H i s sv) (ho : ∀ io d a, sv = .own io d → s = some (.ref a) → M a → M' a) : SVR C M' H i s sv := by
  have k : ∀ a o, H a = some o → ¬ C.O M a → H a = some o ∧ ¬ C.O M' a := fun a o e n => ⟨e, fun z => n (z.elim (fun m => .inl (hM a m)) .inr)⟩
  cases sv with
  | un => trivial
  | val d => obtain ⟨v, h1, h2⟩ := r; exact ⟨v, h1, FR.mono k _ _ h2⟩
  | own io d =>
    obtain ⟨v, h1, h2, h3⟩ := r
    cases h2 with
    | lst ha m rr => exact ⟨_, h1, .lst ha (ho io _ _ rfl h1 m) (FRs.mono k _ _ rr), h3⟩
  | scr ns =>
    obtain ⟨a, h1, h2⟩ := r
    refine ⟨a, h1, ?_⟩
    rcases h2 with ⟨h, n⟩ | h
    · exact .inl ⟨h, fun z => n (z.elim (fun m => .inl (hM a m)) .inr)⟩
    · exact .inr h
theorem take_ok {C : Cc} {M : Addr → Prop} {H : Hp} {σ : L2.St} {env env1 env' : Env} {w : W} {v : V} {d : PyData} (r : Rep C M H σ env) (q : WR C M H σ env' w v) (e : takeW env w = some (d, env1)) :
    ∃ M1, Rep C M1 H σ env1 ∧ (∀ a, M1 a → M a) ∧ FR (C.O M1) H v d := by
  cases w with
  | d x =>
    cases e
    exact ⟨M, r, fun _ m => m, q⟩
  | sl i =>
    have e : (match env[i]? with | some (.own false d) => some (d, env.set i .un) | _ => none) = some (d, env1) := e
    split at e
    · rename_i d' hi
      cases e
      obtain ⟨s, h1, v', h2, h3, _⟩ := r.at_ i _ hi
      have q : σ[i]? = some (some v) := q
      rw [h1, h2] at q
      cases q
      cases h3 with
      | @lst a xs ds ha m rr =>
        have hM : ∀ b, (M b ∧ b ≠ a) → M b := fun b z => z.1
        refine ⟨fun b => M b ∧ b ≠ a, ⟨by simpa using r.len, fun j sv hj => ?_, fun j k b bj bk dj dk hjk ej ek sj sk => ?_, fun b z => r.live b z.1, r.fg, fun b f z => r.apart b f z.1⟩, hM, .lst ha (fun z => z.elim (fun m => m.2 rfl) fun f => r.apart a f m) (FRs.mono (fun b o e n => ⟨e, fun z => n (z.elim (fun m => .inl m.1) .inr)⟩) _ _ rr)⟩
        · rcases get_set hj with ⟨rfl, rfl⟩ | ⟨hne, hj⟩
          · exact ⟨s, h1, trivial⟩
          · obtain ⟨s', e1, e2⟩ := r.at_ j sv hj
            refine ⟨s', e1, e2.less hM fun io d b esv es mb => ⟨mb, fun z => ?_⟩⟩
            subst z
            subst esv
            exact r.sep j i b io false d (.list ds) hne hj hi (by rw [e1, es]) (by rw [h1, h2])
        · rcases get_set ej with ⟨_, z⟩ | ⟨_, ej⟩
          · cases z
          · rcases get_set ek with ⟨_, z⟩ | ⟨_, ek⟩
            · cases z
            · exact r.sep j k b bj bk dj dk hjk ej ek sj sk
    · cases e
theorem takes_ok {C : Cc} {H : Hp} {σ : L2.St} {env' : Env} : ∀ {ws : List W} {vs : List V} {M : Addr → Prop} {env env1 : Env} {ds : List PyData}, Rep C M H σ env → WRs C M H σ env' ws vs → takes env ws = some (ds, env1) →
    ∃ M1, Rep C M1 H σ env1 ∧ (∀ a, M1 a → M a) ∧ FRs (C.O M1) H vs ds
  | _, _, M, env, env1, ds, r, .nil, e => by
    cases e
    exact ⟨M, r, fun _ m => m, .nil⟩
  | w :: ws, v :: vs, M, env, env1, ds, r, .cons q t, e => by
    have e : ((takeW env w).bind fun p => (takes p.2 ws).map fun q => (p.1 :: q.1, q.2)) = some (ds, env1) := e
    obtain ⟨⟨d, e2⟩, h1, h2⟩ := Option.bind_eq_some_iff.mp e
    obtain ⟨⟨ds', e3⟩, h3, h4⟩ := Option.map_eq_some_iff.mp h2
    cases h4
    obtain ⟨M1, r1, l1, f1⟩ := take_ok r q h1
    obtain ⟨M2, r2, l2, f2⟩ := takes_ok r1 (WRs.step (env' := env') (Step.shrink l1) t) h3
    exact ⟨M2, r2, fun a m => l1 a (l2 a m), .cons (FR.mono (fun b o e n => ⟨e, fun z => n (z.elim (fun m => .inl (l2 b m)) .inr)⟩) _ _ f1) f2⟩

abbrev Fx := Tab → Env → R (List PyData)
/-- a new list at p, this frame's own from now on, in no slot -/
def WF : Rel (List PyData) V := fun C M H σ env ds v => ∃ p xs M0, v = .ref p ∧ H p = some (.lst xs) ∧ FRs (C.O M) H xs ds ∧ ¬ C.O M0 p ∧ (∀ a, M a ↔ M0 a ∨ a = p) ∧ Rep C M0 H σ env
abbrev rdF := rd WF
theorem rep_new {C : Cc} {M : Addr → Prop} {H : Hp} {σ : L2.St} {env : Env} {p : Addr} {xs : List V} {ds : List PyData} (r : Rep C M H σ env) (n : H p = none) (f : FRs (C.O M) H xs ds) :
    Rep C (fun a => M a ∨ a = p) (upd H p (.lst xs)) σ env ∧ Step M H (fun a => M a ∨ a = p) (upd H p (.lst xs)) ∧ WF C (fun a => M a ∨ a = p) (upd H p (.lst xs)) σ env ds (.ref p) := by
  have nOp : ¬ C.O M p := r.fresh n
  have k : ∀ a o, H a = some o → ¬ C.O M a → upd H p (.lst xs) a = some o ∧ ¬ C.O (fun a => M a ∨ a = p) a := fun a o e na =>
    ⟨Ext.upd n a o e, fun z => z.elim (fun m => m.elim (fun m => na (.inl m)) fun z => by subst z; rw [n] at e; cases e) fun f => na (.inr f)⟩
  have R1 : Rep C (fun a => M a ∨ a = p) (upd H p (.lst xs)) σ env := by
    refine ⟨r.len, fun i sv h => ?_, r.sep, fun a m => ?_, fun a f => ?_, fun a f z => z.elim (r.apart a f) fun z => nOp (by subst z; exact .inr f)⟩
    · obtain ⟨s, h1, h2⟩ := r.at_ i sv h
      refine ⟨s, h1, ?_⟩
      cases sv with
      | un => trivial
      | val d => obtain ⟨v, e1, e2⟩ := h2; exact ⟨v, e1, FR.mono k _ _ e2⟩
      | own io d =>
        obtain ⟨v, e1, e2, e3⟩ := h2
        cases e2 with
        | lst ha m rr => exact ⟨_, e1, .lst (Ext.upd n _ _ ha) (.inl m) (FRs.mono k _ _ rr), e3⟩
      | scr ns =>
        obtain ⟨a, e1, e2⟩ := h2
        refine ⟨a, e1, ?_⟩
        rcases e2 with ⟨h, na⟩ | h
        · refine .inl ?_
          rcases h with h | ⟨o, h⟩
          · exact ⟨.inl (k _ _ h na).1, (k _ _ h na).2⟩
          · exact ⟨.inr ⟨o, (k _ _ h na).1⟩, (k _ _ h na).2⟩
        · exact .inr h
    · rcases m with m | rfl
      · obtain ⟨ys, e⟩ := r.live a m
        exact ⟨ys, Ext.upd n a _ e⟩
      · exact ⟨xs, upd_same⟩
    · cases q : H a with
      | none => exact absurd q (r.fg a f)
      | some o => rw [Ext.upd n a o q]; simp
  refine ⟨R1, ⟨fun a o e _ => Ext.upd n a o e, fun a m => m.elim .inl fun z => .inr (by subst z; exact n), fun a e => ?_⟩, p, xs, M, rfl, upd_same, FRs.mono k _ _ f, nOp, fun a => Iff.rfl, r.ext (Ext.upd n)⟩
  cases q : H a with
  | none => exact absurd q e
  | some o => rw [Ext.upd n a o q]; simp
/-- a new list as a frozen value -/
def fz (f : Fx) : Ex := fun T env => (f T env).bind fun ds e => .ok (.d (.list ds)) e
section
variable {X : Cx} {K : PySem.W.Frag} {wx : WX} {T : Tab}
theorem fz_rd {f : Fx} {σ : L2.St} {H : Hp} {Q : VK} (h : rdE K wx T (fz f) σ H Q) : rdF K wx T f σ H Q := by
  obtain ⟨C, env, M, hK, rp, p⟩ := h
  refine rd_bind hK rp p fun ds env1 v M1 H1 r1 s1 q1 p1 => ?_
  obtain ⟨q, xs, M0, rfl, hq, fr, nq, hM, r0⟩ := q1
  have l : ∀ a, M0 a → M1 a := fun a m => (hM a).mpr (.inl m)
  exact p1 _ M0 H1 r0 (Step.shrink l) (.lst hq nq (FRs.mono (fun b o e n => ⟨e, fun z => n (z.elim (fun m => .inl (l b m)) .inr)⟩) _ _ fr))
theorem pd_fz {e : Expr} {f : Fx} (h : PE X e (rdF K wx T f)) : PE X e (rdE K wx T (fz f)) := peImp h fun _ _ _ q => fz_rd q
/-- a rule that makes a new list of what is data -/
theorem new_rd {C : Cc} {M : Addr → Prop} {H : Hp} {σ : L2.St} {env : Env} {ds : List PyData} {xs : List V} {Q : VK} (r : Rep C M H σ env) (f : FRs (C.O M) H xs ds) (p : Post WF C wx σ M H (.ok ds env) Q) : ∀ l, H l = none → Q (.ref l) (upd H l (.lst xs)) := fun l n => by
  obtain ⟨r1, s1, w1⟩ := rep_new r n f
  exact p (.ref l) _ _ r1 s1 w1

def dTup (g : Ax) : Ex := fun T env => (g T env).bind fun ws e => match takes e ws with
  | some (ds, e') => if ds.length ≤ LINE then .ok (.d (.tuple ds)) e' else .bad
  | none => .bad
def dLst (g : Ax) : Fx := fun T env => (g T env).bind fun ws e => match takes e ws with
  | some (ds, e') => if ds.length ≤ LINE then .ok ds e' else .bad
  | none => .bad
theorem pd_tup {es : List Expr} {g : Ax} {k : Nat} {pos : Pos} (h : PA X es (rdA K wx T g)) : PE X (.Tuple es k pos) (rdE K wx T (dTup g)) := by
  refine peImp (pe_tup h) fun σ H Q q => ?_
  obtain ⟨C, env, M, hK, rp, p⟩ := q
  refine rd_bind hK rp p fun ws env1 vs M1 H1 r1 s1 q1 p1 => ?_
  split at p1
  · rename_i ds e' e
    split at p1
    · rename_i hz
      obtain ⟨M2, r2, l2, f2⟩ := takes_ok r1 q1 e
      have hl := f2.length
      refine ⟨le_line (by omega), fun l n => ?_⟩
      exact p1 _ M2 _ (r2.ext (Ext.upd n)) ((Step.shrink l2).trans (Step.ext (Ext.upd n))) (.tup upd_same (r2.fresh n) (f2.ext (Ext.upd n)))
    · exact p1.elim
  · exact p1.elim
theorem pd_lst {es : List Expr} {g : Ax} {pos : Pos} (h : PA X es (rdA K wx T g)) : PE X (.List es pos) (rdF K wx T (dLst g)) := by
  refine peImp (pe_lst h) fun σ H Q q => ?_
  obtain ⟨C, env, M, hK, rp, p⟩ := q
  refine rd_bind hK rp p fun ws env1 vs M1 H1 r1 s1 q1 p1 => ?_
  split at p1
  · rename_i ds e' e
    split at p1
    · rename_i hz
      obtain ⟨M2, r2, l2, f2⟩ := takes_ok r1 q1 e
      have hl := f2.length
      exact ⟨le_line (by omega), new_rd r2 f2 (Post.later p1 (Step.shrink l2))⟩
    · exact p1.elim
  · exact p1.elim
/-- {} -/
def dEmptyD : Ex := fun _ env => .ok (.d (.dict [])) env
theorem pd_dict {pos : Pos} : PE X (.Dict [] [] pos) (rdE K wx T dEmptyD) := by
  refine peImp pe_dnewK fun σ H Q q => ?_
  obtain ⟨C, env, M, hK, rp, p⟩ := q
  intro l n
  exact p _ M _ (rp.ext (Ext.upd n)) (Step.ext (Ext.upd n)) (.dic upd_same (rp.fresh n))
end
end Pv
end
section
set_option Elab.async false
set_option linter.all false
set_option maxRecDepth 100000
set_option maxHeartbeats 4000000
set_option autoImplicit false
namespace Pv
open PySem PySem.Spec PyProof.Rows L2

abbrev Mono (O : Addr → Prop) (H : Hp) (O' : Addr → Prop) (H' : Hp) : Prop := ∀ a o, H a = some o → ¬ O a → H' a = some o ∧ ¬ O' a
theorem Step.mono {C : Cc} {M M' : Addr → Prop} {H H' : Hp} (s : Step M H M' H') : Mono (C.O M) H (C.O M') H' := fun a o h n =>
  ⟨s.keep a o h fun m => n (.inl m), fun z => z.elim (fun m => (s.own a m).elim (fun m0 => n (.inl m0)) fun q => by rw [h] at q; cases q) fun f => n (.inr f)⟩
/-- the iterator gives these data, one behind the other, as long as what is not owned is kept -/
structure Walk (O : Addr → Prop) (H : Hp) (J : It) (ds : List PyData) : Prop where
  go : ∀ (O' : Addr → Prop) (H' : Hp) (i : Nat) (d : PyData), Mono O H O' H' → (∀ p, H' p = none → ¬ O' p) → ds[i]? = some d → J.go i H' ∧ ∀ x H'', J.yld i H' x H'' → Ext H' H'' ∧ FR O' H'' x d
  stop : ∀ (O' : Addr → Prop) (H' : Hp), Mono O H O' H' → J.stop ds.length H'
def WalkR : Rel (List PyData) It := fun C M H _ _ ds J => Walk (C.O M) H J ds
abbrev rdI := rd WalkR
theorem walk_list {K : PySem.W.Frag} {O : Addr → Prop} {H : Hp} {a : Addr} {xs : List V} {ds : List PyData} (h : H a = some (.lst xs)) (n : ¬ O a) (f : FRs O H xs ds) : Walk O H (Itl K a) ds where
  go := fun O' H' i d k fr e => by
    have h' := (k a _ h n).1
    obtain ⟨v, e1, e2⟩ := f.get e
    refine ⟨⟨xs, v, SqL.of h', e1⟩, fun x H'' y => ?_⟩
    obtain ⟨rfl, y⟩ := y
    have e3 := y xs (SqL.of h')
    rw [e1] at e3
    cases e3
    exact ⟨Ext.refl _, FR.mono k _ _ e2⟩
  stop := fun O' H' k => ⟨xs, SqL.of (k a _ h n).1, Nat.le_of_eq f.length⟩
theorem walk_tup {K : PySem.W.Frag} {O : Addr → Prop} {H : Hp} {a : Addr} {xs : List V} {ds : List PyData} (h : H a = some (.tup xs)) (n : ¬ O a) (f : FRs O H xs ds) : Walk O H (Itt K a) ds where
  go := fun O' H' i d k fr e => by
    have h' := (k a _ h n).1
    obtain ⟨v, e1, e2⟩ := f.get e
    refine ⟨⟨xs, v, SqT.of h', e1⟩, fun x H'' y => ?_⟩
    obtain ⟨rfl, y⟩ := y
    have e3 := y xs (SqT.of h')
    rw [e1] at e3
    cases e3
    exact ⟨Ext.refl _, FR.mono k _ _ e2⟩
  stop := fun O' H' k => ⟨xs, SqT.of (k a _ h n).1, Nat.le_of_eq f.length⟩
def rgD (lo : Int) (n : Nat) : List PyData := (List.range n).map fun (i : Nat) => .int (lo + (i : Int))
theorem rgD_length (lo : Int) (n : Nat) : (rgD lo n).length = n := by simp [rgD]
theorem walk_range {O : Addr → Prop} {H : Hp} (lo : Int) (n : Nat) : Walk O H (Itr lo n) (rgD lo n) where
  go := fun O' H' i d k fr e => by
    unfold rgD at e
    rw [List.getElem?_map] at e
    by_cases hi : i < n
    · rw [List.getElem?_range hi] at e
      cases e
      refine ⟨hi, fun x H'' y => ?_⟩
      obtain ⟨rfl, rfl⟩ := y
      exact ⟨Ext.refl _, .int _⟩
    · rw [List.getElem?_eq_none (by simpa using hi)] at e
      cases e
  stop := fun O' H' k => by
    rw [rgD_length]
    exact Nat.le_refl n

theorem it_list {X : Cx} {tg : Expr} {pins : List (Addr × Obj)} {σ : L2.St} {H : Hp} {s : Shared} {a : Addr} {xs : List V} {Rr : It → Hp → Prop} (I : Inv X pins σ H s) (hq : SqL X.K H a xs) (q : Rr (Itl X.K a) H) :
    wpAny (model X.prog X.w) X.A (pyIter (.ref a)) (PIE X pins σ tg Rr) X.xe s := by
  obtain ⟨its, rv, pl, _⟩ := I.list hq
  have fr := I.hok.fresh (Nat.le_refl s.heap.objs.size)
  exact wpAny_pyIter_list pl.isList ⟨s.heap.objs.size, [s.heap.objs.size], _, _, H, rfl, I.kept (t' := s.toks) fun b o e => Heap.get?_push_of_some _ e, turn_list a _, ⟨_, Heap.get?_push_size _ rfl, rfl, rfl⟩,
    fun b hb => by
      cases List.mem_singleton.mp hb
      exact I.fpOk (Nat.le_refl _) fr, q⟩
theorem it_tup {X : Cx} {tg : Expr} {pins : List (Addr × Obj)} {σ : L2.St} {H : Hp} {s : Shared} {a : Addr} {xs : List V} {Rr : It → Hp → Prop} (I : Inv X pins σ H s) (hq : SqT X.K H a xs) (q : Rr (Itt X.K a) H) :
    wpAny (model X.prog X.w) X.A (pyIter (.ref a)) (PIE X pins σ tg Rr) X.xe s := by
  obtain ⟨its, rv, pl, _⟩ := I.tuple hq
  have fr := I.hok.fresh (Nat.le_refl s.heap.objs.size)
  exact wpAny_pyIter_tuple (show s.heap.IsTuple a its.toArray from pl) ⟨s.heap.objs.size, [s.heap.objs.size], _, _, H, rfl, I.kept (t' := s.toks) fun b o e => Heap.get?_push_of_some _ e, turn_tuple a _, ⟨_, Heap.get?_push_size _ rfl, rfl, rfl⟩,
    fun b hb => by
      cases List.mem_singleton.mp hb
      exact I.fpOk (Nat.le_refl _) fr, q⟩
/-- a list or a tuple walked -/
def iSeq (K : PySem.W.Frag) (t : TE) : TI := fun σ H Rr => t σ H fun x H1 => ∃ a, x = .ref a ∧ ((∃ xs, SqL K H1 a xs ∧ Rr (Itl K a) H1) ∨ ∃ xs, SqT K H1 a xs ∧ Rr (Itt K a) H1)
theorem pi_seq {X : Cx} {tg l : Expr} {t : TE} (h : PE X l t) : PI X tg l (iSeq X.K t) := by
  refine ⟨fun pins s σ H Rr I hw => thn (h.run pins s σ H _ I hw) fun v s1 ⟨x, H1, I1, r1, a, ex, q⟩ => ?_⟩
  subst ex
  cases r1
  rcases q with ⟨xs, hq, q⟩ | ⟨xs, hq, q⟩
  · exact it_list I1 hq q
  · exact it_tup I1 hq q
theorem piImp {X : Cx} {tg e : Expr} {t t' : TI} (h : PI X tg e t) (k : ∀ σ H Q, t' σ H Q → t σ H Q) : PI X tg e t' := ⟨fun pins s σ H Q I q => h.run pins s σ H Q I (k σ H Q q)⟩
abbrev Ix := Tab → Env → R (List PyData)
/-- the items of what is walked; an own list is frozen -/
def dSrc (f : Ex) : Ix := fun T env => (f T env).bind fun w e => match takeW e w with
  | some (.list ds, e') => (match w with
    | .d _ => .ok ds e'
    | .sl i => .ok ds (e'.set i (.val (.list ds))))
  | some (.tuple ds, e') => .ok ds e'
  | _ => .bad
theorem rep_set {C : Cc} {M : Addr → Prop} {H : Hp} {σ : L2.St} {env : Env} {i : Nat} {v : V} {d : PyData} (r : Rep C M H σ env) (f : FR (C.O M) H v d) : Rep C M H (σ.set i (some v)) (env.set i (.val d)) := by
  refine ⟨by simpa using r.len, fun j sv hj => ?_, fun j k b bj bk dj dk hjk ej ek sj sk => ?_, r.live, r.fg, r.apart⟩
  · rcases get_set hj with ⟨rfl, rfl⟩ | ⟨hne, hj⟩
    · refine ⟨some v, ?_, v, rfl, f⟩
      have hl : j < env.length := by
        have := (List.getElem?_eq_some_iff.mp hj).1
        simpa using this
      rw [List.getElem?_set_self (by rw [r.len]; exact hl)]
    · obtain ⟨s', e1, e2⟩ := r.at_ j sv hj
      exact ⟨s', by rw [List.getElem?_set_ne (Ne.symm hne)]; exact e1, e2⟩
  · rcases get_set ej with ⟨_, z⟩ | ⟨nj, ej⟩
    · cases z
    · rcases get_set ek with ⟨_, z⟩ | ⟨nk, ek⟩
      · cases z
      · rw [List.getElem?_set_ne (Ne.symm nj)] at sj
        rw [List.getElem?_set_ne (Ne.symm nk)] at sk
        exact r.sep j k b bj bk dj dk hjk ej ek sj sk
/-- the same slot told anew -/
theorem rep_tell {C : Cc} {M : Addr → Prop} {H : Hp} {σ : L2.St} {env : Env} {i : Nat} {v : V} {d : PyData} (r : Rep C M H σ env) (h : σ[i]? = some (some v)) (f : FR (C.O M) H v d) : Rep C M H σ (env.set i (.val d)) := by
  have r1 := rep_set (i := i) r f
  have e : σ.set i (some v) = σ := by
    obtain ⟨h1, h2⟩ := List.getElem?_eq_some_iff.mp h
    rw [← h2]
    exact List.set_getElem_self h1
  rw [e] at r1
  exact r1
section
variable {X : Cx} {K : PySem.W.Frag} {wx : WX} {T : Tab}
theorem pd_src {tg e : Expr} {f : Ex} (hK : X.K = K) (h : PE X e (rdE K wx T f)) : PI X tg e (rdI K wx T (dSrc f)) := by
  subst hK
  refine piImp (pi_seq h) fun σ H Q q => ?_
  obtain ⟨C, env, M, hK, rp, p⟩ := q
  refine rd_bind hK rp p fun w env1 v M1 H1 r1 s1 q1 p1 => ?_
  split at p1
  · rename_i ds e' e
    obtain ⟨M2, r2, l2, f2⟩ := take_ok r1 q1 e
    cases f2 with
    | @lst a xs _ ha na rr =>
      have W1 := walk_list (K := X.K) ha na rr
      cases w with
      | d x =>
        exact ⟨a, rfl, .inl ⟨xs, SqL.of ha, p1 _ M2 H1 r2 (Step.shrink l2) W1⟩⟩
      | sl i =>
        have q1 : σ[i]? = some (some (.ref a)) := q1
        exact ⟨a, rfl, .inl ⟨xs, SqL.of ha, p1 _ M2 H1 (rep_tell r2 q1 (.lst ha na rr)) (Step.shrink l2) W1⟩⟩
  · rename_i ds e' e
    obtain ⟨M2, r2, l2, f2⟩ := take_ok r1 q1 e
    cases f2 with
    | @tup a xs _ ha na rr => exact ⟨a, rfl, .inr ⟨xs, SqT.of ha, p1 _ M2 H1 r2 (Step.shrink l2) (walk_tup ha na rr)⟩⟩
  · exact p1.elim
/-- not to be run by whnf: a bound of such a size is counted down one by one -/
@[irreducible] def rgIn (i j : Int) : Bool := decide (-1000000000000 ≤ i ∧ i ≤ 1000000000000 ∧ -1000000000000 ≤ j ∧ j ≤ 1000000000000)
theorem rgIn_iff {i j : Int} : rgIn i j = true ↔ (-1000000000000 ≤ i ∧ i ≤ 1000000000000 ∧ -1000000000000 ≤ j ∧ j ≤ 1000000000000) := by
  unfold rgIn
  exact decide_eq_true_iff
theorem rgIn_one {j : Int} : rgIn 0 j = true ↔ (-1000000000000 ≤ j ∧ j ≤ 1000000000000) := rgIn_iff.trans ⟨fun z => ⟨z.2.2.1, z.2.2.2⟩, fun z => ⟨by decide, by decide, z.1, z.2⟩⟩
def dRange1 (g : Ax) : Ix := fun T env => (g T env).bind fun ws e => match derefs e ws with
  | some [.int j] => if rgIn 0 j = true then .ok (rgD 0 j.toNat) e else .bad
  | _ => .bad
def dRange2 (g : Ax) : Ix := fun T env => (g T env).bind fun ws e => match derefs e ws with
  | some [.int i, .int j] => if rgIn i j = true then .ok (rgD i (j - i).toNat) e else .bad
  | _ => .bad
theorem pd_range1 {tg a : Expr} {g : Ax} {p pos : Pos} (hg : Gl X "range") (hm : X.mg "range" = none) (ha : PA X [a] (rdA K wx T g)) (hs : starEach [a] X.env = [(false, eval a X.env)]) : PI X tg (.Call (.Name "range" p) [a] [] pos) (rdI K wx T (dRange1 g)) := by
  refine piImp (pi_range1 hg hm ha hs) fun σ H Q q => ?_
  obtain ⟨C, env, M, hK, rp, p⟩ := q
  refine rd_bind hK rp p fun ws env1 vs M1 H1 r1 s1 q1 p1 => ?_
  split at p1
  · rename_i j e
    split at p1
    · rename_i hz
      have hz := rgIn_one.mp hz
      have b := derefs_br r1 q1 e
      cases b with
      | cons b1 t =>
        cases t
        exact ⟨j, by rw [b1.int], by omega, by omega, p1 _ M1 H1 r1 (Step.refl _ _) (walk_range 0 _)⟩
    · exact p1.elim
  · exact p1.elim
abbrev Gx := PyData → Env → Option Env
def rdG (K : PySem.W.Frag) (g : Gx) (is : List Nat) : TG := fun v σ H Q => ∃ C env M d, C.K = K ∧ Rep C M H σ env ∧ FR (C.O M) H v d ∧ ∃ env', g d env = some env' ∧
  ∀ σ', Rep C M H σ' env' → σ'.length = σ.length → (∀ j, j ∉ is → σ'[j]? = σ[j]?) → Q σ' H
theorem pgImp {tg : Expr} {t t' : TG} (h : PG X tg t) (k : ∀ v σ H Q, t' v σ H Q → t v σ H Q) : PG X tg t' := ⟨fun pins s σ H v u Q I r q => h.run pins s σ H v u Q I r (k v σ H Q q)⟩
def gSlot (i : Nat) : Gx := fun d env => some (env.set i (.val d))
theorem pdg_name {i : Nat} {x : Str} {pos : Pos} (hN : X.N.Nodup) (hi : X.N[i]? = some x) (hx : Loc X.env.scope x) (hf : X.fn x = true ∨ X.env.scope.names.lookup x = some .local) : PG X (.Name x pos) (rdG K (gSlot i) [i]) := by
  refine pgImp (pg_name hN hi hx hf) fun v σ H Q q => ?_
  obtain ⟨C, env, M, d, hK, r, f, env', e, k⟩ := q
  cases e
  exact k _ (rep_set r f) (by simp) fun j hj => List.getElem?_set_ne (by rintro rfl; exact hj (by simp))
def gSlots : List Nat → List PyData → Env → Option Env
  | [], [], env => some env
  | i :: is, d :: ds, env => gSlots is ds (env.set i (.val d))
  | _, _, _ => none
def gTupD (is : List Nat) : Gx := fun d env => match d with
  | .tuple ds => gSlots is ds env
  | _ => none
/-- plain names, one after another -/
inductive PNs (X : Cx) : List Expr → List Nat → Prop
  | nil : PNs X [] []
  | cons {i : Nat} {x : Str} {pos : Pos} {es : List Expr} {is : List Nat} : X.N[i]? = some x → Loc X.env.scope x → (X.fn x = true ∨ X.env.scope.names.lookup x = some .local) → PNs X es is → PNs X (.Name x pos :: es) (i :: is)
def gNs : List Nat → TGs
  | [] => gNil
  | i :: is => gCons (gName i) (gNs is)
theorem PNs.pgs (hN : X.N.Nodup) : ∀ {es : List Expr} {is : List Nat}, PNs X es is → PGs X es (gNs is)
  | _, _, .nil => pgs_nil
  | _, _, .cons h1 h2 h3 t => pgs_cons (pg_name hN h1 h2 h3) (PNs.pgs hN t) rfl
theorem PNs.each : ∀ {es : List Expr} {is : List Nat}, PNs X es is → (assignEach es X.env).length = is.length ∧ (assignEach es X.env).findIdx? (·.1) = none
  | _, _, .nil => ⟨rfl, rfl⟩
  | _, _, .cons (x := x) (pos := pos) (es := es) h1 h2 h3 t => by
    have ih := PNs.each t
    have e : assignEach (.Name x pos :: es) X.env = (false, assign (.Name x pos) X.env) :: assignEach es X.env := rfl
    rw [e, List.length_cons, List.length_cons, ih.1, List.findIdx?_cons, ih.2]
    exact ⟨rfl, rfl⟩
theorem gNs_rd {C : Cc} {M : Addr → Prop} {H : Hp} {Q : L2.St → Hp → Prop} : ∀ {is : List Nat} {vs : List V} {ds : List PyData} {σ σ0 : L2.St} {env env' : Env}, Rep C M H σ env → FRs (C.O M) H vs ds → gSlots is ds env = some env' → σ.length = σ0.length →
    (∀ σ', Rep C M H σ' env' → σ'.length = σ0.length → (∀ j, j ∉ is → σ'[j]? = σ[j]?) → Q σ' H) → gNs is vs σ H Q
  | [], _, _, σ, σ0, env, env', r, .nil, e, hl, k => by
    cases e
    exact ⟨rfl, k σ r hl fun _ _ => rfl⟩
  | i :: is, _, _, σ, σ0, env, env', r, .cons (v := v) (vs := vs) (d := d) (ds := ds) f t, e, hl, k => by
    have e : gSlots is ds (env.set i (.val d)) = some env' := e
    refine ⟨v, vs, rfl, gNs_rd (σ0 := σ0) (rep_set r f) t e (by simpa using hl) fun σ' r' hl' ha => k σ' r' hl' fun j hj => ?_⟩
    rw [ha j fun z => hj (List.mem_cons_of_mem _ z)]
    exact List.getElem?_set_ne (by rintro rfl; exact hj List.mem_cons_self)
  | [], _, _, _, _, _, _, _, .cons _ _, e, _, _ => by cases e
  | _ :: _, _, _, _, _, _, _, _, .nil, e, _, _ => by cases e
theorem gSlots_len : ∀ {is : List Nat} {ds : List PyData} {env env' : Env}, gSlots is ds env = some env' → ds.length = is.length
  | [], [], _, _, _ => rfl
  | i :: is, d :: ds, env, env', e => by
    have e : gSlots is ds (env.set i (.val d)) = some env' := e
    simp [gSlots_len e]
  | [], _ :: _, _, _, e => by cases e
  | _ :: _, [], _, _, e => by cases e
theorem pdg_tup {es : List Expr} {is : List Nat} {k : Nat} {pos : Pos} (hK : X.K = K) (hc : X.calm = true) (hN : X.N.Nodup) (h : PNs X es is) : PG X (.Tuple es k pos) (rdG K (gTupD is) is) := by
  subst hK
  refine pgImp (pg_tup hc (h.pgs hN) h.each.1 h.each.2) fun v σ H Q q => ?_
  obtain ⟨C, env, M, d, hK, r, f, env', e, k⟩ := q
  unfold gTupD at e
  split at e
  · rename_i ds
    cases f with
    | @tup a xs _ ha na rr =>
      exact ⟨a, xs, rfl, SqT.of ha, by rw [rr.length, gSlots_len e], gNs_rd r rr e rfl k⟩
  · cases e
end

def wipeE (env : Env) : List Nat → Env
  | [] => env
  | v :: vs => (wipeE env vs).set v .un
def restore (e0 : Env) : List Nat → Env → Env
  | [], e1 => e1
  | v :: vs, e1 => (restore e0 vs e1).set v (e0.getD v .un)
theorem wipeE_length (env : Env) : ∀ vs : List Nat, (wipeE env vs).length = env.length
  | [] => rfl
  | v :: vs => by unfold wipeE; rw [List.length_set, wipeE_length env vs]
theorem restore_length (e0 e1 : Env) : ∀ vs : List Nat, (restore e0 vs e1).length = e1.length
  | [] => rfl
  | v :: vs => by unfold restore; rw [List.length_set, restore_length e0 e1 vs]
theorem wipe_get {σ : L2.St} {j : Nat} : ∀ {vs : List Nat}, j ∉ vs → (wipe σ vs)[j]? = σ[j]?
  | [], _ => rfl
  | v :: vs, h => by
    unfold wipe
    rw [List.getElem?_set_ne (by rintro rfl; exact h List.mem_cons_self)]
    exact wipe_get fun z => h (List.mem_cons_of_mem _ z)
theorem wipe_in {σ : L2.St} {j : Nat} : ∀ {vs : List Nat}, j ∈ vs → j < σ.length → (wipe σ vs)[j]? = some none
  | v :: vs, h, hl => by
    unfold wipe
    by_cases e : v = j
    · subst e
      rw [List.getElem?_set_self (by rw [wipe_length]; exact hl)]
    · rw [List.getElem?_set_ne e]
      exact wipe_in ((List.mem_cons.mp h).resolve_left fun z => e z.symm) hl
theorem wipeE_get {env : Env} {j : Nat} : ∀ {vs : List Nat}, j ∉ vs → (wipeE env vs)[j]? = env[j]?
  | [], _ => rfl
  | v :: vs, h => by
    unfold wipeE
    rw [List.getElem?_set_ne (by rintro rfl; exact h List.mem_cons_self)]
    exact wipeE_get fun z => h (List.mem_cons_of_mem _ z)
theorem wipeE_in {env : Env} {j : Nat} {sv : SV} : ∀ {vs : List Nat}, j ∈ vs → (wipeE env vs)[j]? = some sv → sv = .un
  | v :: vs, h, e => by
    unfold wipeE at e
    rcases get_set e with ⟨_, z⟩ | ⟨hne, e⟩
    · exact z
    · exact wipeE_in ((List.mem_cons.mp h).resolve_left hne) e
theorem restore_get {e0 e1 : Env} {j : Nat} : ∀ {vs : List Nat}, j ∉ vs → (restore e0 vs e1)[j]? = e1[j]?
  | [], _ => rfl
  | v :: vs, h => by
    unfold restore
    rw [List.getElem?_set_ne (by rintro rfl; exact h List.mem_cons_self)]
    exact restore_get fun z => h (List.mem_cons_of_mem _ z)
theorem restore_in {e0 e1 : Env} {j : Nat} {sv : SV} : ∀ {vs : List Nat}, j ∈ vs → (restore e0 vs e1)[j]? = some sv → sv = e0.getD j .un
  | v :: vs, h, e => by
    unfold restore at e
    rcases get_set e with ⟨hv, z⟩ | ⟨hne, e⟩
    · rw [z, hv]
    · exact restore_in ((List.mem_cons.mp h).resolve_left hne) e
theorem wipe_same {σ τ : L2.St} {vs : List Nat} (hl : σ.length = τ.length) (h : ∀ j, j ∉ vs → σ[j]? = τ[j]?) : wipe σ vs = wipe τ vs := by
  apply List.ext_getElem?
  intro j
  by_cases hj : j ∈ vs
  · by_cases hlt : j < σ.length
    · rw [wipe_in hj hlt, wipe_in hj (hl ▸ hlt)]
    · rw [List.getElem?_eq_none (by rw [wipe_length]; omega), List.getElem?_eq_none (by rw [wipe_length]; omega)]
  · rw [wipe_get hj, wipe_get hj, h j hj]
theorem wipe_wipe (σ : L2.St) (vs : List Nat) : wipe (wipe σ vs) vs = wipe σ vs := wipe_same (wipe_length σ vs) fun j hj => wipe_get hj
/-- own names forgotten -/
theorem rep_wipe {C : Cc} {M : Addr → Prop} {H : Hp} {σ : L2.St} {env : Env} (r : Rep C M H σ env) (vs : List Nat) : Rep C M H (wipe σ vs) (wipeE env vs) := by
  have own : ∀ j b d, (wipeE env vs)[j]? = some (SV.own b d) → j ∉ vs := fun j b d e hj => by
    have := wipeE_in hj e
    cases this
  refine ⟨by rw [wipe_length, wipeE_length]; exact r.len, fun j sv hj => ?_, fun j k b bj bk dj dk hjk ej ek sj sk => ?_, r.live, r.fg, r.apart⟩
  · by_cases h : j ∈ vs
    · have e := wipeE_in h hj
      subst e
      have hl : j < σ.length := by
        have := (List.getElem?_eq_some_iff.mp hj).1
        rw [wipeE_length] at this
        rw [r.len]; exact this
      exact ⟨none, wipe_in h hl, trivial⟩
    · rw [wipeE_get h] at hj
      rw [wipe_get h]
      exact r.at_ j sv hj
  · have n1 := own j bj dj ej
    have n2 := own k bk dk ek
    rw [wipeE_get n1] at ej
    rw [wipeE_get n2] at ek
    rw [wipe_get n1] at sj
    rw [wipe_get n2] at sk
    exact r.sep j k b bj bk dj dk hjk ej ek sj sk
/-- a new foreign list -/
def Cc.more (C : Cc) (D : Addr) : Cc := { C with Fg := fun a => C.Fg a ∨ a = D }
theorem SVR.chg {C C' : Cc} {M M' : Addr → Prop} {H H' : Hp} {i : Nat} {s : Option V} {sv : SV} (hK : C'.K = C.K) (hi : C'.ios = C.ios) (k : Mono (C.O M) H (C'.O M') H') (ko : ∀ a xs, H a = some (.lst xs) → M a → H' a = some (.lst xs) ∧ M' a) (r : SVR C M H i s sv) : SVR C' M' H' i s sv := by
  cases sv with
  | un => trivial
  | val d => obtain ⟨v, e1, e2⟩ := r; exact ⟨v, e1, FR.mono k _ _ e2⟩
  | own io d =>
    obtain ⟨v, e1, e2, e3⟩ := r
    cases e2 with
    | lst ha m rr => exact ⟨_, e1, .lst (ko _ _ ha m).1 (ko _ _ ha m).2 (FRs.mono k _ _ rr), by rw [hi]; exact e3⟩
  | scr ns =>
    obtain ⟨a, e1, e2⟩ := r
    refine ⟨a, e1, ?_⟩
    rcases e2 with ⟨h | ⟨o, h⟩, na⟩ | h
    · exact .inl ⟨.inl (k _ _ h na).1, (k _ _ h na).2⟩
    · exact .inl ⟨.inr ⟨o, (k _ _ h na).1⟩, (k _ _ h na).2⟩
    · rw [← hK] at h; exact .inr h
theorem rep_more {C : Cc} {M : Addr → Prop} {H : Hp} {σ : L2.St} {env : Env} {D : Addr} {o : HO} (r : Rep C M H σ env) (n : H D = none) : Rep (C.more D) M (upd H D o) σ env := by
  have nD : ¬ C.O M D := r.fresh n
  have ne : ∀ a u, H a = some u → a ≠ D := fun a u e z => by subst z; rw [n] at e; cases e
  refine ⟨r.len, fun i sv h => ?_, r.sep, fun a m => ?_, fun a f => ?_, fun a f m => ?_⟩
  · obtain ⟨s, h1, h2⟩ := r.at_ i sv h
    exact ⟨s, h1, SVR.chg (C := C) (C' := C.more D) rfl rfl (fun a u e na => ⟨Ext.upd n a u e, fun z => z.elim (fun m => na (.inl m)) fun f => (show C.Fg a ∨ a = D from f).elim (fun f => na (.inr f)) (ne a u e)⟩) (fun a xs e m => ⟨Ext.upd n a _ e, m⟩) h2⟩
  · obtain ⟨xs, e⟩ := r.live a m
    exact ⟨xs, Ext.upd n a _ e⟩
  · rcases f with f | rfl
    · cases q : H a with
      | none => exact absurd q (r.fg a f)
      | some u => rw [Ext.upd n a u q]; simp
    · rw [upd_same]; simp
  · rcases f with f | rfl
    · exact r.apart a f m
    · exact nD (.inl m)
/-- a foreign object changes: nothing of ours leans on it -/
theorem rep_updF {C : Cc} {M : Addr → Prop} {H : Hp} {σ : L2.St} {env : Env} {D : Addr} {o : HO} (r : Rep C M H σ env) (f : C.Fg D) : Rep C M (upd H D o) σ env := by
  have k : Mono (C.O M) H (C.O M) (upd H D o) := fun a u e na => ⟨by rw [upd_ne (fun z => na (by subst z; exact .inr f))]; exact e, na⟩
  refine ⟨r.len, fun i sv h => ?_, r.sep, fun a m => ?_, fun a g => ?_, r.apart⟩
  · obtain ⟨s, h1, h2⟩ := r.at_ i sv h
    exact ⟨s, h1, SVR.chg (C := C) (C' := C) rfl rfl k (fun a xs e m => ⟨by rw [upd_ne (fun z => r.apart D f (by rw [← z]; exact m))]; exact e, m⟩) h2⟩
  · obtain ⟨xs, e⟩ := r.live a m
    exact ⟨xs, by rw [upd_ne (fun z => r.apart D f (by rw [← z]; exact m))]; exact e⟩
  · by_cases z : a = D
    · rw [z, upd_same]; simp
    · rw [upd_ne z]; exact r.fg a g
theorem step_updN {M M' : Addr → Prop} {H H' : Hp} {D : Addr} {o : HO} (s : Step M H M' H') (n : H D = none) : Step M H M' (upd H' D o) :=
  ⟨fun a u e m => by rw [upd_ne (fun z => by subst z; rw [n] at e; cases e)]; exact s.keep a u e m, s.own, fun a e => by
    by_cases z : a = D
    · rw [z, upd_same]; simp
    · rw [upd_ne z]; exact s.live a e⟩
/-- the block is left: the own names are as they were -/
theorem rep_restore {C : Cc} {M M0 M2 : Addr → Prop} {H H0 : Hp} {σ : L2.St} {e0 e1 : Env} {vs : List Nat} {D : Addr} (r : Rep (C.more D) M H (wipe σ vs) e1) (r0 : Rep C M0 H0 σ e0) (s : Step M0 H0 M H) (n : H0 D = none)
    (hv : ∀ i ∈ vs, ∀ sv, e0[i]? = some sv → sv = .un ∨ ∃ d, sv = .val d) (m1 : ∀ a, M a → M2 a) (m2 : ∀ a, M2 a → M a ∨ a = D) (hD : M2 D → ∃ xs, H D = some (.lst xs)) : Rep C M2 H σ (restore e0 vs e1) := by
  have hlen : e1.length = σ.length := by have := r.len; rw [wipe_length] at this; exact this.symm
  have k : Mono ((C.more D).O M) H (C.O M2) H := fun a u e na => ⟨e, fun z => na (z.elim (fun m => (m2 a m).elim .inl fun z => .inr (.inr z)) fun f => .inr (.inl f))⟩
  have k0 : Mono (C.O M0) H0 (C.O M2) H := fun a u e na => ⟨s.keep a u e fun m => na (.inl m), fun z => z.elim (fun m => (m2 a m).elim (fun m => (s.own a m).elim (fun m0 => na (.inl m0)) fun q => by rw [e] at q; cases q) fun z => by subst z; rw [n] at e; cases e) fun f => na (.inr f)⟩
  have own : ∀ j b d, (restore e0 vs e1)[j]? = some (SV.own b d) → j ∉ vs := fun j b d e hj => by
    have z := restore_in hj e
    cases q : e0[j]? with
    | none => rw [List.getD_eq_getElem?_getD, q] at z; cases z
    | some sv =>
      rw [List.getD_eq_getElem?_getD, q] at z
      have z : SV.own b d = sv := z
      rcases hv j hj sv q with h | ⟨d', h⟩
      · rw [h] at z; cases z
      · rw [h] at z; cases z
  refine ⟨by rw [restore_length]; exact hlen.symm, fun j sv hj => ?_, fun j k b bj bk dj dk hjk ej ek sj sk => ?_, fun a m => (m2 a m).elim (r.live a) fun z => by subst z; exact hD m, fun a f => r.fg a (.inl f), fun a f m => (m2 a m).elim (r.apart a (.inl f)) fun z => r0.fg a f (by subst z; exact n)⟩
  · by_cases h : j ∈ vs
    · have e := restore_in h hj
      have hl : j < e0.length := by
        have := (List.getElem?_eq_some_iff.mp hj).1
        rw [restore_length, hlen, r0.len] at this
        exact this
      have q : e0[j]? = some sv := by
        rw [e, List.getD_eq_getElem?_getD, List.getElem?_eq_getElem hl]; rfl
      obtain ⟨s', h1, h2⟩ := r0.at_ j sv q
      refine ⟨s', h1, ?_⟩
      rcases hv j h sv q with rfl | ⟨d, rfl⟩
      · trivial
      · obtain ⟨v, e1, e2⟩ := h2
        exact ⟨v, e1, FR.mono k0 _ _ e2⟩
    · rw [restore_get h] at hj
      obtain ⟨s', h1, h2⟩ := r.at_ j sv hj
      rw [wipe_get h] at h1
      exact ⟨s', h1, SVR.chg (C := C.more D) (C' := C) rfl rfl k (fun a xs e m => ⟨e, m1 a m⟩) h2⟩
  · have n1 := own j bj dj ej
    have n2 := own k bk dk ek
    rw [restore_get n1] at ej
    rw [restore_get n2] at ek
    exact r.sep j k b bj bk dj dk hjk ej ek (by rw [wipe_get n1]; exact sj) (by rw [wipe_get n2]; exact sk)
end Pv
end
section
set_option Elab.async false
set_option linter.all false
set_option maxRecDepth 100000
set_option maxHeartbeats 4000000
set_option autoImplicit false
namespace Pv
open PySem PySem.Spec PyProof.Rows L2

abbrev Acc := List PyData
abbrev Bx := Acc → Env → R Acc
def turnL (T : Tab) (vs : List Nat) (tgt : Gx) (tst : Tx) (body : Bx) : List PyData → Bx
  | [], acc, env => .ok acc env
  | d :: ds, acc, env => match tgt d env with
    | none => .bad
    | some e1 => match tst T e1 with
      | .ok true e2 => (match body acc e2 with
        | .ok acc' e3 => turnL T vs tgt tst body ds acc' (wipeE e3 vs)
        | _ => .bad)
      | .ok false e2 => turnL T vs tgt tst body ds acc (wipeE e2 vs)
      | _ => .bad
def eltB (T : Tab) (elt : Ex) : Bx := fun acc e => match elt T e with
  | .ok w e1 => (match takeW e1 w with
    | some (d, e2) => if acc.length < LINE then .ok (acc ++ [d]) e2 else .bad
    | none => .bad)
  | _ => .bad
def inB (T : Tab) (src1 : Ix) (vs1 : List Nat) (tgt1 : Gx) (tst1 : Tx) (elt : Ex) : Bx := fun acc e => match src1 T e with
  | .ok ds e1 => turnL T vs1 tgt1 tst1 (eltB T elt) ds acc (wipeE e1 vs1)
  | _ => .bad
/-- the own names hold nothing that this frame owns -/
def plainAt (env : Env) (vs : List Nat) : Bool := vs.all fun i => match env[i]? with
  | some .un => true
  | some (.val _) => true
  | _ => false
def dLcB (src : Ix) (vs : List Nat) (tgt : Gx) (tst : Tx) (body : Tab → Bx) : Fx := fun T env => (src T env).bind fun ds e0 =>
  if plainAt e0 vs = true then
    (match turnL T vs tgt tst (body T) ds [] (wipeE e0 vs) with
    | .ok acc e1 => .ok acc (restore e0 vs e1)
    | _ => .bad)
  else .bad
def dLc (src : Ix) (vs : List Nat) (tgt : Gx) (tst : Tx) (elt : Ex) : Fx := dLcB src vs tgt tst fun T => eltB T elt
def dYes : Tx := fun _ env => .ok true env
abbrev wxN : WX := fun _ _ _ _ => False

section
variable {K : PySem.W.Frag} {T : Tab}
/-- from a state on: where the result is good, P holds behind it -/
def Go (C : Cc) (D : Addr) (M0 : Addr → Prop) (H0 : Hp) (vs : List Nat) (σ : L2.St) (r : R Acc) (P : Hp → Prop) : Prop :=
  match r with
  | .ok acc e => ∀ σ' M' H' accV, wipe σ' vs = wipe σ vs → Rep C M' H' σ' e → Step M0 H0 M' H' → H' D = some (.lst accV) → FRs (C.O M') H' accV acc → P H'
  | _ => False
/-- the state within a block -/
structure In (C : Cc) (D : Addr) (M0 : Addr → Prop) (H0 : Hp) (M : Addr → Prop) (H : Hp) (σ : L2.St) (env : Env) (acc : Acc) : Prop where
  rep : Rep C M H σ env
  step : Step M0 H0 M H
  at_ : ∃ accV, H D = some (.lst accV) ∧ FRs (C.O M) H accV acc
/-- what a turn's body reads serves the closure -/
def BodyOk (C : Cc) (D : Addr) (M0 : Addr → Prop) (H0 : Hp) (vs : List Nat) (body : Bx) (bodyR : L2.St → Hp → (Hp → Prop) → Prop) : Prop :=
  ∀ σ2 H3 Nx M env acc, In C D M0 H0 M H3 σ2 env acc → Go C D M0 H0 vs σ2 (body acc env) Nx → bodyR σ2 H3 Nx
theorem loop_rd {C : Cc} {D : Addr} {M0 : Addr → Prop} {H0 : Hp} {vs is : List Nat} {σ : L2.St} {tgt : Gx} {tst : Tx} {body : Bx} {bodyR : L2.St → Hp → (Hp → Prop) → Prop} {J : It} {O1 : Addr → Prop} {H1 : Hp} {ds : List PyData} (hK : C.K = K) (hD : C.Fg D)
    (hw : Walk O1 H1 J ds) (hm : ∀ M H σ env acc, In C D M0 H0 M H σ env acc → Mono O1 H1 (C.O M) H) (his : ∀ i ∈ is, i ∈ vs) (hb : BodyOk C D M0 H0 vs body bodyR) {Hs : Hp} {Ms : Addr → Prop} {es : Env} {acc0 : Acc} {End : Hp → Prop}
    (h0 : In C D M0 H0 Ms Hs (wipe σ vs) es acc0) (hg : Go C D M0 H0 vs σ (turnL T vs tgt tst body ds acc0 es) End) :
    ∃ Wv : Nat → Nat → Hp → Prop, (∃ m, Wv 0 m Hs) ∧ ∀ i m H, Wv i m H → (J.stop i H ∧ End H) ∨ (J.go i H ∧ ∃ Nx : Hp → Prop, (∀ H', Nx H' → ∃ m', m' < m ∧ Wv (i + 1) m' H') ∧ ∀ x H', J.yld i H x H' →
      rdG K tgt is x (wipe σ vs) H' fun σ2 H2 => wipe σ2 vs = wipe σ vs ∧ rdT K wxN T tst σ2 H2 fun b H3 => if b = true then bodyR σ2 H3 Nx else Nx H3) := by
  refine ⟨fun i m H => m = ds.length - i ∧ i ≤ ds.length ∧ ∃ M env acc, In C D M0 H0 M H (wipe σ vs) env acc ∧ Go C D M0 H0 vs σ (turnL T vs tgt tst body (ds.drop i) acc env) End, ⟨_, rfl, Nat.zero_le _, Ms, es, acc0, h0, by simpa using hg⟩, ?_⟩
  rintro i m H ⟨rfl, hi, M, env, acc, s, g⟩
  have mono := hm _ _ _ _ _ s
  by_cases hlt : i < ds.length
  · have e : ds[i]? = some ds[i] := List.getElem?_eq_getElem hlt
    obtain ⟨hgo, hy⟩ := hw.go _ H i _ mono (fun p n => s.rep.fresh n) e
    refine .inr ⟨hgo, fun H' => ∃ M env acc, In C D M0 H0 M H' (wipe σ vs) env acc ∧ Go C D M0 H0 vs σ (turnL T vs tgt tst body (ds.drop (i + 1)) acc env) End, fun H' ⟨M', env', acc', s', g'⟩ => ⟨ds.length - (i + 1), by omega, rfl, by omega, M', env', acc', s', g'⟩, fun x H' y => ?_⟩
    obtain ⟨ex, fr⟩ := hy x H' y
    obtain ⟨accV, hA, fA⟩ := s.at_
    rw [List.drop_eq_getElem_cons hlt] at g
    unfold turnL at g
    split at g
    · exact g.elim
    · rename_i e1 et
      refine ⟨C, env, M, ds[i], hK, s.rep.ext ex, fr, e1, et, fun σ2 r2 hl ha => ?_⟩
      have hwp : wipe σ2 vs = wipe σ vs := by
        rw [← wipe_wipe σ vs]
        exact wipe_same hl fun j hj => ha j fun z => hj (his j z)
      refine ⟨hwp, ⟨C, e1, M, hK, r2, ?_⟩⟩
      -- the turn's end
      have fin : ∀ {acc' : Acc} {e3 : Env} {σ' : L2.St} {M' : Addr → Prop} {H' : Hp} {accV' : List V}, Go C D M0 H0 vs σ (turnL T vs tgt tst body (ds.drop (i + 1)) acc' (wipeE e3 vs)) End → wipe σ' vs = wipe σ2 vs → Rep C M' H' σ' e3 → Step M0 H0 M' H' → H' D = some (.lst accV') → FRs (C.O M') H' accV' acc' →
          ∃ M env acc, In C D M0 H0 M H' (wipe σ vs) env acc ∧ Go C D M0 H0 vs σ (turnL T vs tgt tst body (ds.drop (i + 1)) acc env) End := fun {acc' e3 σ' M' H' accV'} g' hwp' r' st' hD' f' => by
        have r3 := rep_wipe r' vs
        rw [hwp', hwp] at r3
        exact ⟨M', _, acc', ⟨r3, st', accV', hD', f'⟩, g'⟩
      have st2 : Step M0 H0 M H' := s.step.trans (Step.ext ex)
      split at g
      · rename_i e2 e
        rw [e]
        intro b M3 H3 r3 s3 eb
        have eb : true = b := eb
        subst eb
        rw [if_pos rfl]
        split at g
        · rename_i acc' e3 eb
          refine hb σ2 H3 _ M3 e2 acc ⟨r3, st2.trans s3, accV, s3.keep D _ (ex _ _ hA) (fun m => s.rep.apart D hD m), (fA.ext ex).step s3⟩ ?_
          rw [eb]
          exact fun σ' M' H' accV' hwp' r' st' hD' f' => fin g hwp' r' st' hD' f'
        · exact g.elim
      · rename_i e2 e
        rw [e]
        intro b M3 H3 r3 s3 eb
        have eb : false = b := eb
        subst eb
        rw [if_neg Bool.false_ne_true]
        exact fin g rfl r3 (st2.trans s3) (s3.keep D _ (ex _ _ hA) (fun m => s.rep.apart D hD m)) ((fA.ext ex).step s3)
      · exact g.elim
  · have e : i = ds.length := by omega
    subst e
    refine .inl ⟨hw.stop _ H mono, ?_⟩
    rw [List.drop_length] at g
    obtain ⟨accV, hA, fA⟩ := s.at_
    exact g (wipe σ vs) M H accV (wipe_wipe σ vs) s.rep s.step hA fA
/-- an element appended -/
theorem elt_ok {C : Cc} {D : Addr} {M0 : Addr → Prop} {H0 : Hp} {vs : List Nat} {elt : Ex} (hK : C.K = K) (hD : C.Fg D) (hn : H0 D = none) :
    BodyOk C D M0 H0 vs (eltB T elt) (fun σ2 H3 Nx => rdE K wxN T elt σ2 H3 fun y H4 => ∃ acc, H4 D = some (.lst acc) ∧ acc.length < sizeLine ∧ Nx (upd H4 D (.lst (acc ++ [y])))) := by
  intro σ2 H3 Nx M env acc s g
  obtain ⟨accV, hA, fA⟩ := s.at_
  refine ⟨C, env, M, hK, s.rep, ?_⟩
  unfold eltB at g
  split at g
  · rename_i w e1 e
    rw [e]
    intro y M4 H4 r4 s4 q4
    split at g
    · rename_i d e2 et
      split at g
      · rename_i hz
        obtain ⟨M5, r5, l5, f5⟩ := take_ok r4 q4 et
        have s5 : Step M H3 M5 H4 := s4.trans (Step.shrink l5)
        have hA4 : H4 D = some (.lst accV) := s4.keep D _ hA (fun m => s.rep.apart D hD m)
        have f4 : FRs (C.O M5) H4 accV acc := fA.step s5
        refine ⟨accV, hA4, Nat.lt_of_lt_of_le (by rw [f4.length]; exact hz) (le_line (Nat.le_refl _)), ?_⟩
        have k : Mono (C.O M5) H4 (C.O M5) (upd H4 D (.lst (accV ++ [y]))) := fun a u e na => ⟨by rw [upd_ne (fun z => na (by subst z; exact .inr hD))]; exact e, na⟩
        exact g σ2 M5 _ (accV ++ [y]) rfl (rep_updF r5 hD) (step_updN (s.step.trans s5) hn) upd_same (FRs.mono k _ _ (f4.append (.cons f5 .nil)))
      · exact g.elim
    · exact g.elim
  · exact g.elim
/-- a block is entered, run, left -/
theorem lcB_rd {wx : WX} {src : Ix} {vs is : List Nat} {tgt : Gx} {tst : Tx} {body : Tab → Bx} {bodyR : Addr → L2.St → Hp → (Hp → Prop) → Prop} (his : ∀ i ∈ is, i ∈ vs) (hb : ∀ C D M0 H0, C.K = K → C.Fg D → H0 D = none → BodyOk C D M0 H0 vs (body T) (bodyR D))
    {σ : L2.St} {H : Hp} {Q : VK} (h : rdF K wx T (dLcB src vs tgt tst body) σ H Q) : rdI K wx T src σ H fun J H1 => ∀ D, H1 D = none → ∃ Wv : Nat → Nat → Hp → Prop, (∃ m, Wv 0 m (upd H1 D (.lst []))) ∧ ∀ i m H, Wv i m H →
      (J.stop i H ∧ Q (.ref D) H) ∨ (J.go i H ∧ ∃ Nx : Hp → Prop, (∀ H', Nx H' → ∃ m', m' < m ∧ Wv (i + 1) m' H') ∧ ∀ x H', J.yld i H x H' → rdG K tgt is x (wipe σ vs) H' fun σ2 H2 => wipe σ2 vs = wipe σ vs ∧ rdT K wxN T tst σ2 H2 fun b H3 =>
        if b = true then bodyR D σ2 H3 Nx else Nx H3) := by
  obtain ⟨C, env, M, hK, rp, p⟩ := h
  refine rd_bind hK rp p fun ds e0 J M1 H1 r1 s1 hw p1 => fun D hD => ?_
  split at p1
  · rename_i hpl
    have hCK : (C.more D).K = K := hK
    have hFg : (C.more D).Fg D := .inr rfl
    have hplain : ∀ i ∈ vs, ∀ sv, e0[i]? = some sv → sv = .un ∨ ∃ d, sv = .val d := fun i hi sv e => by
      have z := List.all_eq_true.mp hpl i hi
      rw [e] at z
      cases sv with
      | un => exact .inl rfl
      | val d => exact .inr ⟨d, rfl⟩
      | own b d => cases z
      | scr n => cases z
    refine loop_rd (T := T) (M0 := M1) (H0 := H1) hCK hFg hw (fun M' H' σ' env' acc' s' a o ea na => ?_) his (hb (C.more D) D M1 H1 hCK hFg hD) (Ms := M1) (es := wipeE e0 vs) (acc0 := [])
      ⟨rep_wipe (rep_more r1 hD) vs, step_updN (Step.refl _ _) hD, [], upd_same, .nil⟩ ?_
    · have ne : a ≠ D := fun z => by subst z; rw [hD] at ea; cases ea
      refine ⟨s'.step.keep a o ea fun m => na (.inl m), fun z => z.elim (fun m => (s'.step.own a m).elim (fun m0 => na (.inl m0)) fun q => by rw [ea] at q; cases q) fun f => (show C.Fg a ∨ a = D from f).elim (fun f => na (.inr f)) ne⟩
    · unfold Go
      split at p1
      · rename_i acc e1 ee
        intro σ' M' H' accV hwp r' st' hA f'
        have rw' : Rep (C.more D) M' H' (wipe σ vs) (wipeE e1 vs) := by rw [← hwp]; exact rep_wipe r' vs
        have e2 : restore e0 vs (wipeE e1 vs) = restore e0 vs e1 := by
          have h1 : (restore e0 vs (wipeE e1 vs)).length = (restore e0 vs e1).length := by rw [restore_length, restore_length, wipeE_length]
          apply List.ext_getElem?
          intro j
          by_cases hj : j ∈ vs
          · by_cases hl : j < (restore e0 vs e1).length
            · have x1 := restore_in (e0 := e0) (e1 := wipeE e1 vs) hj (List.getElem?_eq_getElem (h1 ▸ hl))
              have x2 := restore_in (e0 := e0) (e1 := e1) hj (List.getElem?_eq_getElem hl)
              rw [List.getElem?_eq_getElem (h1 ▸ hl), List.getElem?_eq_getElem hl, x1, x2]
            · rw [List.getElem?_eq_none (by omega), List.getElem?_eq_none (by omega)]
          · rw [restore_get hj, restore_get hj, wipeE_get hj]
        have R0 : Rep C M' H' σ (restore e0 vs e1) := by
          rw [← e2]
          exact rep_restore rw' r1 st' hD hplain (fun _ m => m) (fun _ m => .inl m) fun m => (r'.apart D (.inr rfl) m).elim
        have R1 : Rep C (fun a => M' a ∨ a = D) H' σ (restore e0 vs e1) := by
          rw [← e2]
          exact rep_restore rw' r1 st' hD hplain (fun _ m => .inl m) (fun _ m => m) fun _ => ⟨accV, hA⟩
        have nD : ¬ C.O M' D := fun z => z.elim (fun m => r'.apart D (.inr rfl) m) fun f => r1.fg D f hD
        refine p1 (.ref D) (fun a => M' a ∨ a = D) H' R1 ⟨st'.keep, fun a m => m.elim (st'.own a) fun z => .inr (by subst z; exact hD), st'.live⟩ ⟨D, accV, M', rfl, hA, FRs.mono (fun a o ea na => ⟨ea, fun z => na ?_⟩) _ _ f', nD, fun a => Iff.rfl, R0⟩
        rcases z with (m | z) | f
        · exact .inl m
        · exact .inr (.inr z)
        · exact .inr (.inl f)
      · exact p1.elim
  · exact p1.elim
/-- one clause -/
theorem lc_rd {wx : WX} {src : Ix} {vs is : List Nat} {tgt : Gx} {tst : Tx} {elt : Ex} (his : ∀ i ∈ is, i ∈ vs) {σ : L2.St} {H : Hp} {Q : VK} (h : rdF K wx T (dLc src vs tgt tst elt) σ H Q) :
    tLc (rdI K wx T src) (rdG K tgt is) (rdT K wxN T tst) (rdE K wxN T elt) vs σ H Q :=
  lcB_rd (bodyR := fun D σ2 H3 Nx => rdE K wxN T elt σ2 H3 fun y H4 => ∃ acc, H4 D = some (.lst acc) ∧ acc.length < sizeLine ∧ Nx (upd H4 D (.lst (acc ++ [y])))) his (fun _ _ _ _ hK hD hn => elt_ok hK hD hn) h
end
end Pv
end
section
set_option Elab.async false
set_option linter.all false
set_option maxRecDepth 100000
set_option maxHeartbeats 4000000
set_option autoImplicit false
namespace Pv
open PySem PySem.Spec PyProof.Rows L2

inductive Fl where
  | nx (env : Env)
  | ret (d : PyData) (env : Env)
  | bk (env : Env)
  | ct (env : Env)
  | exc (c : Str) (env : Env)
  | bad
abbrev Sx := Tab → Env → Fl
def R.thenS {α : Type} (r : R α) (k : α → Env → Fl) : Fl :=
  match r with
  | .ok a env => k a env
  | .exc c env => .exc c env
  | .bad => .bad
def PostS (C : Cc) (wx : WX) (M : Addr → Prop) (H : Hp) (r : Fl) (D : Ends) : Prop :=
  match r with
  | .nx e => ∀ σ' M' H', Rep C M' H' σ' e → Step M H M' H' → D.nx σ' H'
  | .bk e => ∀ σ' M' H', Rep C M' H' σ' e → Step M H M' H' → D.bk σ' H'
  | .ct e => ∀ σ' M' H', Rep C M' H' σ' e → Step M H M' H' → D.ct σ' H'
  | .ret d e => ∀ v σ' M' H', Rep C M' H' σ' e → Step M H M' H' → FR (C.O M') H' v d → D.rt v H'
  | .exc c e => ∀ σ' M' H', Rep C M' H' σ' e → Step M H M' H' → wx (.ref (He.ga C.K c)) none σ' H'
  | .bad => False
theorem PostS.later {C : Cc} {wx : WX} {M M1 : Addr → Prop} {H H1 : Hp} {r : Fl} {D : Ends} (p : PostS C wx M H r D) (s : Step M H M1 H1) : PostS C wx M1 H1 r D := by
  cases r with
  | nx e => exact fun σ' M' H' q z => p σ' M' H' q (s.trans z)
  | bk e => exact fun σ' M' H' q z => p σ' M' H' q (s.trans z)
  | ct e => exact fun σ' M' H' q z => p σ' M' H' q (s.trans z)
  | ret d e => exact fun v σ' M' H' q z f => p v σ' M' H' q (s.trans z) f
  | exc c e => exact fun σ' M' H' q z => p σ' M' H' q (s.trans z)
  | bad => exact p
def rdS (K : PySem.W.Frag) (wx : WX) (T : Tab) (g : Sx) : TS := fun D σ H => ∃ C env M, C.K = K ∧ Rep C M H σ env ∧ PostS C wx M H (g T env) D
theorem rdS_bind {α β : Type} {rel : Rel α β} {K : PySem.W.Frag} {C : Cc} {wx : WX} {T : Tab} {f : Tab → Env → R α} {k : α → Env → Fl} {σ : L2.St} {H : Hp} {env : Env} {M : Addr → Prop} {D : Ends} {P : β → Hp → Prop}
    (hK : C.K = K) (r : Rep C M H σ env) (h : PostS C wx M H ((f T env).thenS k) D)
    (go : ∀ a env1 v M1 H1, Rep C M1 H1 σ env1 → Step M H M1 H1 → rel C M1 H1 σ env1 a v → PostS C wx M1 H1 (k a env1) D → P v H1) : rd rel K wx T f σ H P := by
  refine ⟨C, env, M, hK, r, ?_⟩
  cases e : f T env with
  | bad => rw [e] at h; exact h
  | exc c env' => rw [e] at h; exact fun M' H' q z => h σ M' H' q z
  | ok a env' =>
    rw [e] at h
    exact fun v M' H' q z w => go a env' v M' H' q z w (PostS.later (r := k a env') h z)
section
variable {X : Cx} {K : PySem.W.Frag} {wx : WX} {T : Tab}
def dSkip : Sx := fun _ env => .nx env
def dBreak : Sx := fun _ env => .bk env
def dCont : Sx := fun _ env => .ct env
def dSeq (g h : Sx) : Sx := fun T env => match g T env with
  | .nx e => h T e
  | r => r
theorem skip_rd {D : Ends} {σ : L2.St} {H : Hp} (h : rdS K wx T dSkip D σ H) : D.nx σ H := by
  obtain ⟨C, env, M, hK, r, p⟩ := h
  exact p σ M H r (Step.refl _ _)
theorem pds_nil : PSs X [] (rdS K wx T dSkip) := pssImp pss_nil fun _ _ _ h => skip_rd h
theorem pds_cons {st : Stmt} {rest : List Stmt} {g h : Sx} (h1 : PS X st (rdS K wx T g)) (h2 : PSs X rest (rdS K wx T h)) : PSs X (st :: rest) (rdS K wx T (dSeq g h)) := by
  refine pssImp (pss_cons h1 h2) fun σ H D q => ?_
  obtain ⟨C, env, M, hK, r, p⟩ := q
  refine ⟨C, env, M, hK, r, ?_⟩
  unfold dSeq at p
  cases e : g T env with
  | nx e1 =>
    rw [e] at p
    exact fun σ' M' H' q z => ⟨C, e1, M', hK, q, PostS.later p z⟩
  | bk e1 => rw [e] at p; exact p
  | ct e1 => rw [e] at p; exact p
  | ret d e1 => rw [e] at p; exact p
  | exc c e1 => rw [e] at p; exact p
  | bad => rw [e] at p; exact p
theorem pds_one {st : Stmt} {g : Sx} (h1 : PS X st (rdS K wx T g)) : PSs X [st] (rdS K wx T g) := pss_one h1
/-- a value dropped; returned -/
def dDrop (f : Ex) : Sx := fun T env => (f T env).thenS fun _ e => .nx e
theorem pd_expr {e : Expr} {f : Ex} {pos : Pos} (he : PE X e (rdE K wx T f)) (hs : swapsWith e none pos.line X.env = pure false) : PS X (.Expr e pos) (rdS K wx T (dDrop f)) := by
  refine psImp (ps_expr he hs) fun σ H D q => ?_
  obtain ⟨C, env, M, hK, r, p⟩ := q
  exact rdS_bind hK r p fun w env1 v M1 H1 r1 s1 q1 p1 => p1 σ M1 H1 r1 (Step.refl _ _)
def dRet (f : Ex) : Sx := fun T env => (f T env).thenS fun w e => match takeW e w with
  | some (d, e') => .ret d e'
  | none => .bad
theorem pd_ret {e : Expr} {f : Ex} {pos : Pos} (he : PE X e (rdE K wx T f)) : PS X (.Return (some e) pos) (rdS K wx T (dRet f)) := by
  refine psImp (ps_ret he) fun σ H D q => ?_
  obtain ⟨C, env, M, hK, r, p⟩ := q
  refine rdS_bind hK r p fun w env1 v M1 H1 r1 s1 q1 p1 => ?_
  split at p1
  · rename_i d e' et
    obtain ⟨M2, r2, l2, f2⟩ := take_ok r1 q1 et
    exact p1 v σ M2 H1 r2 (Step.shrink l2) f2
  · exact p1.elim
def dRetN : Sx := fun _ env => .ret .none env
def dIfS (c : Tx) (g h : Sx) : Sx := fun T env => (c T env).thenS fun k e => if k = true then g T e else h T e
theorem pd_if {c : Expr} {a b : List Stmt} {tc : Tx} {g h : Sx} {pos : Pos} (hc : PT X c (rdT K wx T tc)) (ha : PSs X a (rdS K wx T g)) (hb : PSs X b (rdS K wx T h)) : PS X (.If c a b pos) (rdS K wx T (dIfS tc g h)) := by
  refine psImp (ps_if hc ha hb) fun σ H D q => ?_
  obtain ⟨C, env, M, hK, r, p⟩ := q
  refine rdS_bind hK r p fun k env1 v M1 H1 r1 s1 q1 p1 => ?_
  have q1 : k = v := q1
  subst q1
  cases k with
  | true => rw [if_pos rfl] at p1 ⊢; exact ⟨C, env1, M1, hK, r1, p1⟩
  | false => rw [if_neg Bool.false_ne_true] at p1 ⊢; exact ⟨C, env1, M1, hK, r1, p1⟩

/-- slot i is given a frozen value -/
def dSet (i : Nat) (f : Ex) : Sx := fun T env => (f T env).thenS fun w e => match takeW e w with
  | some (d, e') => .nx (e'.set i (.val d))
  | none => .bad
/-- slot i is given a new list of its own -/
def dSetO (i : Nat) (f : Fx) : Sx := fun T env => (f T env).thenS fun ds e => .nx (e.set i (.own false (.list ds)))
theorem set_rd {te : TE} {i : Nat} {f : Ex} (ht : ∀ σ H Q, rdE K wx T f σ H Q → te σ H Q) {D : Ends} {σ : L2.St} {H : Hp} (q : rdS K wx T (dSet i f) D σ H) : tAsg te (gName i) D σ H := by
  obtain ⟨C, env, M, hK, r, p⟩ := q
  refine ht _ _ _ (rdS_bind hK r p fun w env1 v M1 H1 r1 s1 q1 p1 => ?_)
  split at p1
  · rename_i d e' et
    obtain ⟨M2, r2, l2, f2⟩ := take_ok r1 q1 et
    exact p1 _ M2 H1 (rep_set r2 f2) (Step.shrink l2)
  · exact p1.elim
theorem rep_setO {C : Cc} {M : Addr → Prop} {H : Hp} {σ : L2.St} {env : Env} {i : Nat} {ds : List PyData} {v : V} (r : Rep C M H σ env) (w : WF C M H σ env ds v) : Rep C M H (σ.set i (some v)) (env.set i (.own false (.list ds))) := by
  obtain ⟨p, xs, M0, rfl, hp, f, np, hM, r0⟩ := w
  have oth : ∀ j b d, env[j]? = some (SV.own b d) → σ[j]? = some (some (V.ref p)) → False := fun j b d ej sj => by
    obtain ⟨s, h1, v, h2, h3, _⟩ := r0.at_ j _ ej
    rw [h1, h2] at sj
    cases h3 with
    | lst ha m rr => cases sj; exact np (.inl m)
  refine ⟨by simpa using r.len, fun j sv hj => ?_, fun j k b bj bk dj dk hjk ej ek sj sk => ?_, r.live, r.fg, r.apart⟩
  · rcases get_set hj with ⟨rfl, rfl⟩ | ⟨hne, hj⟩
    · refine ⟨some (.ref p), ?_, .ref p, rfl, .lst hp ((hM p).mpr (.inr rfl)) f, fun z => Bool.noConfusion z⟩
      have hl : j < env.length := by
        have := (List.getElem?_eq_some_iff.mp hj).1
        simpa using this
      rw [List.getElem?_set_self (by rw [r.len]; exact hl)]
    · obtain ⟨s', e1, e2⟩ := r.at_ j sv hj
      exact ⟨s', by rw [List.getElem?_set_ne (Ne.symm hne)]; exact e1, e2⟩
  · rcases get_set ej with ⟨z1, _⟩ | ⟨nj, ej'⟩
    · rcases get_set ek with ⟨z2, _⟩ | ⟨nk, ek'⟩
      · exact hjk (z1.trans z2.symm)
      · subst z1
        rw [List.getElem?_set_ne (Ne.symm nk)] at sk
        have hl : j < σ.length := by
          have := (List.getElem?_eq_some_iff.mp sj).1
          simpa using this
        rw [List.getElem?_set_self hl] at sj
        cases sj
        exact oth k bk dk ek' sk
    · rcases get_set ek with ⟨z2, _⟩ | ⟨nk, ek'⟩
      · subst z2
        rw [List.getElem?_set_ne (Ne.symm nj)] at sj
        have hl : k < σ.length := by
          have := (List.getElem?_eq_some_iff.mp sk).1
          simpa using this
        rw [List.getElem?_set_self hl] at sk
        cases sk
        exact oth j bj dj ej' sj
      · rw [List.getElem?_set_ne (Ne.symm nj)] at sj
        rw [List.getElem?_set_ne (Ne.symm nk)] at sk
        exact r.sep j k b bj bk dj dk hjk ej' ek' sj sk
theorem setO_rd {te : TE} {i : Nat} {f : Fx} (ht : ∀ σ H Q, rdF K wx T f σ H Q → te σ H Q) {D : Ends} {σ : L2.St} {H : Hp} (q : rdS K wx T (dSetO i f) D σ H) : tAsg te (gName i) D σ H := by
  obtain ⟨C, env, M, hK, r, p⟩ := q
  exact ht _ _ _ (rdS_bind hK r p fun w env1 v M1 H1 r1 s1 q1 p1 => p1 _ M1 H1 (rep_setO r1 q1) (Step.refl _ _))
theorem pd_set {i : Nat} {x : Str} {e : Expr} {f : Ex} {pos pos' : Pos} (hN : X.N.Nodup) (hi : X.N[i]? = some x) (hx : Loc X.env.scope x) (he : PE X e (rdE K wx T f)) (hs : swapsWith e (some (.Name x pos')) pos.line X.env = pure false) (hf : X.fn x = true ∨ X.env.scope.names.lookup x = some .local) :
    PS X (.Assign [.Name x pos'] e pos) (rdS K wx T (dSet i f)) := psImp (ps_set hN hi hx he hs hf) fun _ _ _ q => set_rd (fun _ _ _ z => z) q
theorem pd_setO {i : Nat} {x : Str} {e : Expr} {f : Fx} {pos pos' : Pos} (hN : X.N.Nodup) (hi : X.N[i]? = some x) (hx : Loc X.env.scope x) (he : PE X e (rdF K wx T f)) (hs : swapsWith e (some (.Name x pos')) pos.line X.env = pure false) (hf : X.fn x = true ∨ X.env.scope.names.lookup x = some .local) :
    PS X (.Assign [.Name x pos'] e pos) (rdS K wx T (dSetO i f)) := psImp (ps_set hN hi hx he hs hf) fun _ _ _ q => setO_rd (fun _ _ _ z => z) q
/-- a, b, .. = a value -/
def dSetG (g : Gx) (f : Ex) : Sx := fun T env => (f T env).thenS fun w e => match takeW e w with
  | some (d, e') => (match g d e' with
    | some e2 => .nx e2
    | none => .bad)
  | none => .bad
/-- a, b = x, y with plain local names -/
def dPar2 (i j : Nat) (g : Ax) : Sx := fun T env => (g T env).thenS fun ws e => match takes e ws with
  | some ([d1, d2], e') => .nx ((e'.set i (.val d1)).set j (.val d2))
  | _ => .bad
theorem pd_par2 {i j : Nat} {x y : Str} {a b : Expr} {g : Ax} {px py pt pos : Pos} {kt k2 : Nat} {pt2 : Pos} (hc : X.calm = true) (hN : X.N.Nodup) (hi : X.N[i]? = some x) (hj : X.N[j]? = some y) (hij : i ≠ j)
    (hx : X.env.scope.names.lookup x = some .local) (hy : X.env.scope.names.lookup y = some .local) (ha : PA X [a, b] (rdA K wx T g))
    (hw : swappedStores [.Tuple [.Name x px, .Name y py] kt pt] (.Tuple [a, b] k2 pt2) X.env = pure (some [x, y])) (hs : swapsWithSole [.Tuple [.Name x px, .Name y py] kt pt] (.Tuple [a, b] k2 pt2) pos.line X.env = pure false) :
    PS X (.Assign [.Tuple [.Name x px, .Name y py] kt pt] (.Tuple [a, b] k2 pt2) pos) (rdS K wx T (dPar2 i j g)) := by
  refine psImp (ps_par hc hN hi hj hij hx hy ha hw hs) fun σ H D q => ?_
  obtain ⟨C, env, M, hK, r, p⟩ := q
  refine rdS_bind hK r p fun ws env1 vs M1 H1 r1 s1 q1 p1 => ?_
  split at p1
  · rename_i d1 d2 e' et
    obtain ⟨M2, r2, l2, f2⟩ := takes_ok r1 q1 et
    cases f2 with
    | @cons v1 _ _ _ f1 t =>
      cases t with
      | @cons v2 _ _ _ f2 t =>
        cases t
        exact ⟨v1, v2, rfl, p1 _ M2 H1 (rep_set (rep_set r2 f1) f2) (Step.shrink l2)⟩
  · exact p1.elim
def dPar3 (i j l : Nat) (g : Ax) : Sx := fun T env => (g T env).thenS fun ws e => match takes e ws with
  | some ([d1, d2, d3], e') => .nx (((e'.set i (.val d1)).set j (.val d2)).set l (.val d3))
  | _ => .bad

theorem rep_upd {C : Cc} {M : Addr → Prop} {H : Hp} {σ : L2.St} {env : Env} {i : Nat} {io : Bool} {d : PyData} {p : Addr} {xs' : List V} {ds' : List PyData} (r : Rep C M H σ env) (he : env[i]? = some (.own io d)) (hs : σ[i]? = some (some (.ref p))) (f : FRs (C.O M) H xs' ds') :
    Rep C M (upd H p (.lst xs')) σ (env.set i (.own io (.list ds'))) ∧ Step M H M (upd H p (.lst xs')) := by
  obtain ⟨s, h1, v, h2, h3, h4⟩ := r.at_ i _ he
  rw [h1, h2] at hs
  cases hs
  have mp : M p := by cases h3 with | lst ha m rr => exact m
  have k : Mono (C.O M) H (C.O M) (upd H p (.lst xs')) := fun a u e na => ⟨by rw [upd_ne (fun z => na (by subst z; exact .inl mp))]; exact e, na⟩
  refine ⟨⟨by simpa using r.len, fun j sv hj => ?_, fun j k b bj bk dj dk hjk ej ek sj sk => ?_, fun a m => ?_, fun a g => ?_, r.apart⟩, fun a o e m => by rw [upd_ne (fun z => m (by subst z; exact mp))]; exact e, fun a m => .inl m, fun a e => ?_⟩
  · rcases get_set hj with ⟨rfl, rfl⟩ | ⟨hne, hj⟩
    · exact ⟨s, h1, .ref p, h2, .lst upd_same mp (FRs.mono k _ _ f), h4⟩
    · obtain ⟨s', e1, e2⟩ := r.at_ j sv hj
      refine ⟨s', e1, ?_⟩
      cases sv with
      | own bj dj =>
        obtain ⟨v', g1, g2, g3⟩ := e2
        cases g2 with
        | @lst a ys es ha m rr =>
          have ne : a ≠ p := fun z => by
            subst z
            exact r.sep j i a bj io _ _ hne hj he (by rw [e1, g1]) (by rw [h1, h2])
          exact ⟨_, g1, .lst (by rw [upd_ne ne]; exact ha) m (FRs.mono k _ _ rr), g3⟩
      | un => trivial
      | val d => obtain ⟨v', g1, g2⟩ := e2; exact ⟨v', g1, FR.mono k _ _ g2⟩
      | scr ns =>
        obtain ⟨a, g1, g2⟩ := e2
        refine ⟨a, g1, ?_⟩
        rcases g2 with ⟨h | ⟨o, h⟩, na⟩ | h
        · exact .inl ⟨.inl (k _ _ h na).1, na⟩
        · exact .inl ⟨.inr ⟨o, (k _ _ h na).1⟩, na⟩
        · exact .inr h
  · have conv : ∀ l b' d', (env.set i (SV.own io (.list ds')))[l]? = some (SV.own b' d') → ∃ b2 d2, env[l]? = some (SV.own b2 d2) := fun l b' d' e => by
      rcases get_set e with ⟨rfl, _⟩ | ⟨_, e⟩
      · exact ⟨io, d, he⟩
      · exact ⟨b', d', e⟩
    obtain ⟨b1, d1, e1⟩ := conv j _ _ ej
    obtain ⟨b2, d2, e2⟩ := conv k _ _ ek
    exact r.sep j k b b1 b2 d1 d2 hjk e1 e2 sj sk
  · by_cases z : a = p
    · subst z; exact ⟨xs', upd_same⟩
    · rw [upd_ne z]; exact r.live a m
  · by_cases z : a = p
    · rw [z, upd_same]; simp
    · rw [upd_ne z]; exact r.fg a g
  · by_cases z : a = p
    · rw [z, upd_same]; simp
    · rw [upd_ne z]; exact e
/-- what an own slot holds -/
theorem own_at {C : Cc} {M : Addr → Prop} {H : Hp} {σ : L2.St} {env : Env} {i : Nat} {io : Bool} {d : PyData} (r : Rep C M H σ env) (he : env[i]? = some (.own io d)) : ∃ p xs ds, d = .list ds ∧ σ[i]? = some (some (.ref p)) ∧ H p = some (.lst xs) ∧ FRs (C.O M) H xs ds := by
  obtain ⟨s, h1, v, h2, h3, _⟩ := r.at_ i _ he
  cases h3 with
  | @lst a xs ds ha m rr => exact ⟨a, xs, ds, rfl, by rw [h1, h2], ha, rr⟩
/-- is there an own list in the slot -/
def isOwn (env : Env) (i : Nat) : Bool := match env[i]? with
  | some (.own _ _) => true
  | _ => false
theorem isOwn_at {C : Cc} {M : Addr → Prop} {H : Hp} {σ : L2.St} {env : Env} {i : Nat} (r : Rep C M H σ env) (h : isOwn env i = true) : ∃ io p xs ds, env[i]? = some (.own io (.list ds)) ∧ σ[i]? = some (some (.ref p)) ∧ H p = some (.lst xs) ∧ FRs (C.O M) H xs ds := by
  unfold isOwn at h
  split at h
  · rename_i io d e
    obtain ⟨p, xs, ds, rfl, h1, h2, h3⟩ := own_at r e
    exact ⟨io, p, xs, ds, e, h1, h2, h3⟩
  · cases h
/-- xs[k] = e, xs the own list of slot i -/
def dSetIx (i : Nat) (fk f : Ex) : Sx := fun T env => (f T env).thenS fun w e => if isOwn e i = true then (fk T e).thenS fun wk e1 => match takeW e1 w with
  | some (d, e2) => (match deref e2 wk, e2[i]? with
    | some (.int k), some (.own io (.list ds)) => (match ixN ds.length k with
      | some j => .nx (e2.set i (.own io (.list (ds.set j d))))
      | none => .bad)
    | _, _ => .bad)
  | none => .bad
  else .bad
theorem own_same {C : Cc} {M : Addr → Prop} {H : Hp} {σ : L2.St} {env : Env} {i : Nat} {io : Bool} {ds : List PyData} {p : Addr} (r : Rep C M H σ env) (he : env[i]? = some (.own io (.list ds))) (hs : σ[i]? = some (some (.ref p))) : ∃ xs, H p = some (.lst xs) ∧ FRs (C.O M) H xs ds := by
  obtain ⟨q, xs, ds', e, h1, h2, h3⟩ := own_at r he
  cases e
  rw [hs] at h1
  cases h1
  exact ⟨xs, h2, h3⟩
theorem pd_setIx {i : Nat} {x : Str} {ek e : Expr} {fk f : Ex} {opos pos px : Pos} (ho : PE X (.Name x px) (tVar i)) (hk : PE X ek (rdE K wx T fk)) (he : PE X e (rdE K wx T f)) (hs : swapsWithSole [.Subscript (.Name x px) ek opos] e pos.line X.env = pure false) (hw : swappedStores [.Subscript (.Name x px) ek opos] e X.env = pure none)
    (h1 : (assignEach [.Subscript (.Name x px) ek opos] X.env).map (·.2) = [assign (.Subscript (.Name x px) ek opos) X.env])
    (ha : ∀ v, assign (.Subscript (.Name x px) ek opos) X.env v = (do
      let ov ← holding [v] (eval (.Name x px) X.env)
      let iv ← holding [v, ov] (eval ek X.env)
      standAt opos
      holding [v, ov, iv] (setItem ov iv v)
      release [v, ov, iv] [])) : PS X (.Assign [.Subscript (.Name x px) ek opos] e pos) (rdS K wx T (dSetIx i fk f)) := by
  refine psImp (ps_asg he (pg_sub ho hk set_list ha) hs hw h1) fun σ H D q => ?_
  obtain ⟨C, env, M, hK, r, p⟩ := q
  refine rdS_bind hK r p fun w env1 v M1 H1 r1 s1 q1 p1 => ?_
  split at p1
  · rename_i hown
    obtain ⟨_, a, _, _, _, ha', _, _⟩ := isOwn_at r1 hown
    refine ⟨.ref a, ha', ?_⟩
    refine rdS_bind hK r1 p1 fun wk env2 vk M2 H2 r2 s2 q2 p2 => ?_
    split at p2
    · rename_i d e2 et
      obtain ⟨M3, r3, l3, f3⟩ := take_ok r2 (q1.step (env' := env2) s2) et
      have q3 := WR.step (env' := e2) (Step.shrink (H := H2) l3) q2
      split at p2
      · rename_i k io ds e3 e4
        split at p2
        · rename_i j hj
          obtain ⟨xs, hx, fx⟩ := own_same r3 e4 ha'
          obtain ⟨r5, s5⟩ := rep_upd r3 e4 ha' (fx.set f3 j)
          refine ⟨a, xs, k, j, rfl, (deref_br r3 q3 e3).int, hx, by rw [fx.length]; exact hj, ?_⟩
          refine p2 σ M3 _ ?_ ((Step.shrink l3).trans s5)
          exact r5
        · exact p2.elim
      · exact p2.elim
    · exact p2.elim
  · exact p1.elim
end
end Pv
end
section
set_option Elab.async false
set_option linter.all false
set_option maxRecDepth 100000
set_option maxHeartbeats 4000000
set_option autoImplicit false
namespace Pv
open PySem PySem.Spec PyProof.Rows L2
section
variable {X : Cx} {K : PySem.W.Frag} {wx : WX} {T : Tab}

def dAug (i : Nat) (F : PyData → PyData → Option PyData) (f : Ex) : Sx := fun T env => match env[i]? with
  | some (.val a) => (f T env).thenS fun w e => (match deref e w with
    | some b => (match F a b with
      | some d => .nx (e.set i (.val d))
      | none => .bad)
    | none => .bad)
  | _ => .bad
/-- reading an item of a list, by values -/
def rGetL (K : PySem.W.Frag) : V → V → Hp → VK → Prop := fun o i H Q => ∃ p xs k v, o = .ref p ∧ i = .int k ∧ SqL K H p xs ∧ 0 ≤ k ∧ xs[k.toNat]? = some v ∧ Q v H
theorem get_listN : PGet X (rGetL X.K) := by
  intro pins s σ H o i ov iv Q I ro ri h
  obtain ⟨p, xs, k, v, rfl, rfl, hq, h0, hv, q⟩ := h
  cases ro
  obtain ⟨t, rfl⟩ := ri
  obtain ⟨its, r, pl, hz⟩ := I.list hq
  obtain ⟨u, hu, ru⟩ := r.get hv
  have hl : k.toNat < xs.length := (List.getElem?_eq_some_iff.mp hv).1
  have hn := line63
  exact wpAny_getItem_list pl.isList h0 (by omega) (by simpa using hu) ⟨v, H, I, ru, q⟩
/-- xs[k] op= e, xs the own list of slot i -/
def dAugIx (i : Nat) (F : PyData → PyData → Option PyData) (fk f : Ex) : Sx := fun T env => if isOwn env i = true then (fk T env).thenS fun wk e1 => (match deref e1 wk, e1[i]? with
  | some (.int k), some (.own _ (.list ds)) => if 0 ≤ k then (match ds[k.toNat]? with
    | some a => (f T e1).thenS fun w e2 => (match deref e2 w, e2[i]? with
      | some b, some (.own io (.list ds2)) => (match F a b, ixN ds2.length k with
        | some d, some j => .nx (e2.set i (.own io (.list (ds2.set j d))))
        | _, _ => .bad)
      | _, _ => .bad)
    | none => .bad) else .bad
  | _, _ => .bad)
  else .bad
theorem pd_augIx {i : Nat} {x : Str} {ek e : Expr} {op : Operator} {r : R2} {F : PyData → PyData → Option PyData} {fk f : Ex} {tpos px pos : Pos} (hK : X.K = K) (ho : PE X (.Name x px) (tVar i)) (hk : PE X ek (rdE K wx T fk)) (he : PE X e (rdE K wx T f)) (hop : OpR X (inplaceOp op) r) (hF : OpD r F)
    (ha : ∀ ov iv new, augStore ek ov iv new = (do holding [new, ov, iv] (setItem ov iv new); release [new, ov, iv] []; pure .next)) : PS X (.AugAssign (.Subscript (.Name x px) ek tpos) op e pos) (rdS K wx T (dAugIx i F fk f)) := by
  subst hK
  refine psImp (ps_augS ho hk get_listN he (tip := r) hop set_list ha) fun σ H D q => ?_
  obtain ⟨C, env, M, hK, rp, p⟩ := q
  unfold dAugIx at p
  split at p
  · rename_i hown
    obtain ⟨_, a, _, _, _, ha', _, _⟩ := isOwn_at rp hown
    refine ⟨.ref a, ha', rdS_bind hK rp p fun wk env1 vk M1 H1 r1 s1 q1 p1 => ?_⟩
    split at p1
    · rename_i k io ds e1 e2
      split at p1
      · rename_i h0
        split at p1
        · rename_i x0 ex0
          obtain ⟨xs, hx, fx⟩ := own_same r1 e2 ha'
          obtain ⟨v0, hv0, fv0⟩ := fx.get ex0
          refine ⟨a, xs, k, v0, rfl, (deref_br r1 q1 e1).int, SqL.of hx, h0, hv0, ?_⟩
          refine rdS_bind hK r1 p1 fun w env2 v M2 H2 r2 s2 q2 p2 => ?_
          split at p2
          · rename_i b io2 ds2 e3 e4
            split at p2
            · rename_i d j ed ej
              refine hF (C.O M2) H2 v0 v x0 b d _ (fun p n => r2.fresh n) (.fr (FR.step s2 fv0)) (deref_br r2 q2 e3) ed fun z H' ex fr => ?_
              have r3 := r2.ext ex
              obtain ⟨ys, hy, fy⟩ := own_same r3 e4 ha'
              obtain ⟨r5, s5⟩ := rep_upd r3 e4 ha' (fy.set fr j)
              exact ⟨a, ys, k, j, rfl, (deref_br r1 q1 e1).int, hy, by rw [fy.length]; exact ej, p2 σ M2 _ r5 ((Step.ext ex).trans s5)⟩
            · exact p2.elim
          · exact p2.elim
        · exact p1.elim
      · exact p1.elim
    · exact p1.elim
  · exact p.elim

/-- a method's rule by values serves F: from the list and the (kept) arguments to the list behind it and the answer -/
def MtD (r : V → List V → Hp → VK → Prop) (F : List PyData → List PyData → Option (List PyData × PyData)) : Prop :=
  ∀ (O : Addr → Prop) (H : Hp) (p : Addr) (xs : List V) (ds : List PyData) (vs : List V) (as : List PyData) (ds' : List PyData) (d : PyData) (Q : VK), H p = some (.lst xs) → O p → FRs O H xs ds → FRs O H vs as → F ds as = some (ds', d) →
    (∀ v xs', FRs O H xs' ds' → FR O H v d → Q v (upd H p (.lst xs'))) → r (.ref p) vs H Q
def dMeth (i : Nat) (F : List PyData → List PyData → Option (List PyData × PyData)) (g : Ax) : Ex := fun T env => if isOwn env i = true then (g T env).bind fun ws e => match takes e ws with
  | some (as, e1) => (match e1[i]? with
    | some (.own io (.list ds)) => (match F ds as with
      | some (ds', d) => .ok (.d d) (e1.set i (.own io (.list ds')))
      | none => .bad)
    | _ => .bad)
  | none => .bad
  else .bad
theorem meth_rd {i : Nat} {r : V → List V → Hp → VK → Prop} {F : List PyData → List PyData → Option (List PyData × PyData)} {g : Ax} (hF : MtD r F) {σ : L2.St} {H : Hp} {Q : VK} (h : rdE K wx T (dMeth i F g) σ H Q) :
    ∃ a xs, σ[i]? = some (some (.ref a)) ∧ H a = some (.lst xs) ∧ rdA K wx T g σ H fun vs H2 => r (.ref a) vs H2 Q := by
  obtain ⟨C, env, M, hK, rp, p⟩ := h
  unfold dMeth at p
  split at p
  · rename_i hown
    obtain ⟨_, a, xs0, _, _, ha', hx0, _⟩ := isOwn_at rp hown
    refine ⟨a, xs0, ha', hx0, rd_bind hK rp p fun ws env1 vs M1 H1 r1 s1 q1 p1 => ?_⟩
    split at p1
    · rename_i as e1 et
      obtain ⟨M2, r2, l2, f2⟩ := takes_ok r1 q1 et
      split at p1
      · rename_i io ds e2
        split at p1
        · rename_i ds' d ed
          obtain ⟨xs, hx, fx⟩ := own_same r2 e2 ha'
          have mp : M2 a := by
            obtain ⟨s, h1, v, h2, h3, _⟩ := r2.at_ i _ e2
            rw [h1, h2] at ha'
            cases ha'
            cases h3 with | lst _ m _ => exact m
          refine hF (C.O M2) H1 a xs ds vs as ds' d Q hx (.inl mp) fx f2 ed fun v xs' fx' fv => ?_
          obtain ⟨r5, s5⟩ := rep_upd r2 e2 ha' fx'
          exact p1 v M2 _ r5 ((Step.shrink l2).trans s5) (FR.step s5 fv)
        · exact p1.elim
      · exact p1.elim
    · exact p1.elim
  · exact p.elim
theorem pd_meth {i : Nat} {x name : Str} {id : String} {r : V → List V → Hp → VK → Prop} {F : List PyData → List PyData → Option (List PyData × PyData)} {g : Ax} {e : Expr} {es : List Expr} {px apos cpos : Pos} (pa : PlainAttrs "list") (slot : Slot "list" name id) (hty : typeOf (.builtin id) = pure (.type "method_descriptor")) (hm : MtR X id r) (hF : MtD r F)
    (ho : PE X (.Name x px) (tVar i)) (ha : PA X (e :: es) (rdA K wx T g)) (h : PE X (.Call (.Attribute (.Name x px) name apos) (e :: es) [] cpos) (tBM X.K "list" r (tVar i) (rdA K wx T g))) :
    PE X (.Call (.Attribute (.Name x px) name apos) (e :: es) [] cpos) (rdE K wx T (dMeth i F g)) := peImp h fun σ H Q q => by
  obtain ⟨a, xs, h1, h2, h3⟩ := meth_rd hF q
  exact ⟨.ref a, h1, .inl ⟨rfl, xs, SqL.of h2⟩, h3⟩
end
end Pv
end
section
set_option Elab.async false
set_option linter.all false
set_option maxRecDepth 100000
set_option maxHeartbeats 4000000
set_option autoImplicit false
namespace Pv
open PySem PySem.Spec PyProof.Rows L2
section
variable {X : Cx} {K : PySem.W.Frag} {wx : WX} {T : Tab}
def forL (T : Tab) (tgt : Gx) (body : Sx) : List PyData → Env → Fl
  | [], env => .nx env
  | d :: ds, env => match tgt d env with
    | none => .bad
    | some e1 => match body T e1 with
      | .nx e => forL T tgt body ds e
      | .ct e => forL T tgt body ds e
      | .bk e => .nx e
      | r => r
def dFor (src : Ix) (tgt : Gx) (body : Sx) : Sx := fun T env => (src T env).thenS fun ds e => forL T tgt body ds e
theorem pd_for {tg iter : Expr} {body : List Stmt} {src : Ix} {tgt : Gx} {is : List Nat} {g : Sx} {pos : Pos} (hp : PassesOwn (model X.prog X.w) X.A X.env X.xe) (hc : X.calm = true) (hi : PI X tg iter (rdI K wx T src)) (hg : PG X tg (rdG K tgt is)) (hb : PSs X body (rdS K wx T g))
    (hs : ∀ x, foldedSetIterable iter X.env x = pure x) : PS X (.For tg iter body [] pos) (rdS K wx T (dFor src tgt g)) := by
  refine psImp (ps_for hp hc hi hg hb hs) fun σ H D q => ?_
  obtain ⟨C, env, M, hK, r, p⟩ := q
  refine rdS_bind hK r p fun ds e0 J M1 H1 r1 s1 hw p1 => ?_
  refine ⟨fun i m σ H => m = ds.length - i ∧ i ≤ ds.length ∧ ∃ env M, Rep C M H σ env ∧ Step M1 H1 M H ∧ PostS C wx M1 H1 (forL T tgt g (ds.drop i) env) D, ⟨_, rfl, Nat.zero_le _, e0, M1, r1, Step.refl _ _, by simpa using p1⟩, ?_⟩
  rintro i m σ2 H2 ⟨rfl, hle, env2, M2, r2, s2, p2⟩
  have mono := s2.mono (C := C)
  by_cases hlt : i < ds.length
  · have e : ds[i]? = some ds[i] := List.getElem?_eq_getElem hlt
    obtain ⟨hgo, hy⟩ := hw.go _ H2 i _ mono (fun p n => r2.fresh n) e
    refine .inr ⟨hgo, fun σ' H' => ∃ env M, Rep C M H' σ' env ∧ Step M1 H1 M H' ∧ PostS C wx M1 H1 (forL T tgt g (ds.drop (i + 1)) env) D, fun σ' H' z => ⟨ds.length - (i + 1), by omega, rfl, by omega, z⟩, fun x H' y => ?_⟩
    obtain ⟨ex, fr⟩ := hy x H' y
    rw [List.drop_eq_getElem_cons hlt] at p2
    unfold forL at p2
    split at p2
    · exact p2.elim
    · rename_i e1 et
      refine ⟨C, env2, M2, ds[i], hK, r2.ext ex, fr, e1, et, fun σ3 r3 _ _ => ⟨C, e1, M2, hK, r3, ?_⟩⟩
      have s3 : Step M1 H1 M2 H' := s2.trans (Step.ext ex)
      cases eb : g T e1 with
      | nx e4 => rw [eb] at p2; exact fun σ' M' H'' r' s' => ⟨e4, M', r', s3.trans s', p2⟩
      | ct e4 => rw [eb] at p2; exact fun σ' M' H'' r' s' => ⟨e4, M', r', s3.trans s', p2⟩
      | bk e4 => rw [eb] at p2; exact fun σ' M' H'' r' s' => p2 σ' M' H'' r' (s3.trans s')
      | ret d e4 => rw [eb] at p2; exact fun v σ' M' H'' r' s' f => p2 v σ' M' H'' r' (s3.trans s') f
      | exc c e4 => rw [eb] at p2; exact fun σ' M' H'' r' s' => p2 σ' M' H'' r' (s3.trans s')
      | bad => rw [eb] at p2; exact p2
  · have e : i = ds.length := by omega
    subst e
    rw [List.drop_length] at p2
    exact .inl ⟨hw.stop _ H2 mono, p2 σ2 M2 H2 r2 s2⟩
def whileL (T : Tab) (c : Tx) (body : Sx) : Nat → Env → Fl
  | 0, _ => .bad
  | n + 1, env => (c T env).thenS fun k e => if k = true then
      (match body T e with
      | .nx e => whileL T c body n e
      | .ct e => whileL T c body n e
      | .bk e => .nx e
      | r => r)
    else .nx e
def dWhile (c : Tx) (body : Sx) : Sx := fun T env => whileL T c body T.wh env
theorem pd_while {c : Expr} {body : List Stmt} {tc : Tx} {g : Sx} {pos : Pos} (hp : PassesOwn (model X.prog X.w) X.A X.env X.xe) (hc : PT X c (rdT K wx T tc)) (hb : PSs X body (rdS K wx T g)) : PS X (.While c body [] pos) (rdS K wx T (dWhile tc g)) := by
  refine psImp (ps_while hp hc hb) fun σ H D q => ?_
  obtain ⟨C, env, M, hK, r, p⟩ := q
  refine ⟨fun m σ' H' => ∃ env' M', Rep C M' H' σ' env' ∧ PostS C wx M' H' (whileL T tc g m env') D, ⟨T.wh, env, M, r, p⟩, ?_⟩
  rintro m σ1 H1 ⟨env1, M1, r1, p1⟩
  cases m with
  | zero => exact p1.elim
  | succ n =>
    unfold whileL at p1
    refine rdS_bind hK r1 p1 fun k env2 v M2 H2 r2 s2 q2 p2 => ?_
    have q2 : k = v := q2
    subst q2
    cases k with
    | true =>
      rw [if_pos rfl] at p2 ⊢
      refine ⟨fun σ' H' => ∃ env' M', Rep C M' H' σ' env' ∧ PostS C wx M' H' (whileL T tc g n env') D, fun σ' H' z => ⟨n, Nat.lt_succ_self n, z⟩, C, env2, M2, hK, r2, ?_⟩
      cases eb : g T env2 with
      | nx e4 => rw [eb] at p2; exact fun σ' M' H'' r' s' => ⟨e4, M', r', PostS.later p2 s'⟩
      | ct e4 => rw [eb] at p2; exact fun σ' M' H'' r' s' => ⟨e4, M', r', PostS.later p2 s'⟩
      | bk e4 => rw [eb] at p2; exact fun σ' M' H'' r' s' => p2 σ' M' H'' r' s'
      | ret d e4 => rw [eb] at p2; exact fun v σ' M' H'' r' s' f => p2 v σ' M' H'' r' s' f
      | exc c e4 => rw [eb] at p2; exact fun σ' M' H'' r' s' => p2 σ' M' H'' r' s'
      | bad => rw [eb] at p2; exact p2
    | false =>
      rw [if_neg Bool.false_ne_true] at p2 ⊢
      exact p2 σ1 M2 H2 r2 (Step.refl _ _)

def dRaise (c : Str) : Sx := fun _ env => .exc c env
theorem pd_raise {x m : Str} {j : Nat} {p p2 pos pos2 : Pos} {bmB : List Value} {newId initId B : String} (hK : X.K = K) (hc : X.calm = true) (tk : Takes X wx) (F : ExcBaseFacts B newId initId bmB) (q : PySem.W.excIn X.K (He.ga K x) bmB newId = true) (gC : X.mg x = some (.ref (He.ga K x)))
    (kC : PySem.W.keepIn X.K (.ref (He.ga K x)) = true) (r : Raises X (.ref (He.ga K x))) (hg : Gl X x) (hdb : (x == ("__debug__" : Str)) = false) : PS X (.Raise (some (.Call (.Name x p) [.Constant (.str m) j p2] [] pos)) none pos2) (rdS K wx T (dRaise x)) := by
  subst hK
  refine psImp (ps_raise hc tk (pmk_own F q gC kC r hg hdb)) fun σ H D h => ?_
  obtain ⟨C, env, M, hK, rp, p⟩ := h
  have z := p σ M H rp (Step.refl _ _)
  rw [hK] at z
  exact z

def fAppend : List PyData → List PyData → Option (List PyData × PyData)
  | ds, [d] => if ds.length < LINE then some (ds ++ [d], .none) else none
  | _, _ => none
theorem appendD : MtD rAppend fAppend := by
  intro O H p xs ds vs as ds' d Q h m f fa e q
  unfold fAppend at e
  split at e
  · split at e
    · rename_i x hz
      cases e
      cases fa with
      | cons fx t =>
        cases t
        exact ⟨p, xs, _, rfl, rfl, h, Nat.lt_of_lt_of_le (by rw [f.length]; exact hz) (le_line (Nat.le_refl _)), q .non _ (f.append (.cons fx .nil)) .non⟩
    · cases e
  · cases e
def fPopAt : List PyData → List PyData → Option (List PyData × PyData)
  | ds, [.int i] => if -1000000000 < i ∧ i < 1000000000 then (match seqIndex? i ds.length with
    | some k => (match ds[k]? with
      | some d => some (ds.eraseIdx k, d)
      | none => none)
    | none => none) else none
  | _, _ => none
theorem popAtD : MtD rPopAt fPopAt := by
  intro O H p xs ds vs as ds' d Q h m f fa e q
  unfold fPopAt at e
  split at e
  · rename_i i
    split at e
    · rename_i hz
      split at e
      · rename_i k ek
        split at e
        · rename_i d0 ed
          cases e
          cases fa with
          | cons fx t =>
            cases t
            cases fx
            obtain ⟨v, hv, fv⟩ := f.get ed
            exact ⟨p, xs, i, k, v, rfl, rfl, h, by omega, by omega, by rw [f.length]; exact ek, hv, q v _ (f.eraseIdx k) fv⟩
        · cases e
      · cases e
    · cases e
  · cases e
mutual
def noList : PyData → Bool
  | .list _ => false
  | .dict _ => false
  | .tuple ds => noLists ds
  | _ => true
def noLists : List PyData → Bool
  | [] => true
  | d :: ds => noList d && noLists ds
end
end
end Pv
end
section
set_option Elab.async false
set_option linter.all false
set_option maxRecDepth 100000
set_option maxHeartbeats 4000000
set_option autoImplicit false
namespace Pv
open PySem PySem.Spec PyProof.Rows L2
/-- room for k calls, and no repr under way -/
structure RoomG (k : Nat) (A : Around) : Prop where
  rm : Room k A
  gd : A.guards = some []
theorem RoomG.down {k : Nat} {A : Around} (r : RoomG (k + 1) A) (e : PySem.Env) : RoomG k (A.deeper e) := ⟨r.rm.deeper e, r.gd⟩
/-- what a def promises there -/
structure FnG (P : Program) (w : World) (K : PySem.W.Frag) (mg : Str → Option Value) (base : Heap) (Z : CXT) (k : Nat) (f : Addr) (fd : FuncData) (ps : List Str) (sp : Sp) : Prop where
  few : ∀ ys H Q E, sp ys H Q E → ys.length = ps.length
  go : ∀ {A : Around} {out : List PySem.Env} {s : Shared} {H : Hp} {as : Args} {us : List Value} {ys : List V} {Q : VK} {E : XK}, RoomG k A → Env0 P w K mg base A out s H → BindsTo s fd as (ps.zip us) → Vals ys us → sp ys H Q E →
    codeAny (model P w) A (.call (.ref f) as) (CR Z out P w H s Q E) s
section
variable {Z : CXT} {P : Program} {w : World} {K : PySem.W.Frag} {mg : Str → Option Value} {base : Heap} {k : Nat} {f : Addr} {fd : FuncData} {x q : Str} {params : Arguments} {body : List Stmt} {scope : Scope} {dvs : List V} {kws : List (Str × V)} {N ps : List Str} {sp : Sp}
/-- a def by its body -/
theorem fnG_body (F : FunD K x q params body scope dvs kws f fd) (S : FnScope N ps scope) (few : ∀ ys H Q E, sp ys H Q E → ys.length = ps.length)
    (B : ∀ (cdv : Value) (A : Around) (out : List PySem.Env) (s : Shared) (H : Hp) (ys : List V) (Q : VK) (E : XK), RoomG k (A.deeper (envOfC q scope s.heap.objs.size f cdv)) → sp ys H Q E →
      ∃ t, PSs (cxOf Z P w K mg base N q scope f cdv A out s H E) body t ∧ t { nx := fun _ G => Q .non G, rt := Q } (L2.start N ys) H) : FnG P w K mg base Z (k + 1) f fd ps sp := by
  obtain ⟨_, _, _, _, _, _, _, cd, _, _, rfl, atf, codeK, _, _⟩ := F.ex
  refine ⟨few, fun {A out s H as us ys Q E} room en bi vals h => ?_⟩
  have same := few _ _ _ _ h
  have hereK : K.In s.heap := en.mod.kin.keeps fun b o z => (en.bs b o z).1
  have noLim : s.heap.NoLimit := en.mod.nolimit.keeps fun b o z => (en.bs b o z).1
  refine codeAny_call_function room.rm.depth (hereK _ _ atf) rfl S.co S.gen rfl (PySem.W.codeRec_of hereK codeK) (bi _ _ _ _ ?_)
  refine wpAny_newFunctionEnv_cells S.kind (fun y hy => ?_) fun env same_env s2 fresh => ?_
  · obtain ⟨a, b⟩ := y
    rcases S.par a (List.of_mem_zip hy).1 with z | z
    · exact .inl z
    · exact .inr ⟨z, PySem.W.cellsFrom_some _ _ _ (.inl z)⟩
  · subst same_env
    refine ⟨noLim.keeps fresh.toInCall.keep, codeAny_func ?_⟩
    obtain ⟨t, run, here⟩ := B cd A out s H ys Q E (room.down _) h
    have I0 := inv_start (CX := Z) (N := N) (E := E) S room.rm.hd en same vals fresh
    refine wpAny_mono (run.run [] s2 (L2.start N ys) H _ I0 here) (fun fl s3 h3 => ?_) fun _ _ h3 => h3
    cases fl with
    | ret u =>
      obtain ⟨y, σ3, H3, J, rel, ok⟩ := h3
      exact ⟨y, H3, J.os, J.bare, J.base, J.hok, rel, ok⟩
    | next =>
      obtain ⟨σ3, H3, J, ok⟩ := h3
      exact ⟨.non, H3, J.os, J.bare, J.base, J.hok, rfl, ok⟩
    | brk =>
      obtain ⟨_, _, _, no⟩ := h3
      exact no.elim
    | cont =>
      obtain ⟨_, _, _, no⟩ := h3
      exact no.elim
end
section
variable {X : Cx} {Z : CXT} {k : Nat} {f : Addr} {fd : FuncData} {ps : List Str} {sp : Sp} {E : L2.St → XK} {x : Str} {p pos : Pos} {e : Expr} {es : List Expr} {t : TA}
/-- x(..), x such a def -/
theorem pe_callG (F : FnG X.prog X.w X.K X.mg X.base Z k f fd ps sp) (room : RoomG k X.A) (hg : Gl X x) (hm : X.mg x = some (.ref f)) (hk : PySem.W.keepIn X.K (.ref f) = true) (hb : Binds X.K fd ps []) (out : ∀ σ, PassesAt Z X σ (E σ))
    (ha : PA X (e :: es) t) (hdb : (x == ("__debug__" : Str)) = false) (first : starEach (e :: es) X.env = (false, eval e X.env) :: starEach es X.env) (plain : (backTo pos (starEach es X.env)).any (·.1) = false) :
    PE X (.Call (.Name x p) (e :: es) [] pos) (tCallS sp E t) := by
  constructor
  intro pins s σ H Q I h
  refine wpAny_Call_Name_kw (ld_glob I hg hm ?_ hdb)
  refine PySem.W.callWith_K (h₀ := X.base) I.ok.mod.kin hk (thn (ha.run pos pins s σ H _ I h) fun us s2 ⟨ys, H2, J, rel, now⟩ => ⟨J.kIn, ?_⟩) first plain
  have n : us.length = ps.length := rel.length.symm.trans (F.few _ _ _ _ now)
  have bi := hb s2 us J.kIn (by rw [List.append_nil]; exact n)
  rw [List.append_nil] at bi
  refine wpAny_call (codeAny_mono (F.go room J.env0 bi rel now) fun r s3 h3 => ?_)
  cases r with
  | error err => exact out σ pins H2 s2 err s3 J h3
  | ok fl =>
    cases fl with
    | ret u => exact J.after h3
    | next => exact h3.elim
    | brk => exact h3.elim
    | cont => exact h3.elim
end
end Pv
end
section
set_option Elab.async false
set_option linter.all false
set_option maxRecDepth 100000
set_option maxHeartbeats 4000000
set_option autoImplicit false
namespace Pv
open PySem PySem.Spec PyProof.Rows L2

abbrev oF (M Fg : Addr → Prop) : Addr → Prop := fun a => M a ∨ Fg a
/-- the arguments at a call; io: the first one is a list to be changed -/
structure Call0 (M Fg : Addr → Prop) (H : Hp) (io : Bool) (vs : List V) (ds : List PyData) : Prop where
  live : ∀ a, M a → ∃ xs, H a = some (.lst xs)
  fg : ∀ a, Fg a → H a ≠ none
  apart : ∀ a, Fg a → ¬ M a
  frozen : io = false → FRs (oF M Fg) H vs ds
  given_ : io = true → ∃ a xs es vs' ds', vs = .ref a :: vs' ∧ ds = .list es :: ds' ∧ H a = some (.lst xs) ∧ M a ∧ FRs (oF M Fg) H xs es ∧ FRs (oF M Fg) H vs' ds'
def IoR (M Fg : Addr → Prop) (H : Hp) (io : Bool) (vs : List V) (ios : List PyData) : Prop :=
  if io = true then ∃ a vs' xs es, vs = .ref a :: vs' ∧ ios = [.list es] ∧ M a ∧ H a = some (.lst xs) ∧ FRs (oF M Fg) H xs es else ios = []
def spF (K : PySem.W.Frag) (n : Nat) (io : Bool) (res : List PyData → FnRes) : Sp := fun vs H Q E => vs.length = n ∧ ∃ M Fg ds, Call0 M Fg H io vs ds ∧ match res ds with
  | .ok d ios => ∀ v M' H', Step M H M' H' → FR (oF M' Fg) H' v d → IoR M' Fg H' io vs ios → Q v H'
  | .exc c => ∀ M' H', Step M H M' H' → E (.ref (He.ga K c)) none H'
  | .bad => False
/-- the slots at a def's entry -/
def startE (io : Bool) (tot : Nat) (ds : List PyData) : Env := (match io, ds with
  | true, d :: r => SV.own true d :: r.map SV.val
  | _, ds => ds.map SV.val) ++ List.replicate (tot - ds.length) .un
def ioOut (io : Bool) (env : Pv.Env) : Option (List PyData) := match io with
  | false => some []
  | true => (match env[0]? with
    | some (SV.own true d) => some [d]
    | _ => none)
/-- what a def gives for its arguments -/
def fnRes (n : Nat) (io : Bool) (tot : Nat) (body : Sx) (T : Tab) (ds : List PyData) : FnRes := if ds.length = n then (match body T (startE io tot ds) with
  | .ret d e => (match ioOut io e with
    | some l => .ok d l
    | none => .bad)
  | .nx e => (match ioOut io e with
    | some l => .ok .none l
    | none => .bad)
  | .exc c _ => if io = false then .exc c else .bad
  | _ => .bad) else .bad
theorem frs_at {C : Cc} {M : Addr → Prop} {H : Hp} {tot : Nat} : ∀ {vs : List V} {ds : List PyData} {i : Nat} {sv : SV}, FRs (C.O M) H vs ds → (ds.map SV.val ++ List.replicate tot SV.un)[i]? = some sv → ∃ s, (vs.map some ++ List.replicate tot (none : Option V))[i]? = some s ∧ SVR C M H 0 s sv := by
  intro vs ds i sv f h
  by_cases hi : i < ds.length
  · rw [List.getElem?_append_left (by simpa using hi), List.getElem?_map, List.getElem?_eq_getElem hi] at h
    cases h
    obtain ⟨v, h1, h2⟩ := f.get (List.getElem?_eq_getElem hi)
    refine ⟨some v, ?_, v, rfl, h2⟩
    rw [List.getElem?_append_left (by rw [List.length_map, f.length]; exact hi), List.getElem?_map, h1]; rfl
  · rw [List.getElem?_append_right (by simpa using hi), List.getElem?_replicate] at h
    split at h
    · rename_i hl
      cases h
      refine ⟨none, ?_, trivial⟩
      rw [List.getElem?_append_right (by rw [List.length_map, f.length]; omega), List.getElem?_replicate, if_pos (by simp at hl ⊢; rw [f.length]; omega)]
    · cases h
theorem SVR.ix {C : Cc} {M : Addr → Prop} {H : Hp} {i j : Nat} {s : Option V} {d : SV} (hn : ∀ d', d ≠ .own true d') (h : SVR C M H i s d) : SVR C M H j s d := by
  cases d with
  | un => trivial
  | val d => exact h
  | own io d =>
    cases io with
    | true => exact absurd rfl (hn d)
    | false => obtain ⟨v, h1, h2, h3⟩ := h; exact ⟨v, h1, h2, fun z => Bool.noConfusion z⟩
  | scr ns => exact h
theorem no_own {ds : List PyData} {t i : Nat} {b : Bool} {d : PyData} : (ds.map SV.val ++ List.replicate t SV.un)[i]? = some (SV.own b d) → False := fun h => by
  have m := List.mem_of_getElem? h
  rcases List.mem_append.mp m with m | m
  · obtain ⟨_, _, z⟩ := List.mem_map.mp m
    cases z
  · cases (List.mem_replicate.mp m).2
/-- the state at a def's entry -/
theorem rep_start {K : PySem.W.Frag} {M Fg : Addr → Prop} {H : Hp} {io : Bool} {vs : List V} {ds : List PyData} {N : List Str} (c : Call0 M Fg H io vs ds) (hl : vs.length ≤ N.length) :
    ∃ C : Cc, C.K = K ∧ C.Fg = Fg ∧ Rep C M H (L2.start N vs) (startE io N.length ds) ∧ (io = true → ∃ a vs', vs = .ref a :: vs' ∧ C.ios 0 = some a) := by
  cases io with
  | false =>
    have f := c.frozen rfl
    refine ⟨⟨K, fun _ => none, Fg⟩, rfl, rfl, ?_, fun z => Bool.noConfusion z⟩
    have e : startE false N.length ds = ds.map SV.val ++ List.replicate (N.length - ds.length) .un := by unfold startE; cases ds <;> rfl
    rw [e, ← f.length]
    unfold L2.start
    refine ⟨by simp [f.length], fun i sv h => ?_, fun i j a bi bj di dj _ ei _ _ _ => no_own ei, c.live, c.fg, c.apart⟩
    obtain ⟨s, h1, h2⟩ := frs_at (C := ⟨K, fun _ => none, Fg⟩) f h
    refine ⟨s, h1, SVR.ix (fun d' z => ?_) h2⟩
    subst z
    exact no_own h
  | true =>
    obtain ⟨a, xs, es, vs', ds', rfl, rfl, ha, m, fx, f⟩ := c.given_ rfl
    refine ⟨⟨K, fun i => if i = 0 then some a else none, Fg⟩, rfl, rfl, ?_, fun _ => ⟨a, vs', rfl, rfl⟩⟩
    have hl' : vs'.length + 1 ≤ N.length := hl
    have e : startE true N.length (.list es :: ds') = SV.own true (.list es) :: (ds'.map SV.val ++ List.replicate (N.length - (ds'.length + 1)) .un) := rfl
    have e2 : L2.start N (V.ref a :: vs') = some (V.ref a) :: (vs'.map some ++ List.replicate (N.length - (ds'.length + 1)) none) := by
      unfold L2.start
      rw [← f.length]; rfl
    rw [e, e2]
    refine ⟨by simp [f.length], fun i sv h => ?_, fun i j b bi bj di dj hij ei ej _ _ => ?_, c.live, c.fg, c.apart⟩
    · cases i with
      | zero =>
        cases h
        exact ⟨some (.ref a), rfl, .ref a, rfl, .lst ha m fx, fun _ => ⟨a, rfl, rfl⟩⟩
      | succ i =>
        have h : (ds'.map SV.val ++ List.replicate (N.length - (ds'.length + 1)) SV.un)[i]? = some sv := h
        obtain ⟨s, h1, h2⟩ := frs_at (C := ⟨K, fun i => if i = 0 then some a else none, Fg⟩) f h
        refine ⟨s, h1, SVR.ix (fun d' z => ?_) h2⟩
        subst z
        exact no_own h
    · cases i with
      | zero =>
        cases j with
        | zero => exact hij rfl
        | succ j => exact no_own (show (ds'.map SV.val ++ List.replicate (N.length - (ds'.length + 1)) SV.un)[j]? = some (.own bj dj) from ej)
      | succ i => exact no_own (show (ds'.map SV.val ++ List.replicate (N.length - (ds'.length + 1)) SV.un)[i]? = some (.own bi di) from ei)
theorem io_out {C : Cc} {M : Addr → Prop} {H : Hp} {σ : L2.St} {env : Env} {io : Bool} {vs : List V} {l : List PyData} (r : Rep C M H σ env) (hi : io = true → ∃ a vs', vs = .ref a :: vs' ∧ C.ios 0 = some a) (e : ioOut io env = some l) : IoR M C.Fg H io vs l := by
  unfold IoR
  cases io with
  | false =>
    rw [if_neg Bool.false_ne_true]
    cases e; rfl
  | true =>
    rw [if_pos rfl]
    obtain ⟨a, vs', rfl, hio⟩ := hi rfl
    unfold ioOut at e
    dsimp only at e
    split at e
    · rename_i d he
      cases e
      obtain ⟨s, h1, v, h2, h3, h4⟩ := r.at_ 0 _ he
      obtain ⟨a', e1, e2⟩ := h4 rfl
      rw [hio] at e1
      cases e1
      subst e2
      cases h3 with
      | lst ha m rr => exact ⟨_, vs', _, _, rfl, rfl, m, ha, rr⟩
    · cases e
/-- the body keeps the promise -/
theorem body_ok {K : PySem.W.Frag} {n : Nat} {io : Bool} {N : List Str} {body : Sx} {T : Tab} (hn : n ≤ N.length) {vs : List V} {H : Hp} {Q : VK} {E : XK} (h : spF K n io (fnRes n io N.length body T) vs H Q E) :
    rdS K (fun cls d _ H => E cls d H) T body { nx := fun _ H' => Q .non H', rt := Q } (L2.start N vs) H := by
  obtain ⟨hl, M, Fg, ds, c, p⟩ := h
  obtain ⟨C, hK, hFg, r, hi⟩ := rep_start (K := K) (N := N) c (by omega)
  refine ⟨C, startE io N.length ds, M, hK, r, ?_⟩
  subst hFg
  unfold fnRes at p
  by_cases hd : ds.length = n
  case neg => rw [if_neg hd] at p; exact p.elim
  case pos =>
    rw [if_pos hd] at p
    cases eb : body T (startE io N.length ds) with
    | ret d e =>
      rw [eb] at p
      dsimp only at p
      cases eo : ioOut io e with
      | none => rw [eo] at p; exact p.elim
      | some l =>
        rw [eo] at p
        exact fun v σ' M' H' r' s' f => p v M' H' s' f (io_out r' hi eo)
    | nx e =>
      rw [eb] at p
      dsimp only at p
      cases eo : ioOut io e with
      | none => rw [eo] at p; exact p.elim
      | some l =>
        rw [eo] at p
        exact fun σ' M' H' r' s' => p .non M' H' s' .non (io_out r' hi eo)
    | exc c e =>
      rw [eb] at p
      dsimp only at p
      cases io with
      | false =>
        rw [if_pos rfl] at p
        intro σ' M' H' r' s'
        rw [hK]
        exact p M' H' s'
      | true =>
        rw [if_neg (by decide)] at p
        exact p.elim
    | bk e => rw [eb] at p; exact p.elim
    | ct e => rw [eb] at p; exact p.elim
    | bad => rw [eb] at p; exact p.elim

mutual
theorem FR.monoT {O O' : Addr → Prop} {H H' : Hp} (k : ∀ a xs, H a = some (.tup xs) → ¬ O a → H' a = some (.tup xs) ∧ ¬ O' a) : ∀ (d : PyData) (v : V), noList d = true → FR O H v d → FR O' H' v d
  | .none, _, _, h => by cases h; exact .non
  | .bool b, _, _, h => by cases h; exact .bl b
  | .int i, _, _, h => by cases h; exact .int i
  | .str x, _, _, h => by cases h; exact .str x
  | .list ds, _, n, _ => by simp [noList] at n
  | .tuple ds, _, n, h => by
    cases h with
    | tup e na r => exact .tup (k _ _ e na).1 (k _ _ e na).2 (FRs.monoT k ds _ (by simpa [noList] using n) r)
  | .dict _, _, n, _ => by simp [noList] at n
theorem FRs.monoT {O O' : Addr → Prop} {H H' : Hp} (k : ∀ a xs, H a = some (.tup xs) → ¬ O a → H' a = some (.tup xs) ∧ ¬ O' a) : ∀ (ds : List PyData) (vs : List V), noLists ds = true → FRs O H vs ds → FRs O' H' vs ds
  | [], _, _, h => by cases h; exact .nil
  | d :: ds, _, n, h => by
    cases h with
    | cons a b =>
      have n' : noList d = true ∧ noLists ds = true := by simpa [noLists] using n
      exact .cons (FR.monoT k d _ n'.1 a) (FRs.monoT k ds _ n'.2 b)
end
def isSl : W → Bool
  | .sl _ => true
  | .d _ => false
def dCallF (x : Str) (g : Ax) : Ex := fun T env => (g T env).bind fun ws e => match derefs e ws with
  | some ds => (match T.fn x ds with
    | .ok d [] => if ws.any isSl = true ∧ noList d = false then .bad else .ok (.d d) e
    | .exc c => .exc c e
    | _ => .bad)
  | none => .bad
def dCallIo (x : Str) (g : Ax) : Ex := fun T env => (g T env).bind fun ws e => match ws with
  | .sl i :: ws' => (match e[i]?, derefs e ws' with
    | some (.own b d0), some ds => if ws'.any isSl = true then .bad else (match T.fn x (d0 :: ds) with
      | .ok d [d1] => .ok (.d d) (e.set i (.own b d1))
      | _ => .bad)
    | _, _ => .bad)
  | _ => .bad
/-- the own lists that are lent as arguments -/
def Lent (σ : L2.St) (ws : List W) (b : Addr) : Prop := ∃ j, W.sl j ∈ ws ∧ σ[j]? = some (some (.ref b))
theorem lent_args {C : Cc} {M : Addr → Prop} {H : Hp} {σ : L2.St} {env env' : Env} {O' : Addr → Prop} (r : Rep C M H σ env) (hO : ∀ b, O' b → C.O M b) : ∀ {ws : List W} {vs : List V} {ds : List PyData}, (∀ b, Lent σ ws b → ¬ O' b) → WRs C M H σ env' ws vs → derefs env ws = some ds → FRs O' H vs ds
  | _, _, ds, _, .nil, e => by cases e; exact .nil
  | w :: ws, v :: vs, ds, hl, .cons q t, e => by
    have e : ((deref env w).bind fun d => (derefs env ws).map fun ds => d :: ds) = some ds := e
    obtain ⟨d, e1, e2⟩ := Option.bind_eq_some_iff.mp e
    obtain ⟨ds', e3, rfl⟩ := Option.map_eq_some_iff.mp e2
    have k : Mono (C.O M) H O' H := fun a o ea na => ⟨ea, fun z => na (hO a z)⟩
    refine .cons ?_ (lent_args r hO (fun b ⟨j, hj, hs⟩ => hl b ⟨j, List.mem_cons_of_mem _ hj, hs⟩) t e3)
    cases w with
    | d x =>
      cases e1
      exact FR.mono k _ _ q
    | sl j =>
      have e1 : (match env[j]? with | some (.own _ d) => some d | _ => none) = some d := e1
      split at e1
      · rename_i io d' hj
        cases e1
        obtain ⟨p, xs, es, rfl, h1, h2, h3⟩ := own_at r hj
        have q : σ[j]? = some (some v) := q
        rw [h1] at q
        cases q
        exact .lst h2 (hl p ⟨j, List.mem_cons_self, h1⟩) (FRs.mono k _ _ h3)
      · cases e1
theorem lent_mem {C : Cc} {M : Addr → Prop} {H : Hp} {σ : L2.St} {env : Env} (r : Rep C M H σ env) : ∀ {ws : List W} {ds : List PyData} {b : Addr}, derefs env ws = some ds → Lent σ ws b → M b ∧ ∃ xs, H b = some (.lst xs)
  | [], _, _, _, ⟨j, hj, _⟩ => by cases hj
  | w :: ws, ds, b, e, ⟨j, hj, hs⟩ => by
    have e : ((deref env w).bind fun d => (derefs env ws).map fun ds => d :: ds) = some ds := e
    obtain ⟨d, e1, e2⟩ := Option.bind_eq_some_iff.mp e
    obtain ⟨ds', e3, rfl⟩ := Option.map_eq_some_iff.mp e2
    rcases List.mem_cons.mp hj with z | hj
    · subst z
      have e1 : (match env[j]? with | some (.own _ d) => some d | _ => none) = some d := e1
      split at e1
      · rename_i io d' hj
        obtain ⟨s, h1, v, h2, h3, _⟩ := r.at_ j _ hj
        rw [h1, h2] at hs
        cases hs
        cases h3 with | lst ha m _ => exact ⟨m, _, ha⟩
      · cases e1
    · exact lent_mem r e3 ⟨j, hj, hs⟩
theorem not_any_sl {ws : List W} (h : ¬ (ws.any isSl = true)) {σ : L2.St} {b : Addr} : ¬ Lent σ ws b := fun ⟨j, hj, _⟩ => h (List.any_eq_true.mpr ⟨_, hj, rfl⟩)
/-- the state behind a call in which M' alone might change -/
theorem rep_call {C : Cc} {M M' : Addr → Prop} {H Hf : Hp} {Mf : Addr → Prop} {σ : L2.St} {env : Env} (r : Rep C M H σ env) (s : Step M' H Mf Hf) (hM : ∀ a, M' a → M a) (hk : ∀ (j : Nat) (b : Bool) (d : PyData) (a : Addr), env[j]? = some (SV.own b d) → σ[j]? = some (some (V.ref a)) → ¬ M' a) (hl : ∀ a, M' a → ∃ xs, Hf a = some (.lst xs)) : Rep C M Hf σ env ∧ Step M H M Hf := by
  have k : Mono (C.O M) H (C.O M) Hf := fun a o e na => ⟨s.keep a o e fun m => na (.inl (hM a m)), na⟩
  refine ⟨⟨r.len, fun i sv h => ?_, r.sep, fun a m => ?_, fun a f => s.live a (r.fg a f), r.apart⟩, fun a o e na => s.keep a o e fun m => na (hM a m), fun _ m => .inl m, s.live⟩
  · obtain ⟨s0, h1, h2⟩ := r.at_ i sv h
    refine ⟨s0, h1, ?_⟩
    cases sv with
    | un => trivial
    | val d => obtain ⟨v, g1, g2⟩ := h2; exact ⟨v, g1, FR.mono k _ _ g2⟩
    | own io d =>
      obtain ⟨v, g1, g2, g3⟩ := h2
      cases g2 with
      | @lst a xs ds ha m rr => exact ⟨_, g1, .lst (s.keep a _ ha (hk i io _ a h (by rw [h1, g1]))) m (FRs.mono k _ _ rr), g3⟩
    | scr ns =>
      obtain ⟨a, g1, g2⟩ := h2
      refine ⟨a, g1, ?_⟩
      rcases g2 with ⟨h | ⟨o, h⟩, na⟩ | h
      · exact .inl ⟨.inl (k _ _ h na).1, na⟩
      · exact .inl ⟨.inr ⟨o, (k _ _ h na).1⟩, na⟩
      · exact .inr h
  · by_cases m' : M' a
    · exact hl a m'
    · obtain ⟨xs, e⟩ := r.live a m
      exact ⟨xs, s.keep a _ e m'⟩
section
variable {X : Cx} {K : PySem.W.Frag} {wx : WX} {T : Tab}
theorem callF_rd {x : Str} {g : Ax} {n : Nat} {res : List PyData → FnRes} (hres : T.fn x = res) (hlen : ∀ ds, res ds ≠ .bad → ds.length = n) {σ : L2.St} {H : Hp} {Q : VK} (h : rdE K wx T (dCallF x g) σ H Q) :
    rdA K wx T g σ H fun vs H1 => spF K n false res vs H1 Q (WE wx σ) := by
  obtain ⟨C, env, M, hK, rp, p⟩ := h
  refine rd_bind hK rp p fun ws e vs M1 H1 r1 s1 q1 p1 => ?_
  split at p1
  · rename_i ds ed
    have hO : ∀ b, oF (fun _ => False) (fun b => C.O M1 b ∧ ¬ Lent σ ws b) b → C.O M1 b := fun b z => z.elim False.elim fun z => z.1
    have fa : FRs (oF (fun _ => False) (fun b => C.O M1 b ∧ ¬ Lent σ ws b)) H1 vs ds := lent_args r1 hO (fun b hl z => z.elim False.elim fun z => z.2 hl) q1 ed
    have c0 : Call0 (fun _ => False) (fun b => C.O M1 b ∧ ¬ Lent σ ws b) H1 false vs ds := ⟨fun a m => m.elim, fun a f z => f.1.elim (fun m => by obtain ⟨xs, e⟩ := r1.live a m; rw [e] at z; cases z) fun g => r1.fg a g z, fun a f m => m, fun _ => fa, fun z => Bool.noConfusion z⟩
    have back : ∀ {Mf : Addr → Prop} {Hf : Hp}, Step (fun _ => False) H1 Mf Hf → Rep C M1 Hf σ e ∧ Step M1 H1 M1 Hf := fun s => rep_call r1 s (fun _ m => m.elim) (fun _ _ _ _ _ _ m => m) (fun _ m => m.elim)
    rw [hres] at p1
    have hl : vs.length = n := by
      rw [fa.length]
      refine hlen ds fun z => ?_
      rw [z] at p1
      exact p1.elim
    refine ⟨hl, _, _, ds, c0, ?_⟩
    split at p1
    · rename_i d er
      rw [er]
      intro v Mf Hf s f i
      obtain ⟨r2, s2⟩ := back s
      split at p1
      · exact p1.elim
      · rename_i hb
        refine p1 v M1 Hf r2 s2 ?_
        by_cases hs : ws.any isSl = true
        · have hn : noList d = true := by
            cases z : noList d with
            | true => rfl
            | false => exact absurd ⟨hs, z⟩ hb
          refine FR.monoT (fun a xs ea na => ⟨ea, fun z => ?_⟩) d v hn f
          by_cases hla : Lent σ ws a
          · obtain ⟨_, ys, ey⟩ := lent_mem r1 ed hla
            have := s.keep a _ ey id
            rw [ea] at this; cases this
          · exact na (.inr ⟨z, hla⟩)
        · exact FR.mono (fun a o ea na => ⟨ea, fun z => na (.inr ⟨z, not_any_sl hs⟩)⟩) d v f
    · rename_i c er
      rw [er]
      intro Mf Hf s
      obtain ⟨r2, s2⟩ := back s
      have z := p1 M1 Hf r2 s2
      rw [hK] at z
      exact z
    · exact p1.elim
  · exact p1.elim
theorem callIo_rd {x : Str} {g : Ax} {n : Nat} {res : List PyData → FnRes} (hres : T.fn x = res) (hlen : ∀ ds, res ds ≠ .bad → ds.length = n) {σ : L2.St} {H : Hp} {Q : VK} (h : rdE K wx T (dCallIo x g) σ H Q) :
    rdA K wx T g σ H fun vs H1 => spF K n true res vs H1 Q (WE wx σ) := by
  obtain ⟨C, env, M, hK, rp, p⟩ := h
  refine rd_bind hK rp p fun ws e vs M1 H1 r1 s1 q1 p1 => ?_
  split at p1
  · rename_i i ws'
    split at p1
    · rename_i b d0 ds ei ed
      split at p1
      · exact p1.elim
      · rename_i hs
        obtain ⟨s0, h1, v0, rfl, h3, h4⟩ := r1.at_ i _ ei
        cases q1 with
        | @cons _ vv _ vs' q0 t =>
          have q0 : σ[i]? = some (some vv) := q0
          rw [h1] at q0
          cases q0
          cases h3 with
          | @lst a xs es ha m rr =>
            have hO : ∀ c, oF (fun c => c = a) (fun c => C.O M1 c ∧ c ≠ a) c → C.O M1 c := fun c z => z.elim (fun z => by subst z; exact .inl m) fun z => z.1
            have fa : FRs (oF (fun c => c = a) (fun c => C.O M1 c ∧ c ≠ a)) H1 vs' ds := lent_args r1 hO (fun c hl => absurd hl (not_any_sl hs)) t ed
            have k : Mono (C.O M1) H1 (oF (fun c => c = a) (fun c => C.O M1 c ∧ c ≠ a)) H1 := fun c o ec nc => ⟨ec, fun z => nc (hO c z)⟩
            have c0 : Call0 (fun c => c = a) (fun c => C.O M1 c ∧ c ≠ a) H1 true (.ref a :: vs') (.list es :: ds) := ⟨fun c z => by subst z; exact ⟨xs, ha⟩, fun c f z => f.1.elim (fun m => by obtain ⟨xs, e⟩ := r1.live c m; rw [e] at z; cases z) fun g => r1.fg c g z, fun c f z => f.2 z, fun z => Bool.noConfusion z, fun _ => ⟨a, xs, es, vs', ds, rfl, rfl, ha, rfl, FRs.mono k _ _ rr, fa⟩⟩
            rw [hres] at p1
            have hl : (V.ref a :: vs').length = n := by
              rw [List.length_cons, fa.length]
              refine hlen (.list es :: ds) fun z => ?_
              rw [z] at p1
              exact p1.elim
            refine ⟨hl, _, _, _, c0, ?_⟩
            split at p1
            · rename_i d d1 er
              rw [er]
              intro v Mf Hf s f io
              unfold IoR at io
              rw [if_pos rfl] at io
              obtain ⟨a', vs2, xs', es', e1, e2, mf, ha', fx⟩ := io
              cases e1
              cases e2
              have conv : Mono (oF Mf (fun c => C.O M1 c ∧ c ≠ a)) Hf (C.O M1) Hf := fun c o ec nc => ⟨ec, fun z => nc (by
                by_cases hca : c = a
                · subst hca; exact .inl mf
                · exact .inr ⟨z, hca⟩)⟩
              -- the state without the list, then the list as it is now
              have s2 : Step M1 H1 M1 Hf := ⟨fun c o ec nc => s.keep c o ec fun z => nc (by rw [z]; exact m), fun _ m => .inl m, s.live⟩
              have kk : Mono (C.O M1) H1 (C.O M1) Hf := s2.mono
              refine p1 v M1 Hf ⟨by simpa using r1.len, fun j sv hj => ?_, fun j k c bj bk dj dk hjk ej ek sj sk => ?_, fun c mc => ?_, fun c f => s.live c (r1.fg c f), r1.apart⟩ s2 (FR.mono conv _ _ f)
              · rcases get_set hj with ⟨rfl, rfl⟩ | ⟨hne, hj⟩
                · exact ⟨_, h1, .ref a, rfl, .lst ha' m (FRs.mono conv _ _ fx), h4⟩
                · obtain ⟨s', e1, e2⟩ := r1.at_ j sv hj
                  refine ⟨s', e1, ?_⟩
                  cases sv with
                  | un => trivial
                  | val d => obtain ⟨v, g1, g2⟩ := e2; exact ⟨v, g1, FR.mono kk _ _ g2⟩
                  | own io d =>
                    obtain ⟨v, g1, g2, g3⟩ := e2
                    cases g2 with
                    | @lst c ys zs hc mc rr =>
                      have ne : c ≠ a := fun z => by
                        subst z
                        exact r1.sep j i c io b _ _ hne hj ei (by rw [e1, g1]) h1
                      exact ⟨_, g1, .lst (s.keep c _ hc ne) mc (FRs.mono kk _ _ rr), g3⟩
                  | scr ns =>
                    obtain ⟨c, g1, g2⟩ := e2
                    refine ⟨c, g1, ?_⟩
                    rcases g2 with ⟨h | ⟨o, h⟩, na⟩ | h
                    · exact .inl ⟨.inl (kk _ _ h na).1, na⟩
                    · exact .inl ⟨.inr ⟨o, (kk _ _ h na).1⟩, na⟩
                    · exact .inr h
              · have cv : ∀ l b' d', (e.set i (SV.own b (.list es')))[l]? = some (SV.own b' d') → ∃ b2 d2, e[l]? = some (SV.own b2 d2) := fun l b' d' z => by
                  rcases get_set z with ⟨rfl, _⟩ | ⟨_, z⟩
                  · exact ⟨b, _, ei⟩
                  · exact ⟨b', d', z⟩
                obtain ⟨b1, d1, z1⟩ := cv j _ _ ej
                obtain ⟨b2, d2, z2⟩ := cv k _ _ ek
                exact r1.sep j k c b1 b2 d1 d2 hjk z1 z2 sj sk
              · by_cases hca : c = a
                · subst hca; exact ⟨xs', ha'⟩
                · obtain ⟨ys, ey⟩ := r1.live c mc
                  exact ⟨ys, s.keep c _ ey hca⟩
            · exact p1.elim
    · exact p1.elim
  · exact p1.elim
theorem pd_callF {x : Str} {k : Nat} {f : Addr} {fd : FuncData} {ps : List Str} {p pos : Pos} {e : Expr} {es : List Expr} {g : Ax} {n : Nat} {res : List PyData → FnRes} (hK : X.K = K) (tk : Takes X wx) (hres : T.fn x = res) (hlen : ∀ ds, res ds ≠ .bad → ds.length = n)
    (F : FnG X.prog X.w X.K X.mg X.base (L2.CX X.prog X.w) k f fd ps (spF K n false res)) (hr : RoomG k X.A) (hg : Gl X x) (hm : X.mg x = some (.ref f)) (hk : PySem.W.keepIn X.K (.ref f) = true) (hb : Binds X.K fd ps []) (ha : PA X (e :: es) (rdA K wx T g)) (hdb : (x == ("__debug__" : Str)) = false)
    (he : starEach (e :: es) X.env = (false, eval e X.env) :: starEach es X.env) (hpl : (backTo pos (starEach es X.env)).any (·.1) = false) : PE X (.Call (.Name x p) (e :: es) [] pos) (rdE K wx T (dCallF x g)) :=
  peImp (pe_callG F hr hg hm hk hb (fun σ => passAt tk σ) ha hdb he hpl) fun σ H Q q => callF_rd hres hlen q
theorem pd_callIo {x : Str} {k : Nat} {f : Addr} {fd : FuncData} {ps : List Str} {p pos : Pos} {e : Expr} {es : List Expr} {g : Ax} {n : Nat} {res : List PyData → FnRes} (hK : X.K = K) (tk : Takes X wx) (hres : T.fn x = res) (hlen : ∀ ds, res ds ≠ .bad → ds.length = n)
    (F : FnG X.prog X.w X.K X.mg X.base (L2.CX X.prog X.w) k f fd ps (spF K n true res)) (hr : RoomG k X.A) (hg : Gl X x) (hm : X.mg x = some (.ref f)) (hk : PySem.W.keepIn X.K (.ref f) = true) (hb : Binds X.K fd ps []) (ha : PA X (e :: es) (rdA K wx T g)) (hdb : (x == ("__debug__" : Str)) = false)
    (he : starEach (e :: es) X.env = (false, eval e X.env) :: starEach es X.env) (hpl : (backTo pos (starEach es X.env)).any (·.1) = false) : PE X (.Call (.Name x p) (e :: es) [] pos) (rdE K wx T (dCallIo x g)) :=
  peImp (pe_callG F hr hg hm hk hb (fun σ => passAt tk σ) ha hdb he hpl) fun σ H Q q => callIo_rd hres hlen q
end
end Pv
end
section
set_option Elab.async false
set_option linter.all false
set_option maxRecDepth 100000
set_option maxHeartbeats 4000000
set_option autoImplicit false
namespace Pv
open PySem PySem.Spec PyProof.Rows L2

abbrev SuiteR := Addr → Value → Option Addr → TS
/-- what the clauses wish: class, the name's slot, the suite's reading -/
def wNam (K : PySem.W.Frag) (Wout : WX) (D : Ends) : List (Value × Nat × SuiteR) → WX
  | [] => Wout
  | (c, i, ts) :: rest => fun cls d σ H => ∃ b, PySem.W.exmOne K cls c = some b ∧
      (b = true → ∀ a, H a = none → ts a cls d { nx := fun σ' H' => D.nx (σ'.set i none) H', rt := D.rt, bk := fun σ' H' => D.bk (σ'.set i none) H', ct := fun σ' H' => D.ct (σ'.set i none) H' } (σ.set i (some (.ref a))) H) ∧
      (b = false → wNam K Wout D rest cls d σ H)
inductive HdsN (X : Cx) : List ExceptHandler → List (Value × Nat × SuiteR) → Prop
  | nil : HdsN X [] []
  | cons {x n : Str} {c : Value} {i : Nat} {ts : SuiteR} {first : Stmt} {suite : List Stmt} {np hpos : Pos} {more : List ExceptHandler} {l : List (Value × Nat × SuiteR)} (hi : X.N[i]? = some n) (hln : X.env.kindOf n = some .local) (hc : Names X x c)
      (hsu : ∀ (a : Addr) (oe : Obj) (cls : Value) (d : Option Addr) (pn : List (Addr × Obj)), Zc cls d oe → (∃ fs, oe.data = .fields fs) → PSs (X.suite a ((a, oe) :: pn)) (first :: suite) (ts a cls d)) (rest : HdsN X more l) :
      HdsN X (.ExceptHandler (some (.Name x np)) (some n) (first :: suite) hpos :: more) ((c, i, ts) :: l)
section
variable {X : Cx} {body : List Stmt} {h1 : ExceptHandler} {more : List ExceptHandler} {l : List (Value × Nat × SuiteR)} {pos : Pos} {tb : WX → TS} {Wout : WX}
theorem try_named (hs : X.stack = X.env :: X.outer) (hf : X.env.frame = some X.env.locals) (hN : X.N.Nodup) (tk : Takes X Wout)
    (hb : ∀ (Wi : WX) (pn : List (Addr × Obj)) (xe : Value → Shared → Prop), Takes (X.tr pn xe) Wi → PassesOwn (model X.prog X.w) X.A X.env xe → PSs (X.tr pn xe) body (tb Wi))
    (hh : HdsN X (h1 :: more) l) : PS X (.Try body (h1 :: more) [] [] pos) (fun D σ H => tb (wNam X.K Wout D l) D σ H) := by
  refine ⟨fun pins s σ H D inv hw => ?_⟩
  have good := inv.ok
  have frames : X.A.frames = some (X.env :: X.outer) := by rw [good.frames, hs]
  refine wpAny_Try_except ?_
  have run := (hb (wNam X.K Wout D l) (X.pn ++ pins) (fun e s1 => wpAny (model X.prog X.w) X.A (noteFrame e X.env) (fun _ s2 => wpAny (model X.prog X.w) X.A (setFlight e none) (fun _ s3 =>
    wpAny (model X.prog X.w) X.A (handleBy e X.env (h1 :: more)) (SP X pins D) X.xe s3) X.xe s2) X.xe s1) (fun u st fly => ?caught) PassesOwn.looking).run [] s σ H D (inv.toTry _) hw
  case caught =>
    obtain ⟨a, B, sI, pins2, σ2, H2, cls, d, rfl, j0, nb, up, sky, na, os, ag, wish⟩ := fly
    have j1 : Inv X pins σ2 H2 sI := j0.ofTry good
    have sky2 : Sky B (X.env :: X.outer) a (Zc cls d) X.env.locals st.heap := by rw [← hs]; exact sky
    show wpAny (model X.prog X.w) X.A (noteFrame (.ref a) X.env) _ _ _
    refine Sky.land Zc.steady frames hf sky2 fun hp3 fl3 up3 => ?_
    have j3 : Inv X pins σ2 H2 { st with heap := hp3 } := j1.landed nb fl3.1 (up.trans up3) os ag
    obtain ⟨o3, fs3, at3, z3, d3⟩ := fl3.there
    have off : a ∉ frs (X.env :: X.outer) := fun hm => by
      obtain ⟨_, ob, eo, hnf⟩ := fl3.2.2.1.mem hm
      rw [at3] at eo
      cases eo
      exact hnf _ d3
    have offL : a ≠ X.env.locals := fun z => off (List.mem_filterMap.mpr ⟨X.env, List.mem_cons_self, by rw [hf, z]⟩)
    have offF : a ∉ X.fs := fun hm => by
      obtain ⟨en, hen, q⟩ := List.mem_filterMap.mp hm
      exact off (List.mem_filterMap.mpr ⟨en, List.mem_cons_of_mem _ hen, q⟩)
    have su3 := j3.suite at3 d3 na offL offF
    have clauses : ∀ {hds : List ExceptHandler} {l2 : List (Value × Nat × SuiteR)}, HdsN X hds l2 → wNam X.K Wout D l2 cls d σ2 H2 →
        wpAny (model X.prog X.w) X.A (handleBy (.ref a) X.env hds) (SP X pins D) X.xe { st with heap := hp3 } := by
      intro hds l2 hk
      induction hk with
      | nil =>
        intro out
        refine wpAny_handleBy_nil ?_
        obtain ⟨_, _, _, ob, fs, Tb, oT, tf, e1, e2, e3, e4, _⟩ := id fl3
        unfold PySem.passOn
        refine wpAny_bind (wpAny_field e1 e3 e4 ?_)
        rw [if_neg (show ¬ ((Value.ref Tb == Value.none) = true) from by simp)]
        have go : wpAny (model X.prog X.w) X.A (setFlight (.ref a) X.env.frame) (fun _ s4 => wpAny (model X.prog X.w) X.A (throw (.ref a) : Sem Flow) (SP X pins D) X.xe s4) X.xe { st with heap := hp3 } := by
          rw [hf]
          exact HandSPX.setFlight_upZ fl3 fun hp4 held up4 => wpAny_throw (tk _ _ ⟨a, B, sI, pins, σ2, H2, cls, d, rfl, j1, nb, (up.trans up3).trans up4, .inr (.inr (by rw [hs]; exact held)), na, os, ag, out⟩)
        first
          | exact wpAny_bind (wpAny_pure (wpAny_bind go))
          | exact wpAny_bind go
      | @cons x n c i ts first suite np hpos more2 l3 hi hln hc hsu rest ih =>
        intro out
        obtain ⟨b, hb1, yes, no⟩ := out
        refine wpAny_handleBy_cons (codeAny_handlers_test ?_) (by intro z; cases z)
        have LT : PySem.W.Looks (model X.prog X.w) hp3 (typeOf (.ref a)) cls := fun A Q E s0 k q => wpAny_typeOf_ref (k _ _ at3) (by rw [z3.1]; exact q)
        have LM := PySem.W.exm_one (M := model X.prog X.w) (j3.kIn) LT hb1
        have named : ∀ {Q : Value → Shared → Prop} {E : Value → Shared → Prop}, Q c { st with heap := hp3 } → wpAny (model X.prog X.w) (X.A.mark (some (.ref a))) (eval (.Name x np) X.env) Q E { st with heap := hp3 } := fun {Q E} q => by
          obtain ⟨hg, hdbg, hm | ⟨hm, hv, hnn⟩⟩ := hc
          · exact ld_glob (X := X.suite a ((a, o3) :: (X.pn ++ pins))) su3 hg hm q hdbg
          · exact ld_blt (X := X.suite a ((a, o3) :: (X.pn ++ pins))) su3 hg hm hv q hnn hdbg
        refine named (LM.here ?_)
        cases b with
        | true =>
          refine codeAny_handlers_suite_as ?_
          refine HandSPX.lands_againZ fl3 fun hp4 fl4 up4 => ?_
          have j4 : Inv X pins σ2 H2 { st with heap := hp4 } := j1.landed nb fl4.1 ((up.trans up3).trans up4) os ag
          obtain ⟨o4, fs4, at4, z4, d4⟩ := fl4.there
          have su4 := j4.suite at4 d4 na offL offF
          refine store_ok (X := X.suite a ((a, o4) :: (X.pn ++ pins))) (v := .ref a) su4 hN hi (.inl hln) rfl (fun s5 su5 => ?_) (.inr hln)
          refine wpAny_mono ((hsu a o4 cls d (X.pn ++ pins) z4 ⟨_, d4⟩).run [] s5 _ H2 _ su5 (yes rfl a na)) (fun fl s6 res => ?_) (fun _ _ z => False.elim z)
          have close : ∀ {σ6 : L2.St} {H6 : Hp} {Q : Shared → Prop}, Inv (X.suite a ((a, o4) :: (X.pn ++ pins))) [] σ6 H6 s6 → (∀ s7, Inv X pins (σ6.set i none) H6 s7 → Q s7) →
              wpAny (model X.prog X.w) X.A (do bindName X.env n .none; unbindBehindTheSuite X.env n hpos) (fun _ s7 => Q s7) X.xe s6 := fun {σ6 H6 Q} su6 hq => gone_ok (su6.unsuite good) hN hi hln hq
          cases fl with
          | next =>
            obtain ⟨σ6, H6, su6, q6⟩ := res
            exact close su6 fun s7 j7 => ⟨_, _, j7, q6⟩
          | brk =>
            obtain ⟨σ6, H6, su6, q6⟩ := res
            exact close su6 fun s7 j7 => ⟨_, _, j7, q6⟩
          | cont =>
            obtain ⟨σ6, H6, su6, q6⟩ := res
            exact close su6 fun s7 j7 => ⟨_, _, j7, q6⟩
          | ret u =>
            obtain ⟨v6, σ6, H6, su6, r6, q6⟩ := res
            exact close su6 fun s7 j7 => ⟨_, _, _, j7, r6, q6⟩
        | false =>
          show wpAny _ X.A (handleBy (.ref a) X.env more2) _ _ _
          exact ih (no rfl)
    exact clauses hh wish
  refine wpAny_mono run (fun fl s1 res => ?_) (fun _ _ z => z)
  cases fl with
  | next =>
    obtain ⟨σ3, H3, j3, q3⟩ := res
    exact wpAny_execs_nil ⟨σ3, H3, j3.ofTry good, q3⟩
  | brk =>
    obtain ⟨σ3, H3, j3, q3⟩ := res
    exact ⟨σ3, H3, j3.ofTry good, q3⟩
  | cont =>
    obtain ⟨σ3, H3, j3, q3⟩ := res
    exact ⟨σ3, H3, j3.ofTry good, q3⟩
  | ret u =>
    obtain ⟨v3, σ3, H3, j3, r3, q3⟩ := res
    exact ⟨v3, σ3, H3, j3.ofTry good, r3, q3⟩
end
end Pv
end
section
set_option Elab.async false
set_option linter.all false
set_option maxRecDepth 100000
set_option maxHeartbeats 4000000
set_option autoImplicit false
namespace Pv
open PySem PySem.Spec PyProof.Rows L2
theorem pe_bad {X : Cx} {K : PySem.W.Frag} {wx : WX} {T : Tab} {e : Expr} : PE X e (rdE K wx T fun _ _ => .bad) := ⟨fun _ _ _ _ _ _ h => by
  obtain ⟨C, env, M, _, _, p⟩ := h
  exact p.elim⟩

def fLen : List PyData → Option PyData
  | [.list ds] => some (.int ds.length)
  | [.tuple ds] => some (.int ds.length)
  | [.str z] => if z.length ≤ LINE then some (.int z.length) else none
  | _ => none
def rLenA (K : PySem.W.Frag) : List V → Hp → VK → Prop := fun xs H Q => ∃ x n, xs = [x] ∧ LenV K x H n ∧ Q (.int n) H
theorem call_lenA {X : Cx} : CallR X (.builtin "len") (rLenA X.K) := call_len
theorem BRs.one {O : Addr → Prop} {H : Hp} {vs : List V} {d : PyData} (h : BRs O H vs [d]) : ∃ v, vs = [v] ∧ BR O H v d := by
  cases h with
  | cons a t => cases t; exact ⟨_, rfl, a⟩
theorem BRs.two {O : Addr → Prop} {H : Hp} {vs : List V} {d e : PyData} (h : BRs O H vs [d, e]) : ∃ v w, vs = [v, w] ∧ BR O H v d ∧ BR O H w e := by
  cases h with
  | cons a t =>
    obtain ⟨w, rfl, b⟩ := t.one
    exact ⟨_, w, rfl, a, b⟩
theorem lenD (K : PySem.W.Frag) : CallD (rLenA K) fLen := by
  intro O H vs ds d Q fr b e q
  unfold fLen at e
  split at e
  · cases e
    obtain ⟨v, rfl, b1⟩ := b.one
    obtain ⟨a, xs, rfl, h, r⟩ := b1.list
    have hl := r.length
    exact ⟨_, _, rfl, .inl ⟨xs, SqL.of h, rfl⟩, by rw [hl]; exact q _ H (Ext.refl H) (.int _)⟩
  · cases e
    obtain ⟨v, rfl, b1⟩ := b.one
    obtain ⟨a, xs, rfl, h, n, r⟩ := b1.tuple
    have hl := r.length
    exact ⟨_, _, rfl, .inr ⟨xs, SqT.of h, rfl⟩, by rw [hl]; exact q _ H (Ext.refl H) (.int _)⟩
  · split at e
    · rename_i z hz
      cases e
      obtain ⟨v, rfl, b1⟩ := b.one
      rw [b1.str]
      exact ⟨_, z.length, rfl, ⟨le_line hz, rfl⟩, q _ H (Ext.refl H) (.int _)⟩
    · cases e
  · cases e

def fInt : List PyData → Option PyData
  | [.int i] => some (.int i)
  | [.bool b] => some (.int (if b then 1 else 0))
  | _ => none
def rInt1 : List V → Hp → VK → Prop := fun xs H Q => (∃ i, xs = [.int i] ∧ Q (.int i) H) ∨ ∃ k, xs = [.bl k] ∧ Q (.int (if k then 1 else 0)) H
theorem call_intA {X : Cx} : CallR X (.type "int") rInt1 := call_int1
theorem intD : CallD rInt1 fInt := by
  intro O H vs ds d Q fr b e q
  unfold fInt at e
  split at e
  · cases e
    obtain ⟨v, rfl, b1⟩ := b.one
    rw [b1.int]
    exact .inl ⟨_, rfl, q _ H (Ext.refl H) (.int _)⟩
  · cases e
    obtain ⟨v, rfl, b1⟩ := b.one
    rw [b1.bool]
    exact .inr ⟨_, rfl, q _ H (Ext.refl H) (.int _)⟩
  · cases e
def fStr : List PyData → Option PyData
  | [.int i] => if i.natAbs < 10000000000 then some (.str (toString i)) else none
  | [.none] => some (.str "None")
  | _ => none
def rStr1 : List V → Hp → VK → Prop := fun xs H Q => (∃ i, xs = [.int i] ∧ i.natAbs.log2 < 1920 ∧ Q (.str (toString i)) H) ∨ (xs = [.non] ∧ Q (.str "None") H)
theorem call_strN {X : Cx} : CallR X (.type "str") (fun xs H Q => xs = [.non] ∧ Q (.str "None") H) := by
  intro pins s σ H xs us Q I r h
  obtain ⟨rfl, q⟩ := h
  obtain ⟨u, rfl, e⟩ := vals1 r
  cases e
  exact PySem.P.str_of_none ⟨.str _, H, I.tok _, ⟨_, rfl⟩, q⟩
theorem call_strA {X : Cx} : CallR X (.type "str") rStr1 := CallR.or call_str_int call_strN
theorem strD : CallD rStr1 fStr := by
  intro O H vs ds d Q fr b e q
  unfold fStr at e
  split at e
  · split at e
    · rename_i i hz
      cases e
      obtain ⟨v, rfl, b1⟩ := b.one
      rw [b1.int]
      refine .inl ⟨_, rfl, ?_, q _ H (Ext.refl H) (.str _)⟩
      by_cases h0 : i.natAbs = 0
      · rw [h0]; decide
      · exact (Nat.log2_lt h0).mpr (Nat.lt_of_lt_of_le hz (Nat.le_trans (by decide : 10000000000 ≤ 2 ^ 64) (Nat.pow_le_pow_right (by decide) (by decide))))
    · cases e
  · cases e
    obtain ⟨v, rfl, b1⟩ := b.one
    rw [b1.none]
    exact .inr ⟨rfl, q _ H (Ext.refl H) (.str _)⟩
  · cases e
/-- whole numbers out of data -/
def intsOf : List PyData → Option (List Int)
  | [] => some []
  | .int i :: ds => (intsOf ds).map (i :: ·)
  | _ => none
theorem FRs.ints_of {O : Addr → Prop} {H : Hp} : ∀ {vs : List V} {ds : List PyData} {ns : List Int}, FRs O H vs ds → intsOf ds = some ns → vs = ns.map V.int
  | _, _, _, .nil, e => by cases e; rfl
  | _, _, ns, .cons (d := d) (ds := ds) r t, e => by
    unfold intsOf at e
    split at e
    · rename_i h; cases h
    · rename_i i ds' h
      cases h
      obtain ⟨ms, e1, rfl⟩ := Option.map_eq_some_iff.mp e
      cases r
      rw [FRs.ints_of t e1]; rfl
    · cases e
def fTuple : List PyData → Option PyData
  | [.list ds] => some (.tuple ds)
  | [.tuple ds] => some (.tuple ds)
  | _ => none
def rTupOf (K : PySem.W.Frag) : List V → Hp → VK → Prop := fun xs H Q => ∃ p ys, xs = [.ref p] ∧ ((SqL K H p ys ∧ ∀ l, H l = none → Q (.ref l) (upd H l (.tup ys))) ∨ (SqT K H p ys ∧ Q (.ref p) H))
theorem call_tupA {X : Cx} : CallR X (.type "tuple") (rTupOf X.K) := call_tuple_of
theorem tupD (K : PySem.W.Frag) : CallD (rTupOf K) fTuple := by
  intro O H vs ds d Q fr b e q
  unfold fTuple at e
  split at e
  · cases e
    obtain ⟨v, rfl, b1⟩ := b.one
    obtain ⟨p, xs, rfl, h, r⟩ := b1.list
    exact ⟨p, xs, rfl, .inl ⟨SqL.of h, fun l n => q _ _ (Ext.upd n) (.tup upd_same (fr l n) (r.ext (Ext.upd n)))⟩⟩
  · cases e
    obtain ⟨v, rfl, b1⟩ := b.one
    obtain ⟨p, xs, rfl, h, n, r⟩ := b1.tuple
    exact ⟨p, xs, rfl, .inr ⟨SqT.of h, q _ H (Ext.refl H) (.tup h n r)⟩⟩
  · cases e
section
variable {X : Cx} {K : PySem.W.Frag} {wx : WX} {T : Tab}
def fListOf (env : Env) : W → Option (List PyData)
  | .d (.list ds) => some ds
  | .d (.tuple ds) => some ds
  | .sl i => match env[i]? with
    | some (.own _ (.list ds)) => some ds
    | some (.scr ns) => some (ns.map PyData.int)
    | _ => none
  | _ => none
def dListOf (f : Ex) : Fx := fun T env => (f T env).bind fun w e => match fListOf e w with
  | some ds => .ok ds e
  | none => .bad
theorem pd_listOf {p pos : Pos} {e : Expr} {f : Ex} (hK : X.K = K) (hg : Gl X "list") (hm : X.mg "list" = none) (ha : PE X e (rdE K wx T f)) (he : starEach [e] X.env = (false, eval e X.env) :: starEach [] X.env) (hpl : (backTo pos (starEach [] X.env)).any (·.1) = false) :
    PE X (.Call (.Name "list" p) [e] [] pos) (rdF K wx T (dListOf f)) := by
  subst hK
  refine peImp (pe_callTy call_list_of hg hm boot_list (pa_cons ha pa_nil he) (by decide) rfl he hpl) fun σ H Q h => ?_
  obtain ⟨C, env, M, hK, rp, p⟩ := h
  refine rd_bind hK rp p fun w env1 v M1 H1 r1 s1 q1 p1 => ?_
  split at p1
  · rename_i ds e
    have key : ∃ a ys, v = .ref a ∧ (SqL X.K H1 a ys ∨ SqT X.K H1 a ys) ∧ FRs (C.O M1) H1 ys ds := by
      cases w with
      | d x =>
        have q1 : FR (C.O M1) H1 v x := q1
        cases x with
        | list es => cases e; cases q1 with | lst h n r => exact ⟨_, _, rfl, .inl (SqL.of h), r⟩
        | tuple es => cases e; cases q1 with | tup h n r => exact ⟨_, _, rfl, .inr (SqT.of h), r⟩
        | _ => cases e
      | sl i =>
        have q1 : σ[i]? = some (some v) := q1
        have e : (match env1[i]? with | some (.own _ (.list ds)) => some ds | some (.scr ns) => some (ns.map PyData.int) | _ => none) = some ds := e
        split at e
        · rename_i io ds' h
          cases e
          obtain ⟨xs, hx, fx⟩ : ∃ xs, (∃ a, v = .ref a ∧ H1 a = some (.lst xs)) ∧ FRs (C.O M1) H1 xs ds := by
            obtain ⟨p, xs, ds2, e2, h1, h2, h3⟩ := own_at r1 h
            cases e2
            rw [h1] at q1
            cases q1
            exact ⟨xs, ⟨p, rfl, h2⟩, h3⟩
          obtain ⟨a, rfl, ha⟩ := hx
          exact ⟨a, xs, rfl, .inl (SqL.of ha), fx⟩
        · rename_i ns h
          cases e
          obtain ⟨s, h1, a, rfl, h3⟩ := r1.at_ i _ h
          rw [h1] at q1
          cases q1
          refine ⟨a, _, rfl, .inl ?_, FRs.ints ns⟩
          rw [← hK]
          exact h3.sql
        · cases e
    obtain ⟨a, ys, rfl, hs, fx⟩ := key
    exact ⟨a, ys, rfl, hs, new_rd r1 fx p1⟩
  · exact p1.elim
end
inductive Ty where
  | bool | int | str | tuple | list | dict
def Ty.nm : Ty → String
  | .bool => "bool" | .int => "int" | .str => "str" | .tuple => "tuple" | .list => "list" | .dict => "dict"
def isA : Ty → PyData → Bool
  | .bool, .bool _ => true
  | .int, .int _ => true
  | .int, .bool _ => true
  | .str, .str _ => true
  | .tuple, .tuple _ => true
  | .list, .list _ => true
  | .dict, .dict _ => true
  | _, _ => false
def tyN : PyData → String
  | .none => "NoneType" | .bool _ => "bool" | .int _ => "int" | .str _ => "str" | .tuple _ => "tuple" | .list _ => "list" | .dict _ => "dict"
theorem kit_isA (t : Ty) (d : PyData) : kitB (tyN d) t.nm = some (isA t d) := by
  cases t <;> cases d <;> (simp only [tyN, Ty.nm, isA]; decide +kernel)
theorem BR.ty {K : PySem.W.Frag} {O : Addr → Prop} {H : Hp} {v : V} {d : PyData} (b : BR O H v d) : TyX K H v (.type (tyN d)) := by
  cases b with
  | fr q =>
    cases q with
    | non => exact .base .non
    | bl b => exact .base (.bl b)
    | int i => exact .base (.int i)
    | str x => exact .base (.str x)
    | lst h _ _ => exact .base (.lst h)
    | tup h _ _ => exact .base (.tup h)
    | dic h _ => exact .base (.dK h)
  | ol h _ => exact .base (.lst h)
theorem kitAny_isA {K : PySem.W.Frag} (d : PyData) : ∀ ts : List Ty, PySem.W.kitAny K (.type (tyN d)) (ts.map fun t => Value.type t.nm) = some (ts.any fun t => isA t d)
  | [] => rfl
  | t :: ts => by
    show PySem.W.kitAny K _ (Value.type t.nm :: ts.map fun t => Value.type t.nm) = _
    refine kitAny_cons (b := isA t d) (kit_ty (kit_isA t d)) (fun h => ?_) fun h => ?_
    · rw [List.any_cons, h, Bool.false_or]; exact kitAny_isA d ts
    · rw [List.any_cons, h, Bool.true_or]
def dIsi (ts : List Ty) (f : Ex) : Ex := fun T env => (f T env).bind fun w e => match deref e w with
  | some d => .ok (.d (.bool (ts.any fun t => isA t d))) e
  | none => .bad
section
variable {X : Cx} {K : PySem.W.Frag} {wx : WX} {T : Tab}
theorem pd_isi (t : Ty) {x : Str} {p pt pos : Pos} {e : Expr} {f : Ex} (hK : X.K = K) (hg : Gl X "isinstance") (hm : X.mg "isinstance" = none) (hgt : Gl X x) (hmt : X.mg x = none) (hx : bootBuiltins x = some (.type t.nm)) (hn : x ≠ "__name__") (hd : (x == ("__debug__" : Str)) = false) (ha : PE X e (rdE K wx T f))
    (he : starEach [e, .Name x pt] X.env = (false, eval e X.env) :: starEach [.Name x pt] X.env) (hpl : (backTo pos (starEach [.Name x pt] X.env)).any (·.1) = false) : PE X (.Call (.Name "isinstance" p) [e, .Name x pt] [] pos) (rdE K wx T (dIsi [t] f)) := by
  subst hK
  refine peImp (pe_callB call_isi hg hm boot_isinstance (pa_cons ha (pa_cons (pe_bltn hgt hmt hx (show RelV (.ty t.nm) (.type t.nm) from rfl) hn hd) pa_nil rfl) he) (by decide) rfl he hpl) fun σ H Q h => ?_
  obtain ⟨C, env, M, hK, rp, p⟩ := h
  refine rd_bind hK rp p fun w env1 v M1 H1 r1 s1 q1 p1 => ?_
  split at p1
  · rename_i d e
    have b := deref_br r1 q1 e
    refine ⟨v, .ty t.nm, _, _, isA t d, rfl, .ty t.nm, b.ty, kit_ty (kit_isA t d), ?_⟩
    have e2 : ([t].any fun t => isA t d) = isA t d := by simp
    have z := p1 _ M1 H1 r1 (Step.refl _ _) (FR.bl _)
    rw [e2] at z
    exact z
  · exact p1.elim
theorem pd_isi2 (t t2 : Ty) {x y : Str} {p pt py ptt pos : Pos} {k : Nat} {e : Expr} {f : Ex} (hK : X.K = K) (hg : Gl X "isinstance") (hm : X.mg "isinstance" = none) (hgt : Gl X x) (hmt : X.mg x = none) (hx : bootBuiltins x = some (.type t.nm)) (hn : x ≠ "__name__") (hd : (x == ("__debug__" : Str)) = false)
    (hgy : Gl X y) (hmy : X.mg y = none) (hy : bootBuiltins y = some (.type t2.nm)) (hny : y ≠ "__name__") (hdy : (y == ("__debug__" : Str)) = false) (ha : PE X e (rdE K wx T f))
    (he : starEach [e, .Tuple [.Name x pt, .Name y py] k ptt] X.env = (false, eval e X.env) :: starEach [.Tuple [.Name x pt, .Name y py] k ptt] X.env) (hpl : (backTo pos (starEach [.Tuple [.Name x pt, .Name y py] k ptt] X.env)).any (·.1) = false) :
    PE X (.Call (.Name "isinstance" p) [e, .Tuple [.Name x pt, .Name y py] k ptt] [] pos) (rdE K wx T (dIsi [t, t2] f)) := by
  subst hK
  refine peImp (pe_callB call_isiT hg hm boot_isinstance (pa_cons ha (pa_cons (pe_tup (pa_cons (pe_bltn hgt hmt hx (show RelV (.ty t.nm) (.type t.nm) from rfl) hn hd) (pa_cons (pe_bltn hgy hmy hy (show RelV (.ty t2.nm) (.type t2.nm) from rfl) hny hdy) pa_nil rfl) rfl)) pa_nil rfl) he) (by decide) rfl he hpl) fun σ H Q h => ?_
  obtain ⟨C, env, M, hK, rp, p⟩ := h
  refine rd_bind hK rp p fun w env1 v M1 H1 r1 s1 q1 p1 => ?_
  split at p1
  · rename_i d e
    refine ⟨by rw [sizeLine_eq]; show 2 ≤ 16777216; decide, fun l n => ?_⟩
    have ex : Ext H1 (upd H1 l (.tup [.ty t.nm, .ty t2.nm])) := Ext.upd n
    have r2 := r1.ext ex
    have b := deref_br r2 (q1.step (env' := env1) (Step.ext ex)) e
    exact ⟨v, l, [.ty t.nm, .ty t2.nm], _, [.type t.nm, .type t2.nm], _, rfl, upd_same, .cons (.ty _) (.cons (.ty _) .nil), b.ty, kitAny_isA d [t, t2], p1 _ M1 _ r2 (Step.ext ex) (FR.bl _)⟩
  · exact p1.elim
end
end Pv
end
section
set_option Elab.async false
set_option linter.all false
set_option maxRecDepth 100000
set_option maxHeartbeats 4000000
set_option autoImplicit false
namespace HT
open PySem PySem.Spec PyProof.Rows
section
variable {prog : Program} {w : World} {A : Around} {E : Value → Shared → Prop} {s : Shared}
theorem rvApplied {sl : Addr} {tk : Tok} {n : Nat} {Q : Int × Int × Nat → Shared → Prop} (hs : s.heap.IsSliceOf sl .none .none (.int (-1) tk))
    (h : Q ((n : Int) - 1, -1, n) s) : wpAny (model prog w) A (Builtin.Slice.sliceApplied (.ref sl) (pure (n : Int))) Q E s := by
  obtain ⟨ob, hob, hcb, hdb⟩ := id hs
  unfold Builtin.Slice.sliceApplied Builtin.Slice.sliceFields
  refine wpAny_bind (wpAny_bind (wpAny_field hob hdb (x := .none) rfl (wpAny_bind (wpAny_field hob hdb (x := .none) rfl (wpAny_bind (wpAny_field hob hdb (x := .int (-1) tk) rfl (wpAny_pure ?_)))))))
  refine wpAny_bind (slicePart_int ?_)
  show wpAny _ _ (if ((-1 : Int) == 0) = true then _ else _) _ _ s
  rw [if_neg (by decide)]
  refine wpAny_bind (slicePart_none (wpAny_bind (slicePart_none (wpAny_bind (wpAny_pure ?_)))))
  show wpAny _ _ (pure ((n : Int) - 1, (-1 : Int), Builtin.Slice.slicePlaces ((n : Int) - 1) (-1) (-1))) _ _ s
  have e : Builtin.Slice.slicePlaces ((n : Int) - 1) (-1) (-1) = n := by
    unfold Builtin.Slice.slicePlaces
    rw [if_neg (by decide)]
    split
    · rw [show (-(-1) : Int) = 1 by decide, Int.ediv_one]
      omega
    · omega
  rw [e]
  exact wpAny_pure h
theorem rv_pick (xs : Array Value) : ((List.range xs.size).filterMap fun (m : Nat) => xs[((xs.size : Int) - 1 + (m : Int) * (-1)).toNat]?).toArray = xs.toList.reverse.toArray := by
  congr 1
  rw [← PySem.W.krv_all xs, ← List.filterMap_reverse, ← PySem.W.krv_range, List.filterMap_map]
  apply congrArg (fun f => List.filterMap f (List.range xs.size))
  funext m
  show _ = xs[xs.size - 1 - m]?
  have : ((xs.size : Int) - 1 + (m : Int) * (-1)).toNat = xs.size - 1 - m := by omega
  rw [this]
theorem rvTuple {t sl : Addr} {items : Array Value} {tk : Tok} {Q : Value → Shared → Prop} (ht : IsTup s.heap t items) (hs : s.heap.IsSliceOf sl .none .none (.int (-1) tk))
    (h : Q (.ref s.heap.objs.size) { s with heap := s.heap.push { cls := .type "tuple", data := .seq items.toList.reverse.toArray } }) (hsz : items.size ≤ sizeLine) : wpAny (model prog w) A (getItem (.ref t) (.ref sl)) Q E s := by
  have szOk : sizeOk (.seq items.toList.reverse.toArray) := by
    show items.toList.reverse.toArray.size ≤ sizeLine
    rw [List.size_toArray, List.length_reverse, Array.length_toList]
    exact hsz
  obtain ⟨ob, hob, hcb, hdb⟩ := id hs
  have hTb : s.TypeIs (.ref sl) "slice" := ⟨ob, hob, hcb⟩
  unfold getItem
  try with_reducible refine wpAny_holding ?_
  first | refine wpAny_bind (wpAny_pure ?_) | skip
  refine wpAny_bind (wpAny_sequenceKey (ht.typeIs) (by decide) ?_)
  refine wpAny_bind (wpAny_callSpecial?_slot (name := Str.ofString "__getitem__") (ht.typeIs) PyProof.Rows.slot_tuple_getitem
    (wpAny_call_entry PyProof.Rows.slot_tuple_getitem (ht.typeIs) entry_tuple_getitem ?_ (args_tuple_getitem _ _)))
  show wpAny _ _ (Builtin.Tuple.tupleItemsOf (.ref t) >>= _) _ _ s
  refine wpAny_bind (tupleItemsOf_ ht (?_))
  refine wpAny_bind (wpAny_typeOf hTb ?_)
  rw [if_pos (by decide)]
  refine wpAny_bind (rvApplied (n := items.size) hs ?_)
  have hno : ¬ ((((items.size : Int) - 1) == 0 && (-1 : Int) == 1 && items.size == items.size) = true) := by
    intro q
    rw [Bool.and_eq_true, Bool.and_eq_true] at q
    exact absurd q.1.2 (by decide)
  show wpAny _ _ (if (((items.size : Int) - 1) == 0 && (-1 : Int) == 1 && items.size == items.size) = true then _ else _) _ _ s
  rw [if_neg hno, rv_pick]
  first
    | exact wpAny_bind (m := Builtin.Tuple.tupleExact _) (wpAny_newObj_type (wpAny_pure ⟨_, rfl, wpAny_pure h⟩) szOk)
    | exact wpAny_bind (m := Builtin.Tuple.tupleExact _) (wpAny_newObj_type (wpAny_bind (wpAny_pure (wpAny_pure ⟨_, rfl, wpAny_pure h⟩))) szOk)
    | exact wpAny_bind (wpAny_bind (m := Builtin.Tuple.tupleExact _) (wpAny_newObj_type (wpAny_pure (wpAny_pure ⟨_, rfl, wpAny_pure h⟩)) szOk))
    | exact wpAny_bind (wpAny_bind (m := Builtin.Tuple.tupleExact _) (wpAny_newObj_type (wpAny_pure ⟨_, rfl, wpAny_pure h⟩) szOk))
end
end HT
namespace Pv
open PySem PySem.Spec PyProof.Rows L2
section
variable {X : Cx} {K : PySem.W.Frag} {wx : WX} {T : Tab}
theorem pd_ix {a b : Expr} {pos : Pos} {f g : Ex} (hK : X.K = K) (ha : PE X a (rdE K wx T f)) (hb : PE X b (rdE K wx T g)) (hs : PlainIx b) : PE X (.Subscript a b pos) (rdE K wx T (dBin fIx f g)) := by
  subst hK
  exact peImp (pe_ix ix_seq ha hb hs) fun σ H Q h => tOp_bin (ixD X.K) σ H Q (fun _ _ _ z => z) (fun _ _ _ z => z) h

abbrev Px := Tab → Env → R (Option Int)
abbrev rdP := rd (eqRel (α := Option Int))
def dNoP : Px := fun _ env => .ok none env
def dPart (f : Ex) : Px := fun T env => (f T env).bind fun w e => match deref e w with
  | some (.int i) => .ok (some i) e
  | _ => .bad
theorem poImp {e : Option Expr} {t t' : TO} (h : PO X e t) (k : ∀ σ H Q, t' σ H Q → t σ H Q) : PO X e t' := ⟨fun pins s σ H Q I q => h.run pins s σ H Q I (k σ H Q q)⟩
theorem pdp_none : PO X none (rdP K wx T dNoP) := poImp po_none fun σ H Q h => by
  obtain ⟨C, env, M, hK, rp, p⟩ := h
  exact p none M H rp (Step.refl _ _) rfl
theorem pdp_some {e : Expr} {f : Ex} (h : PE X e (rdE K wx T f)) : PO X (some e) (rdP K wx T (dPart f)) := poImp (po_some h) fun σ H Q h => by
  obtain ⟨C, env, M, hK, rp, p⟩ := h
  refine rd_bind hK rp p fun w env1 v M1 H1 r1 s1 q1 p1 => ?_
  split at p1
  · rename_i i e
    exact ⟨i, (deref_br r1 q1 e).int, p1 _ M1 H1 r1 (Step.refl _ _) rfl⟩
  · exact p1.elim
def cutD (ds : List PyData) (lo hi : Option Int) : List PyData := (ds.drop (HT.sIx ds.length 0 lo)).take (HT.sIx ds.length ds.length hi - HT.sIx ds.length 0 lo)
theorem FRs.cut {O : Addr → Prop} {H : Hp} {vs : List V} {ds : List PyData} (r : FRs O H vs ds) (lo hi : Option Int) : FRs O H (cutV vs lo hi) (cutD ds lo hi) := by
  unfold cutV cutD
  rw [r.length]
  exact (r.drop _).take _
theorem sIx_full {α : Type} {xs : List α} {lo hi : Option Int} (h : HT.sIx xs.length 0 lo = 0 ∧ HT.sIx xs.length xs.length hi = xs.length) : (xs.drop (HT.sIx xs.length 0 lo)).take (HT.sIx xs.length xs.length hi - HT.sIx xs.length 0 lo) = xs := by
  rw [h.1, h.2, List.drop_zero, Nat.sub_zero, List.take_length]
def fSl : PyData → Option Int → Option Int → Option PyData
  | .list ds, lo, hi => some (.list (cutD ds lo hi))
  | .tuple ds, lo, hi => some (.tuple (cutD ds lo hi))
  | .str z, lo, hi => if z.length ≤ LINE then some (.str (cutS z lo hi)) else none
  | _, _, _ => none
def dSl (f : Ex) (lo hi : Px) : Ex := fun T env => (f T env).bind fun w e => (lo T e).bind fun l e1 => (hi T e1).bind fun u e2 => match (deref e2 w).bind fun d => fSl d l u with
  | some d => .ok (.d d) e2
  | none => .bad
def rSlD (K : PySem.W.Frag) : V → Option Int → Option Int → Hp → VK → Prop := fun x lo hi H Q => rSlL K x lo hi H Q ∨ (rSlA K x lo hi H Q ∨ rSlS x lo hi H Q)
theorem slD : SlR X (rSlD X.K) := SlR.or sl_list (SlR.or sl_tupA sl_str)
theorem pd_slice {a : Expr} {lo hi : Option Expr} {f : Ex} {l u : Px} {p2 pos : Pos} (hK : X.K = K) (ha : PE X a (rdE K wx T f)) (hl : PO X lo (rdP K wx T l)) (hu : PO X hi (rdP K wx T u)) :
    PE X (.Subscript a (.Slice lo hi none p2) pos) (rdE K wx T (dSl f l u)) := by
  subst hK
  refine peImp (pe_slice slD ha hl hu) fun σ H Q h => ?_
  obtain ⟨C, env, M, hK, rp, p⟩ := h
  refine rd_bind hK rp p fun w env1 v M1 H1 r1 s1 q1 p1 => ?_
  refine rd_bind hK r1 p1 fun lo env2 lo' M2 H2 r2 s2 q2 p2 => ?_
  have q2 : lo = lo' := q2
  subst q2
  refine rd_bind hK r2 p2 fun hi env3 hi' M3 H3 r3 s3 q3 p3 => ?_
  have q3 : hi = hi' := q3
  subst q3
  split at p3
  · rename_i d e
    obtain ⟨d0, e0, e1⟩ := Option.bind_eq_some_iff.mp e
    have b := deref_br r3 ((q1.step (env' := env2) s2).step (env' := env3) s3) e0
    unfold fSl at e1
    split at e1
    · cases e1
      obtain ⟨a, xs, rfl, h, r⟩ := b.list
      exact .inl ⟨a, xs, rfl, SqL.of h, fun p n => p3 _ M3 _ (r3.ext (Ext.upd n)) (Step.ext (Ext.upd n)) (.lst upd_same (r3.fresh n) ((r.cut lo hi).ext (Ext.upd n)))⟩
    · cases e1
      obtain ⟨a, xs, rfl, h, n, r⟩ := b.tuple
      refine .inr (.inl ⟨a, xs, rfl, SqT.of h, fun z => ?_, fun _ p n => p3 _ M3 _ (r3.ext (Ext.upd n)) (Step.ext (Ext.upd n)) (.tup upd_same (r3.fresh n) ((r.cut lo hi).ext (Ext.upd n)))⟩)
      have c := r.cut lo hi
      have e2 : cutV xs lo hi = xs := sIx_full z
      rw [e2] at c
      exact p3 _ M3 _ r3 (Step.refl _ _) (.tup h n c)
    · split at e1
      · rename_i z hz
        cases e1
        rw [b.str]
        exact .inr (.inr ⟨z, rfl, le_line hz, p3 _ M3 _ r3 (Step.refl _ _) (.str _)⟩)
      · cases e1
    · cases e1
  · exact p3.elim

def tRevA (K : PySem.W.Frag) (te : TE) : TE := fun σ H Q => te σ H fun x H1 => (∃ a xs, x = .ref a ∧ SqL K H1 a xs ∧ ∀ p, H1 p = none → Q (.ref p) (upd H1 p (.lst xs.reverse))) ∨
  ((∃ a xs, x = .ref a ∧ SqT K H1 a xs ∧ ∀ p, H1 p = none → Q (.ref p) (upd H1 p (.tup xs.reverse))) ∨ ∃ z, x = .str z ∧ z.length ≤ sizeLine ∧ Q (.str ⟨z.cps.toList.reverse.toArray⟩) H1)
theorem rv_cps {α : Type} (xs : Array α) : (sliceRange ((xs.size : Int) - 1) (-1) (-1)).filterMap (xs[·]?) = xs.toList.reverse := by
  rw [PySem.W.krv_sliceRange, PySem.W.krv_range, List.filterMap_reverse, PySem.W.krv_all]
theorem rv_str (z : Str) : Builtin.Str.strSliceIndices none none (-1) z.length = sliceRange ((z.cps.size : Int) - 1) (-1) (-1) := rfl
theorem pe_revA {e : Expr} {te : TE} {k : Nat} {p1 p2 p3 pos : Pos} (he : PE X e te) : PE X (.Subscript e (.Slice none none (some (.UnaryOp .USub (.Constant (.int 1) k p1) p2)) p3) pos) (tRevA X.K te) := by
  refine ⟨fun pins s σ H Q I h => ?_⟩
  refine Subscript_ (thn (he.run pins s σ H _ I h) fun v s1 ⟨x, H1, I1, rx, q1⟩ => ?_)
  have hst : PO X (some (.UnaryOp .USub (.Constant (.int 1) k p1) p2)) (tPart (tUn (rU fun i => .int (-i)) (tC (.int 1)))) := po_some (pe_un un_neg pe_int)
  refine wpAny_Slice (thn (po_none.run pins s1 σ H1 (fun o G => o = none ∧ G = H1) I1 ⟨rfl, rfl⟩) fun vl s2 ⟨l, H2, I2, pl, el, e2⟩ => ?_)
  subst el e2
  refine thn (po_none.run pins s2 σ H2 (fun o G => o = none ∧ G = H2) I2 ⟨rfl, rfl⟩) fun vu s3 ⟨u, H3, I3, pu, eu, e3⟩ => ?_
  subst eu e3
  refine thn (hst.run pins s3 σ H3 (fun o G => o = some (-1) ∧ G = H3) I3 ⟨1, rfl, -1, rfl, rfl, rfl⟩) fun vs s4 ⟨o, H4, I4, ps, eo, e4⟩ => ?_
  subst eo e4
  have I5 : Inv X pins σ H4 { s4 with heap := s4.heap.push { cls := .type "slice", data := .fields #[vl, vu, vs] } } := I4.kept (t' := s4.toks) fun b ob q => Heap.get?_push_of_some _ q
  obtain ⟨nl, rfl, el⟩ := IsPart.raw pl
  obtain ⟨nu, rfl, eu⟩ := IsPart.raw pu
  obtain ⟨ns, rfl, es⟩ := IsPart.raw ps
  cases nl with
  | some _ => cases el
  | none =>
  cases nu with
  | some _ => cases eu
  | none =>
  cases ns with
  | none => cases es
  | some nt =>
  obtain ⟨nv, nk⟩ := nt
  have env : nv = -1 := by cases es; rfl
  subst env
  show wpAny (model X.prog X.w) X.A (subscriptTail e (.Slice none none (some (.UnaryOp .USub (.Constant (.int 1) k p1) p2)) p3) v (.ref s4.heap.objs.size)) (EP X pins σ Q) X.xe { s4 with heap := s4.heap.push { cls := .type "slice", data := .fields #[.none, .none, .int (-1) nk] } }
  rcases q1 with ⟨a, xs, rfl, hx, q⟩ | ⟨a, xs, rfl, hx, q⟩ | ⟨z, rfl, hz, q⟩
  · cases rx
    obtain ⟨its, r, ht, hz⟩ := I5.list hx
    have hlen := r.length
    refine tail_any (ops := [.ref a, .ref s4.heap.objs.size]) ht.isList.typeIs (PySem.slot_list_getitem.lookup) ?_ (by with_unfolding_all rfl)
    refine wpAny_getItem_list_slice ht.isList (Heap.IsSliceOf.new _ .none .none (.int (-1) nk)) .none .none (.int (-1) nk) (by decide) ?_ (by rw [List.size_toArray]; omega)
    rw [PySem.W.krv_pick]
    refine ⟨.ref _, _, I5.laid (t' := s4.toks) (o := .lst xs.reverse) (fun b ob q => Heap.get?_push_of_some _ q) (Nat.le_refl _) ⟨by rw [List.length_reverse]; exact hz, _, 0, r.reverse, Heap.get?_push_size _ rfl⟩, rfl, q _ (I5.hok.fresh (Nat.le_refl _))⟩
  · cases rx
    obtain ⟨its, r, ht, hz⟩ := I5.tuple hx
    have hlen := r.length
    refine tail_any (ops := [.ref a, .ref s4.heap.objs.size]) ht.typeIs PyProof.Rows.slot_tuple_getitem.lookup ?_ (by with_unfolding_all rfl)
    refine HT.rvTuple ht (Heap.IsSliceOf.new _ .none .none (.int (-1) nk)) ?_ (by rw [List.size_toArray]; omega)
    refine ⟨.ref _, _, I5.laid (t' := s4.toks) (o := .tup xs.reverse) (fun b ob q => Heap.get?_push_of_some _ q) (Nat.le_refl _) ⟨by rw [List.length_reverse]; exact hz, _, r.reverse, IsTup.new _ _⟩, rfl, q _ (I5.hok.fresh (Nat.le_refl _))⟩
  · obtain ⟨t, rfl⟩ := rx
    refine tail_any (ops := [.ref s4.heap.objs.size, .str z t]) (typeIs_str _ _ _) F.slot_str_getitem.lookup ?_ (by with_unfolding_all rfl)
    refine wpAny_getItem_str_slice (l := none) (u := none) (st := some (-1, nk)) ⟨_, Heap.get?_push_size _ rfl, rfl, rfl⟩ rfl ?_
    show Made.post (if ((-1 : Int) == 1 && (Builtin.Str.strSliceIndices none none (-1) z.length).length == z.length) = true then Made.val (.str z t)
      else Made.str ⟨((Builtin.Str.strSliceIndices none none (-1) z.length).filterMap (z.cps[·]?)).toArray⟩) (EP X pins σ Q) _
    rw [if_neg (by rw [Bool.and_eq_true]; exact fun z => absurd z.1 (by decide)), rv_str, rv_cps]
    refine ⟨?_, .str _, H4, I5.tok _, ⟨_, rfl⟩, q⟩
    show z.cps.toList.reverse.toArray.size ≤ sizeLine
    rw [List.size_toArray, List.length_reverse, Array.length_toList]
    exact hz
def fRev : PyData → Option PyData
  | .list ds => some (.list ds.reverse)
  | .tuple ds => some (.tuple ds.reverse)
  | .str z => if z.length ≤ LINE then some (.str ⟨z.cps.toList.reverse.toArray⟩) else none
  | _ => none
def dRev (f : Ex) : Ex := fun T env => (f T env).bind fun w e => match (deref e w).bind fRev with
  | some d => .ok (.d d) e
  | none => .bad
theorem pd_rev {e : Expr} {f : Ex} {k : Nat} {p1 p2 p3 pos : Pos} (hK : X.K = K) (he : PE X e (rdE K wx T f)) : PE X (.Subscript e (.Slice none none (some (.UnaryOp .USub (.Constant (.int 1) k p1) p2)) p3) pos) (rdE K wx T (dRev f)) := by
  subst hK
  refine peImp (pe_revA he) fun σ H Q h => ?_
  obtain ⟨C, env, M, hK, rp, p⟩ := h
  refine rd_bind hK rp p fun w env1 v M1 H1 r1 s1 q1 p1 => ?_
  split at p1
  · rename_i d e
    obtain ⟨d0, e0, e1⟩ := Option.bind_eq_some_iff.mp e
    have b := deref_br r1 q1 e0
    unfold fRev at e1
    split at e1
    · cases e1
      obtain ⟨a, xs, rfl, h, r⟩ := b.list
      exact .inl ⟨a, xs, rfl, SqL.of h, fun p n => p1 _ M1 _ (r1.ext (Ext.upd n)) (Step.ext (Ext.upd n)) (.lst upd_same (r1.fresh n) (r.reverse.ext (Ext.upd n)))⟩
    · cases e1
      obtain ⟨a, xs, rfl, h, n, r⟩ := b.tuple
      exact .inr (.inl ⟨a, xs, rfl, SqT.of h, fun p n => p1 _ M1 _ (r1.ext (Ext.upd n)) (Step.ext (Ext.upd n)) (.tup upd_same (r1.fresh n) (r.reverse.ext (Ext.upd n)))⟩)
    · split at e1
      · rename_i z hz
        cases e1
        rw [b.str]
        exact .inr (.inr ⟨z, rfl, le_line hz, p1 _ M1 _ r1 (Step.refl _ _) (.str _)⟩)
      · cases e1
    · cases e1
  · exact p1.elim
end
end Pv
end
section
set_option Elab.async false
set_option linter.all false
set_option maxRecDepth 100000
set_option maxHeartbeats 4000000
set_option autoImplicit false
namespace Pv
open PySem PySem.Spec PyProof.Rows L2

/-- what a clause's suite does with an error of ours: nothing; return () -/
inductive Hk where
  | pass
  | empty
def hndK : Hk → Env → Fl
  | .pass, e => .nx e
  | .empty, e => .ret (.tuple []) e
def hnd (isub : Str → Str → Bool) : List (Str × Nat × Hk) → Str → Env → Fl
  | [], c, e => .exc c e
  | (x, i, k) :: rest, c, e => if isub c x = true then (if i < e.length then hndK k (e.set i .un) else .bad) else hnd isub rest c e
def dTry (known : List Str) (isub : Str → Str → Bool) (g : Sx) (hs : List (Str × Nat × Hk)) : Sx := fun T env => match g T env with
  | .exc c e => if known.contains c = true then hnd isub hs c e else .bad
  | r => r
/-- what our own errors' classes say -/
structure Errs (K : PySem.W.Frag) (known : List Str) (isub : Str → Str → Bool) : Prop where
  cls : ∀ c ∈ known, ExcC K (He.ga K c)
  ve : ∀ c ∈ known, PySem.W.kitOne K (.ref (He.ga K c)) (.type "ValueError") = some true
  exm : ∀ c ∈ known, ∀ x ∈ known, PySem.W.exmOne K (.ref (He.ga K c)) (.ref (He.ga K x)) = some (isub c x)
def tsOf (K : PySem.W.Frag) (i : Nat) (k : Hk) : SuiteR := fun a cls d E σ H => ∃ D, cls = .ref D ∧ d = none ∧ ExcC K D ∧ PySem.W.kitOne K (.ref D) (.type "ValueError") = some true ∧ σ[i]? = some (some (.ref a)) ∧
  match k with
  | .pass => E.nx σ H
  | .empty => ∀ p, H p = none → E.rt (.ref p) (upd H p (.tup []))
theorem rep_forget {C : Cc} {M : Addr → Prop} {H : Hp} {σ σ' : L2.St} {env : Env} {i : Nat} (r : Rep C M H σ env) (hl : σ'.length = σ.length) (h : ∀ j, j ≠ i → σ'[j]? = σ[j]?) : Rep C M H σ' (env.set i .un) := by
  refine ⟨by simpa [hl] using r.len, fun j sv hj => ?_, fun j k b bj bk dj dk hjk ej ek sj sk => ?_, r.live, r.fg, r.apart⟩
  · rcases get_set hj with ⟨rfl, rfl⟩ | ⟨hne, hj⟩
    · have hlt : j < σ'.length := by
        have := (List.getElem?_eq_some_iff.mp hj).1
        rw [hl, r.len]
        simpa using this
      exact ⟨σ'[j], List.getElem?_eq_getElem hlt, trivial⟩
    · rw [h j hne]
      exact r.at_ j sv hj
  · rcases get_set ej with ⟨_, z⟩ | ⟨nj, ej⟩
    · cases z
    · rcases get_set ek with ⟨_, z⟩ | ⟨nk, ek⟩
      · cases z
      · rw [h j nj] at sj
        rw [h k nk] at sk
        exact r.sep j k b bj bk dj dk hjk ej ek sj sk
section
variable {X : Cx} {K : PySem.W.Frag} {wx : WX} {T : Tab}
/-- if not isinstance(error, ValueError): return False -/
theorem suite_pass {n : Str} {i j : Nat} {p1 p2 p3 p4 p5 p6 p7 p8 : Pos} (hK : X.K = K) (hi : X.N[i]? = some n) (hv : Vis X.env.scope n) (hd : (n == ("__debug__" : Str)) = false) (hcd : (n == ("__classdict__" : Str)) = false) (hg : Gl X "isinstance") (hm : X.mg "isinstance" = none) (hgv : Gl X "ValueError") (hmv : X.mg "ValueError" = none)
    (h1 : starEach [.Name n p1, .Name "ValueError" p2] X.env = (false, eval (.Name n p1) X.env) :: starEach [.Name "ValueError" p2] X.env) (h2 : (backTo p4 (starEach [.Name "ValueError" p2] X.env)).any (·.1) = false)
    (a : Addr) (oe : Obj) (cls : Value) (d : Option Addr) (pn : List (Addr × Obj)) (z : Zc cls d oe) (f : ∃ fs, oe.data = .fields fs) :
    PSs (X.suite a ((a, oe) :: pn)) [.If (.UnaryOp .Not (.Call (.Name "isinstance" p3) [.Name n p1, .Name "ValueError" p2] [] p4) p5) [.Return (some (.Constant (.bool false) j p6)) p7] [] p8] (tsOf K i .pass a cls d) := by
  subst hK
  refine ⟨fun pins s σ H E I q => ?_⟩
  obtain ⟨D, rfl, rfl, C, kt, hs, q⟩ := q
  have pc : PE (X.suite a ((a, oe) :: pn)) (.Call (.Name "isinstance" p3) [.Name n p1, .Name "ValueError" p2] [] p4) _ := pe_callB (call_isE C z f) (X := X.suite a ((a, oe) :: pn)) hg hm boot_isinstance (pa_cons (pe_var (i := i) hi hv hd hcd) (pa_cons (pe_bltn hgv hmv (by decide +kernel : bootBuiltins "ValueError" = some (.type "ValueError")) (show RelV (.ty "ValueError") (.type "ValueError") from rfl) (by decide) (by decide)) pa_nil rfl) h1) (by decide) rfl h1 h2
  refine (pss_one (ps_if (pt_not (pt_val pc)) (pss_one (ps_ret pe_bl)) pss_nil)).run pins s σ H E I ?_
  refine ⟨.ref a, hs, .ty "ValueError", .type "ValueError", true, rfl, fun u hu => hu, kt, ?_⟩
  refine ⟨true, rfl, ?_⟩
  show (if (!true) = true then tRet (tC (V.bl false)) E σ H else tNext E σ H)
  rw [if_neg (by decide)]
  exact q
/-- return () if isinstance(error, ValueError) else None -/
theorem suite_empty {n : Str} {i j k : Nat} {p1 p2 p3 p4 p5 p6 p7 p8 : Pos} (hK : X.K = K) (hi : X.N[i]? = some n) (hv : Vis X.env.scope n) (hd : (n == ("__debug__" : Str)) = false) (hcd : (n == ("__classdict__" : Str)) = false) (hg : Gl X "isinstance") (hm : X.mg "isinstance" = none) (hgv : Gl X "ValueError") (hmv : X.mg "ValueError" = none)
    (h1 : starEach [.Name n p1, .Name "ValueError" p2] X.env = (false, eval (.Name n p1) X.env) :: starEach [.Name "ValueError" p2] X.env) (h2 : (backTo p4 (starEach [.Name "ValueError" p2] X.env)).any (·.1) = false)
    (a : Addr) (oe : Obj) (cls : Value) (d : Option Addr) (pn : List (Addr × Obj)) (z : Zc cls d oe) (f : ∃ fs, oe.data = .fields fs) :
    PSs (X.suite a ((a, oe) :: pn)) [.Return (some (.IfExp (.Call (.Name "isinstance" p3) [.Name n p1, .Name "ValueError" p2] [] p4) (.Tuple [] k p5) (.Constant .none j p6) p7)) p8] (tsOf K i .empty a cls d) := by
  subst hK
  refine ⟨fun pins s σ H E I q => ?_⟩
  obtain ⟨D, rfl, rfl, C, kt, hs, q⟩ := q
  have pc : PE (X.suite a ((a, oe) :: pn)) (.Call (.Name "isinstance" p3) [.Name n p1, .Name "ValueError" p2] [] p4) _ := pe_callB (call_isE C z f) (X := X.suite a ((a, oe) :: pn)) hg hm boot_isinstance (pa_cons (pe_var (i := i) hi hv hd hcd) (pa_cons (pe_bltn hgv hmv (by decide +kernel : bootBuiltins "ValueError" = some (.type "ValueError")) (show RelV (.ty "ValueError") (.type "ValueError") from rfl) (by decide) (by decide)) pa_nil rfl) h1) (by decide) rfl h1 h2
  refine (pss_one (ps_ret (pe_ifExp (pt_val pc) (pe_tup pa_nil) pe_non))).run pins s σ H E I ?_
  refine ⟨.ref a, hs, .ty "ValueError", .type "ValueError", true, rfl, fun u hu => hu, kt, true, rfl, ?_⟩
  show (if true = true then tTup tNil σ H E.rt else tC V.non σ H E.rt)
  rw [if_pos rfl]
  exact ⟨Nat.zero_le _, q⟩
theorem wNam_of {known : List Str} {isub : Str → Str → Bool} (he : Errs K known isub) {C : Cc} {M : Addr → Prop} {H : Hp} {D : Ends} {c : Str} (hc : c ∈ known) (hK : C.K = K) : ∀ {hs : List (Str × Nat × Hk)} {env : Env} {σ : L2.St}, (∀ h ∈ hs, h.1 ∈ known) → Rep C M H σ env →
    PostS C wx M H (hnd isub hs c env) D → wNam K wx D (hs.map fun h => (Value.ref (He.ga K h.1), h.2.1, tsOf K h.2.1 h.2.2)) (.ref (He.ga K c)) none σ H
  | [], env, σ, _, r, p => by
    have z := p σ M H r (Step.refl _ _)
    rw [hK] at z
    exact z
  | (x, i, k) :: rest, env, σ, hn, r, p => by
    have hx := hn _ List.mem_cons_self
    refine ⟨isub c x, he.exm c hc x hx, fun hb a na => ?_, fun hb => ?_⟩
    · unfold hnd at p
      rw [if_pos hb] at p
      split at p
      rotate_left
      · exact p.elim
      rename_i hil
      refine ⟨_, rfl, rfl, he.cls c hc, he.ve c hc, by rw [List.getElem?_set_self (by rw [r.len]; exact hil)], ?_⟩
      have r2 : Rep C M H ((σ.set i (some (.ref a))).set i none) (env.set i .un) := rep_forget r (by simp) fun j hj => by
        rw [List.getElem?_set_ne (Ne.symm hj), List.getElem?_set_ne (Ne.symm hj)]
      cases k with
      | pass => exact p _ M H r2 (Step.refl _ _)
      | empty =>
        intro q nq
        exact p (.ref q) _ M _ (r2.ext (Ext.upd nq)) (Step.ext (Ext.upd nq)) (.tup upd_same (r.fresh nq) .nil)
    · unfold hnd at p
      rw [if_neg (by rw [hb]; exact Bool.false_ne_true)] at p
      exact wNam_of he hc hK (fun h hh => hn h (List.mem_cons_of_mem _ hh)) r p
theorem pd_try {body : List Stmt} {h1 : ExceptHandler} {more : List ExceptHandler} {pos : Pos} {g : Sx} {known : List Str} {isub : Str → Str → Bool} {hs : List (Str × Nat × Hk)} (hK : X.K = K) (he : Errs K known isub) (hkn : ∀ h ∈ hs, h.1 ∈ known)
    (hst : X.stack = X.env :: X.outer) (hf : X.env.frame = some X.env.locals) (hN : X.N.Nodup) (tk : Takes X wx)
    (hb : ∀ (Wi : WX) (pn : List (Addr × Obj)) (xe : Value → Shared → Prop), Takes (X.tr pn xe) Wi → PassesOwn (model X.prog X.w) X.A X.env xe → PSs (X.tr pn xe) body (rdS K Wi T g))
    (hh : HdsN X (h1 :: more) (hs.map fun h => (Value.ref (He.ga K h.1), h.2.1, tsOf K h.2.1 h.2.2))) : PS X (.Try body (h1 :: more) [] [] pos) (rdS K wx T (dTry known isub g hs)) := by
  subst hK
  refine ⟨fun pins s σ H D I q => ?_⟩
  refine (try_named (tb := fun Wi => rdS X.K Wi T g) hst hf hN tk hb hh).run pins s σ H D I ?_
  obtain ⟨C, env, M, hK, r, p⟩ := q
  refine ⟨C, env, M, hK, r, ?_⟩
  unfold dTry at p
  cases e : g T env with
  | nx e2 => rw [e] at p; exact p
  | bk e2 => rw [e] at p; exact p
  | ct e2 => rw [e] at p; exact p
  | ret d e2 => rw [e] at p; exact p
  | bad => rw [e] at p; exact p
  | exc c e2 =>
    rw [e] at p
    have p : PostS C wx M H (if known.contains c = true then hnd isub hs c e2 else .bad) D := p
    split at p
    · rename_i hc
      intro σ' M' H' r' s'
      rw [hK]
      refine wNam_of he (by simpa using hc) hK hkn r' (PostS.later p s')
    · exact p.elim
end
end Pv
end
section
set_option Elab.async false
set_option linter.all false
set_option maxRecDepth 100000
set_option maxHeartbeats 4000000
set_option autoImplicit false
namespace SS
open PySem PySem.Spec PyProof.Rows
section
variable {prog : Program} {w : World} {A : Around} {E : Value → Shared → Prop} {s : Shared}
set_option maxHeartbeats 3200000 in
/-- set(t), t a tuple of whole numbers -/
theorem setTupI {l : Addr} {its : Array Value} {ns : List Int} {Q : Value → Shared → Prop}
    (hh : A.handled = none) (hl : s.heap.IsTuple l its) (hi : PyProof.Rows.IntsAre its.toList ns) (hb : its.size + 1 < scanBound)
    (h : ∀ (h' : Heap) (tk : Nat), h'.SetOf (intKind prog w) s.heap.objs.size (fun k' => (PyProof.Rows.firstMet (fun i => ns.getD i 0) its.size).any (· == k')) (PyProof.Rows.firstMet (fun i => ns.getD i 0) its.size).length →
      (∀ b o, b < s.heap.objs.size → s.heap.get? b = some o → h'.get? b = some o) → Q (.ref s.heap.objs.size) { s with heap := h', toks := tk }) :
    wpAny (model prog w) A (call (.type "set") [.ref l]) Q E s := by
  obtain ⟨cc, tl, hmr⟩ := PySem.F.called_set.mro
  have qmade := PySem.F.called_set.made
  have qsub := PySem.F.called_set.sub
  refine wpAny_call (codeAny_of_tree ?_)
  show wpAny _ _ (callAny (.type "set") _) _ _ _
  refine wpAny_pure ⟨Code.quiet_builtin _ (by decide +kernel), codeAny_builtin PySem.F.entry_type_call (?_)⟩
  rw [Around.under_plain (weight_type_call_type "set" [.ref l] []) rfl]
  have q1 := PySem.F.called_set.notType
  have q2 := PySem.F.called_set.canCreate
  have q3 := PySem.F.typeCall_set_1 (.ref l)
  repeat (any_goals (first | assumption | wp_step))
  let S0 (b : Bool) : Obj := { cls := .type "set", dict := none, data := .set #[] 0 (.fresh 0 0 b) }
  refine codeAny_mono (code_set_new_1 (.ref l) (E := E) (Q₁ := fun ob s₁ => ∃ b : Bool, ob = .ref s.heap.objs.size ∧ s₁ = { s with heap := s.heap.push (S0 b) }) fun b => ⟨b, rfl, rfl⟩) fun r s₁ hr => ?_
  cases r with
  | error e => exact hr
  | ok fl =>
    cases fl with
    | ret ob =>
      obtain ⟨b0, rfl, rfl⟩ := hr
      have hS : (s.heap.push (S0 b0)).get? s.heap.objs.size = some (S0 b0) := Heap.get?_push_size _ rfl
      have hT : Shared.TypeIs { s with heap := s.heap.push (S0 b0) } (.ref s.heap.objs.size) "set" := ⟨_, hS, rfl⟩
      have qli := PySem.F.called_set.init.lookup
      have qbi := PySem.F.called_set.init.bind (.ref s.heap.objs.size)
      repeat (any_goals (first | assumption | wp_step))
      refine codeAny_mono (codeAny_call_builtin (R := wants (fun r s₂ => r = .none ∧ ∃ h' tk, s₂ = { s with heap := h', toks := tk } ∧
          h'.SetOf (intKind prog w) s.heap.objs.size (fun k' => (PyProof.Rows.firstMet (fun i => ns.getD i 0) its.size).any (· == k')) (PyProof.Rows.firstMet (fun i => ns.getD i 0) its.size).length ∧
          (∀ b o, b < s.heap.objs.size → s.heap.get? b = some o → h'.get? b = some o)) E) PySem.F.called_set.init.plain PySem.F.entry_set_init (check_set_init_1 hT (?_))) fun r₂ s₂ hr₂ => ?_
      · obtain ⟨ol, hol, hcl, nl, hdl⟩ := hl
        obtain ⟨ocls, odict, odata, oslots⟩ := ol
        simp only at hcl hdl
        subst hcl; subst hdl
        have hol' : (s.heap.push (S0 b0)).get? l = some { cls := .type "tuple", dict := odict, data := .seq its nl, slots := oslots } := Heap.get?_push_of_some _ hol
        have z1 := PySem.F.sub_tuple_set
        have z2 := PySem.F.sub_tuple_frozenset
        have z3 : (Value.type "tuple" == Value.type "dict") = false := by decide
        have hl1 : (s.heap.push (S0 b0)).IsTuple l its := ⟨_, hol', rfl, nl, rfl⟩
        unfold Builtin.«set.__init__» noKeywords Builtin.Frozenset.updateFrom
        generalize hPI : pyIter = PI
        wp_walk
        subst hPI
        refine wpAny_pyIter_tuple hl1 ?_
        refine wpAny_bind (wpAny_runValue ?_)
        have hlS : l < s.heap.objs.size := Heap.lt_size hol
        have hh3 : A.in1.in1.in1.handled = none := by simp [hh]
        have hneI : l ≠ (s.heap.push (S0 b0)).objs.size := by
          rw [Heap.size_push]; exact Nat.ne_of_lt (Nat.lt_succ_of_lt hlS)
        have hSf : s.heap.objs.size ∉ [(s.heap.push (S0 b0)).objs.size, l] := by
          rw [Heap.size_push]
          simp only [List.mem_cons, List.mem_singleton, List.not_mem_nil, or_false, not_or]
          exact ⟨Nat.ne_of_lt (Nat.lt_succ_self _), Nat.ne_of_gt hlS⟩
        have hval : ∀ (i : Nat) (v : Value), its[i]? = some v → ∃ t, v = .int ((fun i => ns.getD i 0) i) t := fun i v hv =>
          PyProof.Rows.IntsAre.int_at hi i v (by rw [Array.getElem?_toList]; exact hv)
        refine PyProof.Rows.codeAny_set_update_loopS ((Walks.tuple hh3 _ l hneI its).toS) s.heap.objs.size
          hSf (fun i => ns.getD i 0) hval hb (its.size - 0) 0 _ (by omega) (Nat.zero_le _)
          ⟨⟨_, Heap.get?_push_size _ rfl, rfl, rfl⟩, (hl1.push _)⟩ ?hS0 ?hR
        case hS0 =>
          have hget : ((s.heap.push (S0 b0)).push { cls := .type "tuple_iterator", data := .fields #[.ref l, .int 0 0] }).get? s.heap.objs.size = some (S0 b0) := Heap.get?_push_of_some _ hS
          exact PyProof.Rows.SetOf_congr ((PyProof.Rows.setObjOf_fresh (knd := intKind prog w) b0).setOf hget (by unfold scanBound; omega)) (fun _ => rfl) rfl
        case hR =>
          intro s' hm hS'
          obtain ⟨h', g', d', tk', os'⟩ := s'
          have e1 : g' = s.gens := hm.gens
          have e2 : d' = s.drawn := hm.drawn
          have e3 : os' = s.os := hm.os
          subst e1; subst e2; subst e3
          show wpAny _ _ _ _ _ _
          refine wpAny_pure ?_
          show wpAny _ _ (ret Value.none) _ _ _
          refine wpAny_pure ⟨rfl, h', tk', rfl, hS', fun b o hb e => ?_⟩
          have n1 : b ≠ s.heap.objs.size := Nat.ne_of_lt hb
          have n2 : b ≠ (s.heap.push (S0 b0)).objs.size := by
            rw [Heap.size_push]; exact Nat.ne_of_lt (Nat.lt_succ_of_lt hb)
          refine hm.heap b o ?_ (Heap.get?_push_of_some _ (Heap.get?_push_of_some _ e))
          simp only [List.mem_cons, List.mem_singleton, List.not_mem_nil, or_false, not_or]
          exact ⟨n1, n2⟩
      · cases r₂ with
        | error e => exact hr₂
        | ok fl₂ =>
          cases fl₂ with
          | ret r =>
            obtain ⟨rfl, h', tk, rfl, hS', hk'⟩ := hr₂
            repeat (any_goals (first | assumption | wp_step))
            exact h _ _ hS' hk'
          | _ => exact hr₂.elim
    | _ => exact hr.elim
end
end SS
namespace Pv
open PySem PySem.Spec PyProof.Rows L2
def distinct (ns : List Int) : List Int := firstMet (fun i => ns.getD i 0) ns.length
def tLenSetA (K : PySem.W.Frag) (ta : TE) : TE := fun σ H Q => ta σ H fun x H1 => ∃ (l : Addr) (ns : List Int), x = .ref l ∧ (SqL K H1 l (ns.map V.int) ∨ SqT K H1 l (ns.map V.int)) ∧ ns.length ≤ 4000 ∧ Q (.int ((distinct ns).length : Nat)) H1
theorem firstMet_le (val : Nat → Int) (n : Nat) : (firstMet val n).length ≤ n := firstMet_length_le val n
theorem pe_lenSetA {X : Cx} {a : Expr} {ta : TE} {p p2 q pos : Pos} (hg : Gl X "len") (hm : X.mg "len" = none) (hg2 : Gl X "set") (hm2 : X.mg "set" = none) (ha : PE X a ta) (hc : X.calm = true)
    (na : starEach [a] X.env = (false, eval a X.env) :: starEach [] X.env) : PE X (.Call (.Name "len" p) [.Call (.Name "set" p2) [a] [] q] [] pos) (tLenSetA X.K ta) := by
  refine ⟨fun pins s σ H Q I h => ?_⟩
  refine Call_ (ld_blt I hg hm boot_len (?_))
  refine PyProof.Rows.callWith_builtin1 (PyProof.Rows.args_cons (?_) rfl) rfl rfl
  refine Call_ (ld_blt I hg2 hm2 boot_set (?_))
  refine PyProof.Rows.callWith_type1 (PyProof.Rows.args_cons (thn (ha.run pins s σ H _ I h) fun v s1 ⟨x, H1, I1, rx, q1⟩ => PyProof.Rows.args_nil ?_) na) na rfl
  obtain ⟨l, ns, rfl, hq, hz, q1⟩ := q1
  cases rx
  have fin : ∀ (its : List Value), Vals (ns.map V.int) its → ∀ (h' : Heap) (tk : Nat), h'.SetOf (intKind X.prog X.w) s1.heap.objs.size (fun k' => (firstMet (fun i => ns.getD i 0) its.toArray.size).any (· == k')) (firstMet (fun i => ns.getD i 0) its.toArray.size).length →
      (∀ b o, b < s1.heap.objs.size → s1.heap.get? b = some o → h'.get? b = some o) →
      wpAny (model X.prog X.w) X.A (spliced (backTo pos (starEach [] X.env))) (fun vs s₂ => wpAny (model X.prog X.w) X.A (call (.builtin "len") (Value.ref s1.heap.objs.size :: vs)) (EP X pins σ Q) X.xe s₂) X.xe { s1 with heap := h', toks := tk } := fun its r h' tk hS hk => by
    refine PyProof.Rows.args_nil ?_
    have hl : its.toArray.size = ns.length := by rw [List.size_toArray, ← r.length, List.length_map]
    rw [hl] at hS
    have le := firstMet_le (fun i => ns.getD i 0) ns.length
    obtain ⟨o, es, ep, t, ho, hex, hd, _, _, _, hf, hn⟩ := hS
    have I2 : Inv X pins σ H1 { s1 with heap := h', toks := tk } := I1.kept fun b o e => hk b o (Heap.lt_size e) e
    exact call_len_set ho hex hd hf (by rw [hn] <;> omega) ⟨.int ((distinct ns).length : Nat), H1, I2.tok _, ⟨_, by rw [hn]; rfl⟩, q1⟩
  rcases hq with hq | hq
  · obtain ⟨its, r, pl, _⟩ := I1.list hq
    have hlen : its.toArray.size = ns.length := by rw [List.size_toArray, ← r.length, List.length_map]
    exact call_set_list (I1.ok.hd hc) pl.isList (by simpa using RZ.intsAre_vals r) (by rw [hlen]; unfold scanBound; omega) fun h' tk hS hk => fin its r h' tk hS hk
  · obtain ⟨its, r, pl, _⟩ := I1.tuple hq
    have hlen : its.toArray.size = ns.length := by rw [List.size_toArray, ← r.length, List.length_map]
    exact SS.setTupI (I1.ok.hd hc) pl (by simpa using RZ.intsAre_vals r) (by rw [hlen]; unfold scanBound; omega) fun h' tk hS hk => fin its r h' tk hS hk
def fLenSet : PyData → Option PyData
  | .list ds => (intsOf ds).bind fun ns => if ns.length ≤ 4000 then some (.int (distinct ns).length) else none
  | .tuple ds => (intsOf ds).bind fun ns => if ns.length ≤ 4000 then some (.int (distinct ns).length) else none
  | _ => none
def dLenSet (f : Ex) : Ex := fun T env => (f T env).bind fun w e => match (deref e w).bind fLenSet with
  | some d => .ok (.d d) e
  | none => .bad
section
variable {X : Cx} {K : PySem.W.Frag} {wx : WX} {T : Tab}
theorem pd_lenSet {a : Expr} {f : Ex} {p p2 q pos : Pos} (hK : X.K = K) (hg : Gl X "len") (hm : X.mg "len" = none) (hg2 : Gl X "set") (hm2 : X.mg "set" = none) (ha : PE X a (rdE K wx T f)) (hc : X.calm = true)
    (na : starEach [a] X.env = (false, eval a X.env) :: starEach [] X.env) : PE X (.Call (.Name "len" p) [.Call (.Name "set" p2) [a] [] q] [] pos) (rdE K wx T (dLenSet f)) := by
  subst hK
  refine peImp (pe_lenSetA hg hm hg2 hm2 ha hc na) fun σ H Q h => ?_
  obtain ⟨C, env, M, hK, rp, p⟩ := h
  refine rd_bind hK rp p fun w env1 v M1 H1 r1 s1 q1 p1 => ?_
  split at p1
  · rename_i d e
    obtain ⟨d0, e0, e1⟩ := Option.bind_eq_some_iff.mp e
    have b := deref_br r1 q1 e0
    unfold fLenSet at e1
    split at e1
    · obtain ⟨ns, e2, e3⟩ := Option.bind_eq_some_iff.mp e1
      split at e3
      · rename_i hz
        cases e3
        obtain ⟨a, xs, rfl, h, r⟩ := b.list
        have ex := r.ints_of e2
        subst ex
        exact ⟨a, ns, rfl, .inl (SqL.of h), hz, p1 _ M1 H1 r1 (Step.refl _ _) (.int _)⟩
      · cases e3
    · obtain ⟨ns, e2, e3⟩ := Option.bind_eq_some_iff.mp e1
      split at e3
      · rename_i hz
        cases e3
        obtain ⟨a, xs, rfl, h, n, r⟩ := b.tuple
        have ex := r.ints_of e2
        subst ex
        exact ⟨a, ns, rfl, .inr (SqT.of h), hz, p1 _ M1 H1 r1 (Step.refl _ _) (.int _)⟩
      · cases e3
    · cases e1
  · exact p1.elim

def rgL (a b : Int) : List PyData := (List.range (b - a).toNat).map fun (i : Nat) => PyData.int (a + (i : Int))
theorem rgV_frs {O : Addr → Prop} {H : Hp} (a b : Int) : FRs O H (rgV a b) (rgL a b) := by
  have e1 : rgV a b = ((List.range (b - a).toNat).map fun (i : Nat) => a + (i : Int)).map V.int := by unfold rgV; rw [List.map_map]; rfl
  have e2 : rgL a b = ((List.range (b - a).toNat).map fun (i : Nat) => a + (i : Int)).map PyData.int := by unfold rgL; rw [List.map_map]; rfl
  rw [e1, e2]
  exact FRs.ints _
abbrev rgOkB (a b : Int) : Bool := decide (-1000000000 < a ∧ a < 1000000000 ∧ -1000000000 < b ∧ b < 1000000000 ∧ (b - a).toNat ≤ LINE)
theorem rgOk {a b : Int} (h : rgOkB a b = true) : RgOk a b := by
  have h := of_decide_eq_true h
  exact ⟨by omega, by omega, by omega, by omega, by have := h.2.2.2.2; show _ ≤ 2 ^ 24; omega⟩
def dTupRg1 (f : Ex) : Ex := fun T env => (f T env).bind fun w e => match deref e w with
  | some (.int n) => if rgOkB 0 n = true then .ok (.d (.tuple (rgL 0 n))) e else .bad
  | _ => .bad
def dTupRg2 (f g : Ex) : Ex := fun T env => (f T env).bind fun w e => (g T e).bind fun u e => match deref e w, deref e u with
  | some (.int m), some (.int n) => if rgOkB m n = true then .ok (.d (.tuple (rgL m n))) e else .bad
  | _, _ => .bad
def dLstRg1 (f : Ex) : Fx := fun T env => (f T env).bind fun w e => match deref e w with
  | some (.int n) => if rgOkB 0 n = true then .ok (rgL 0 n) e else .bad
  | _ => .bad
theorem pd_tupRg1 {a : Expr} {f : Ex} {p p2 q pos : Pos} (hc : X.calm = true) (hg : Gl X "tuple") (hm : X.mg "tuple" = none) (hg2 : Gl X "range") (hm2 : X.mg "range" = none) (ha : PE X a (rdE K wx T f))
    (na : starEach [a] X.env = (false, eval a X.env) :: starEach [] X.env) (nr : starEach [.Call (.Name "range" p2) [a] [] q] X.env = (false, eval (.Call (.Name "range" p2) [a] [] q) X.env) :: starEach [] X.env) : PE X (.Call (.Name "tuple" p) [.Call (.Name "range" p2) [a] [] q] [] pos) (rdE K wx T (dTupRg1 f)) := by
  refine peImp (pe_tupRg hc hg hm (prg_1 hg2 hm2 ha na) nr) fun σ H Q h => ?_
  obtain ⟨C, env, M, hK, rp, p⟩ := h
  refine rd_bind hK rp p fun w env1 v M1 H1 r1 s1 q1 p1 => ?_
  split at p1
  · rename_i n e
    split at p1
    · rename_i ho
      exact ⟨n, (deref_br r1 q1 e).int, rgOk ho, fun l nl => p1 _ M1 _ (r1.ext (Ext.upd nl)) (Step.ext (Ext.upd nl)) (.tup upd_same (r1.fresh nl) (rgV_frs 0 n))⟩
    · exact p1.elim
  · exact p1.elim
theorem pd_append {i : Nat} {x : Str} {g : Ax} {e : Expr} {px apos cpos : Pos} (hK : X.K = K) (ho : PE X (.Name x px) (tVar i)) (ha : PA X [e] (rdA K wx T g)) (hbase : attributeBase (.Name x px) "append" X.env (eval (.Name x px) X.env) = eval (.Name x px) X.env)
    (hfew : ((backTo cpos (starEach [e] X.env)).all (fun x => !x.1) && (backToKw cpos (keywordEach [] X.env)).all (fun x => x.1.isSome) && decide ([e].length + ([] : List Keyword).length + (if ([] : List Keyword).isEmpty then 0 else 1) < 30)) = true)
    (hline : (apos.endLine == cpos.line) = true) (hs : starEach [e] X.env = (false, eval e X.env) :: starEach [] X.env) : PE X (.Call (.Attribute (.Name x px) "append" apos) [e] [] cpos) (rdE K wx T (dMeth i fAppend g)) := by
  subst hK
  exact pd_meth PySem.F.plainAttrs_list PySem.F.slot_list_append PySem.F.type_list_append mt_append appendD ho ha (pe_bm PySem.F.plainAttrs_list PySem.F.slot_list_append PySem.F.type_list_append mt_append ho ha hbase hfew hline hs rfl)
theorem pd_popAt {i : Nat} {x : Str} {g : Ax} {e : Expr} {px apos cpos : Pos} (hK : X.K = K) (ho : PE X (.Name x px) (tVar i)) (ha : PA X [e] (rdA K wx T g)) (hbase : attributeBase (.Name x px) "pop" X.env (eval (.Name x px) X.env) = eval (.Name x px) X.env)
    (hfew : ((backTo cpos (starEach [e] X.env)).all (fun x => !x.1) && (backToKw cpos (keywordEach [] X.env)).all (fun x => x.1.isSome) && decide ([e].length + ([] : List Keyword).length + (if ([] : List Keyword).isEmpty then 0 else 1) < 30)) = true)
    (hline : (apos.endLine == cpos.line) = true) (hs : starEach [e] X.env = (false, eval e X.env) :: starEach [] X.env) : PE X (.Call (.Attribute (.Name x px) "pop" apos) [e] [] cpos) (rdE K wx T (dMeth i fPopAt g)) := by
  subst hK
  exact pd_meth PySem.F.plainAttrs_list PySem.F.slot_list_pop PySem.F.type_list_pop mt_popAt popAtD ho ha (pe_bm PySem.F.plainAttrs_list PySem.F.slot_list_pop PySem.F.type_list_pop mt_popAt ho ha hbase hfew hline hs rfl)
end
end Pv
end
section
set_option Elab.async false
set_option linter.all false
set_option maxRecDepth 100000
set_option maxHeartbeats 4000000
set_option autoImplicit false
namespace Pv
open PySem PySem.Spec PyProof.Rows L2
section
variable {X : Cx} {K : PySem.W.Frag} {wx : WX} {T : Tab}
def fNeg : PyData → Option PyData
  | .int i => some (.int (-i))
  | _ => none
def dNeg (f : Ex) : Ex := fun T env => (f T env).bind fun w e => match (deref e w).bind fNeg with
  | some d => .ok (.d d) e
  | none => .bad
theorem pd_neg {a : Expr} {f : Ex} {pos : Pos} (ha : PE X a (rdE K wx T f)) : PE X (.UnaryOp .USub a pos) (rdE K wx T (dNeg f)) := by
  refine peImp (pe_un un_neg ha) fun σ H Q h => ?_
  obtain ⟨C, env, M, hK, rp, p⟩ := h
  refine rd_bind hK rp p fun w env1 v M1 H1 r1 s1 q1 p1 => ?_
  split at p1
  · rename_i d e
    obtain ⟨d0, e0, e1⟩ := Option.bind_eq_some_iff.mp e
    have b := deref_br r1 q1 e0
    unfold fNeg at e1
    split at e1
    · cases e1
      exact ⟨_, b.int, p1 _ M1 H1 r1 (Step.refl _ _) (.int _)⟩
    · cases e1
  · exact p1.elim
theorem ptsImp {es : List Expr} {t t' : TT} (h : PTs X es t) (k : ∀ σ H Q, t' σ H Q → t σ H Q) : PTs X es t' := ⟨fun pins s σ H Q I q => h.run pins s σ H Q I (k σ H Q q)⟩
theorem pdts_nil : PTs X [] (rdT K wx T dYes) := ptsImp pts_nil fun σ H Q h => by
  obtain ⟨C, env, M, hK, rp, p⟩ := h
  exact p true M H rp (Step.refl _ _) rfl
theorem pd_lc {elt tg iter : Expr} {ifs : List Expr} {scope : Scope} {own : List (Str × Nat)} {pos : Pos} {src : Ix} {vs is : List Nat} {tgt : Gx} {tst : Tx} {elc : Ex} (hv : own.map (·.2) = vs) (his : ∀ i ∈ is, i ∈ vs) (hc : X.calm = true) (hN : X.N.Nodup) (hi : PI X tg iter (rdI K wx T src)) (ok : blkC X.N X.env.scope scope own = true)
    (hg : ∀ (s : Shared) (H : Hp) (C : Addr) (cl : List (Str × Addr)) (fp : List Addr), PG (X.blk s H scope (compEnvC scope cl C X.env) fp) tg (rdG K tgt is)) (ht : ∀ (s : Shared) (H : Hp) (C : Addr) (cl : List (Str × Addr)) (fp : List Addr), PTs (X.blk s H scope (compEnvC scope cl C X.env) fp) ifs (rdT K wxN T tst))
    (he : ∀ (s : Shared) (H : Hp) (C : Addr) (cl : List (Str × Addr)) (fp : List Addr), PE (X.blk s H scope (compEnvC scope cl C X.env) fp) elt (rdE K wxN T elc)) (hs : ∀ x, foldedSetIterable iter X.env x = pure x) :
    PE X (.ListComp elt [⟨tg, iter, ifs, 0⟩] scope pos) (rdF K wx T (dLc src vs tgt tst elc)) := by
  subst hv
  exact peImp (pe_lc hc hN hi (blkOk_by ok) hg ht he hs) fun σ H Q h => lc_rd his h
end

structure FnAt (P : Program) (w : World) (K : PySem.W.Frag) (mg : Str → Option Value) (base : Heap) (k : Nat) (T : Tab) (x : Str) (n : Nat) (io : Bool) (ps : List Str) : Prop where
  ex : ∃ f fd, FnG P w K mg base (L2.CX P w) k f fd ps (spF K n io (T.fn x)) ∧ mg x = some (.ref f) ∧ PySem.W.keepIn K (.ref f) = true ∧ L2.Binds K fd ps []
  len : ∀ ds, T.fn x ds ≠ .bad → ds.length = n
section
variable {X : Cx} {K : PySem.W.Frag} {wx : WX} {T : Tab}
theorem pd_call {x : Str} {k : Nat} {ps : List Str} {p pos : Pos} {e : Expr} {es : List Expr} {g : Ax} {n : Nat} (F : FnAt X.prog X.w X.K X.mg X.base k T x n false ps) (hK : X.K = K) (tk : Takes X wx) (hr : RoomG k X.A) (hg : Gl X x) (ha : PA X (e :: es) (rdA K wx T g)) (hdb : (x == ("__debug__" : Str)) = false)
    (he : starEach (e :: es) X.env = (false, eval e X.env) :: starEach es X.env) (hpl : (backTo pos (starEach es X.env)).any (·.1) = false) : PE X (.Call (.Name x p) (e :: es) [] pos) (rdE K wx T (dCallF x g)) := by
  subst hK
  obtain ⟨f, fd, F1, F2, F3, F4⟩ := F.ex
  exact pd_callF rfl tk rfl F.len F1 hr hg F2 F3 F4 ha hdb he hpl
theorem pd_callM {x : Str} {k : Nat} {ps : List Str} {p pos : Pos} {e : Expr} {es : List Expr} {g : Ax} {n : Nat} (F : FnAt X.prog X.w X.K X.mg X.base k T x n true ps) (hK : X.K = K) (tk : Takes X wx) (hr : RoomG k X.A) (hg : Gl X x) (ha : PA X (e :: es) (rdA K wx T g)) (hdb : (x == ("__debug__" : Str)) = false)
    (he : starEach (e :: es) X.env = (false, eval e X.env) :: starEach es X.env) (hpl : (backTo pos (starEach es X.env)).any (·.1) = false) : PE X (.Call (.Name x p) (e :: es) [] pos) (rdE K wx T (dCallIo x g)) := by
  subst hK
  obtain ⟨f, fd, F1, F2, F3, F4⟩ := F.ex
  exact pd_callIo rfl tk rfl F.len F1 hr hg F2 F3 F4 ha hdb he hpl
end
structure FnI where
  n : Nat
  io : Bool
  tot : Nat
  body : Sx
def tabOf (prog : List (Str × FnI)) (wh : Nat) : Nat → Tab
  | 0 => ⟨fun _ _ => .bad, wh⟩
  | k + 1 => ⟨fun x ds => match prog.lookup x with
    | some i => fnRes i.n i.io i.tot i.body (tabOf prog wh k) ds
    | none => .bad, wh⟩
theorem fnRes_len {n : Nat} {io : Bool} {tot : Nat} {body : Sx} {T : Tab} (ds : List PyData) (h : fnRes n io tot body T ds ≠ .bad) : ds.length = n := by
  unfold fnRes at h
  by_cases e : ds.length = n
  · exact e
  · rw [if_neg e] at h; exact absurd rfl h
/-- a def's text, where it stands -/
structure DefT where
  st : Stmt
  N : List Str
  ps : List Str
/-- its body runs as told, at each level -/
def BodyAt (P : Program) (w : World) (K : PySem.W.Frag) (mg : Str → Option Value) (base : Heap) (k : Nat) (T : Tab) (x : Str) (d : DefT) (g : Sx) : Prop :=
  ∀ (f : Addr) (cdv : Value) (A : Around) (outer : List PySem.Env) (s : Shared) (H : Hp) (E : XK), RoomG k (A.deeper (envOfC x (defScope d.st) s.heap.objs.size f cdv)) →
    PSs (cxOf (L2.CX P w) P w K mg base d.N x (defScope d.st) f cdv A outer s H E) (defBody d.st) (rdS K (fun cls d _ H => E cls d H) T g)
theorem fn_body {P : Program} {w : World} {K : PySem.W.Frag} {mg : Str → Option Value} {base : Heap} {k : Nat} {T : Tab} {x : Str} {d : DefT} {g : Sx} {f : Addr} {fd : FuncData} {io : Bool} (F : FunD K x x (defArgs d.st) (defBody d.st) (defScope d.st) [] [] f fd) (S : FnScope d.N d.ps (defScope d.st)) (hle : d.ps.length ≤ d.N.length)
    (h : BodyAt P w K mg base k T x d g) : FnG P w K mg base (L2.CX P w) (k + 1) f fd d.ps (spF K d.ps.length io (fnRes d.ps.length io d.N.length g T)) :=
  fnG_body F S (fun vs H Q E q => q.1) fun cdv A outer s H vs Q E hr q => ⟨_, h f cdv A outer s H E hr, body_ok hle q⟩
theorem fn_none {P : Program} {w : World} {K : PySem.W.Frag} {mg : Str → Option Value} {base : Heap} {x : Str} {d : DefT} {f : Addr} {fd : FuncData} {io : Bool} (F : FunD K x x (defArgs d.st) (defBody d.st) (defScope d.st) [] [] f fd) (S : FnScope d.N d.ps (defScope d.st)) :
    FnG P w K mg base (L2.CX P w) 1 f fd d.ps (spF K d.ps.length io fun _ => .bad) :=
  fnG_body F S (fun vs H Q E q => q.1) fun cdv A outer s H vs Q E hr q => by
    obtain ⟨_, _, _, _, _, p⟩ := q
    exact p.elim
/-- one entry: name, text, closure -/
structure Ent where
  x : Str
  d : DefT
  io : Bool
  g : Sx
def progOf (es : List Ent) : List (Str × FnI) := es.map fun e => (e.x, ⟨e.d.ps.length, e.io, e.d.N.length, e.g⟩)
structure EntOk (K : PySem.W.Frag) (mg : Str → Option Value) (e : Ent) : Prop where
  fn : ∃ f fd, FunD K e.x e.x (defArgs e.d.st) (defBody e.d.st) (defScope e.d.st) [] [] f fd ∧ mg e.x = some (.ref f) ∧ PySem.W.keepIn K (.ref f) = true ∧ L2.Binds K fd e.d.ps []
  sc : FnScope e.d.N e.d.ps (defScope e.d.st)
  le : e.d.ps.length ≤ e.d.N.length
theorem lookup_prog : ∀ {es : List Ent} {e : Ent}, e ∈ es → (es.map (·.x)).Nodup → (progOf es).lookup e.x = some ⟨e.d.ps.length, e.io, e.d.N.length, e.g⟩
  | a :: es, e, h, nd => by
    rw [List.map_cons, List.nodup_cons] at nd
    show List.lookup e.x ((a.x, _) :: progOf es) = _
    rcases List.mem_cons.mp h with rfl | h
    · rw [List.lookup_cons_self]
    · have ne : (e.x == a.x) = false := by
        refine beq_eq_false_iff_ne.mpr fun z => nd.1 ?_
        rw [← z]
        exact List.mem_map_of_mem h
      rw [List.lookup_cons, ne]
      exact lookup_prog h nd.2
theorem levels {P : Program} {w : World} {K : PySem.W.Frag} {mg : Str → Option Value} {base : Heap} {es : List Ent} {wh : Nat} (hes : ∀ e ∈ es, EntOk K mg e) (nd : (es.map (·.x)).Nodup)
    (hb : ∀ k T, (∀ e ∈ es, FnAt P w K mg base k T e.x e.d.ps.length e.io e.d.ps) → ∀ e ∈ es, BodyAt P w K mg base k T e.x e.d e.g) : ∀ k, ∀ e ∈ es, FnAt P w K mg base (k + 1) (tabOf (progOf es) wh k) e.x e.d.ps.length e.io e.d.ps
  | 0, e, he => by
    obtain ⟨⟨f, fd, F, h1, h2, h3⟩, S, le⟩ := hes e he
    exact ⟨⟨f, fd, fn_none F S, h1, h2, h3⟩, fun ds h => absurd rfl h⟩
  | k + 1, e, he => by
    obtain ⟨⟨f, fd, F, h1, h2, h3⟩, S, le⟩ := hes e he
    have hx : (tabOf (progOf es) wh (k + 1)).fn e.x = fnRes e.d.ps.length e.io e.d.N.length e.g (tabOf (progOf es) wh k) := by
      funext ds
      show (match (progOf es).lookup e.x with | some i => fnRes i.n i.io i.tot i.body (tabOf (progOf es) wh k) ds | none => .bad) = _
      rw [lookup_prog he nd]
    have B := hb (k + 1) (tabOf (progOf es) wh k) (levels hes nd hb k) e he
    refine ⟨⟨f, fd, ?_, h1, h2, h3⟩, fun ds h => ?_⟩
    · rw [hx]
      exact fn_body F S le B
    · rw [hx] at h
      exact fnRes_len ds h

def spLaw (K : PySem.W.Frag) (n : Nat) : Sp := fun vs H Q _ => ∃ (a : Addr) (ns : List Int), vs = [.ref a] ∧ ns.length ≤ n ∧ SqL K H a (ns.map V.int) ∧ ∀ H', Q (.bl true) H'
theorem law_body {P : Program} {w : World} {K : PySem.W.Frag} {mg : Str → Option Value} {base : Heap} {k : Nat} {T : Tab} {x : Str} {d : DefT} {g : Sx} {f : Addr} {fd : FuncData} {n : Nat} (F : FunD K x x (defArgs d.st) (defBody d.st) (defScope d.st) [] [] f fd) (S : FnScope d.N d.ps (defScope d.st)) (hp : d.ps.length = 1) (hle : 1 ≤ d.N.length)
    (h : BodyAt P w K mg base k T x d g) (pure_ : ∀ ns : List Int, ns.length ≤ n → ∃ e, g T (.scr ns :: List.replicate (d.N.length - 1) .un) = .ret (.bool true) e) : FnG P w K mg base (L2.CX P w) (k + 1) f fd d.ps (spLaw K n) := by
  refine fnG_body F S (fun vs H Q E q => ?_) fun cdv A outer s H vs Q E hr q => ⟨_, h f cdv A outer s H E hr, ?_⟩
  · obtain ⟨a, ns, rfl, _⟩ := q
    exact hp.symm
  · obtain ⟨a, ns, rfl, hn, hs, hq⟩ := q
    obtain ⟨e, he⟩ := pure_ ns hn
    refine ⟨⟨K, fun _ => none, fun _ => False⟩, SV.scr ns :: List.replicate (d.N.length - 1) SV.un, fun _ => False, rfl, ⟨?_, fun i sv hi => ?_, fun i j b bi bj di dj _ ei _ _ _ => ?_, fun a m => m.elim, fun a f => f.elim, fun a f => f.elim⟩, ?_⟩
    · unfold L2.start
      simp
    · cases i with
      | zero =>
        cases hi
        refine ⟨some (.ref a), rfl, a, rfl, ?_⟩
        rcases hs with h | h
        · exact .inl ⟨h, fun z => z.elim id id⟩
        · exact .inr h
      | succ i =>
        have hi : (List.replicate (d.N.length - 1) SV.un)[i]? = some sv := hi
        rw [List.getElem?_replicate] at hi
        split at hi
        · rename_i hl
          cases hi
          refine ⟨none, ?_, trivial⟩
          unfold L2.start
          show (([] : List V).map some ++ List.replicate (d.N.length - 1) none)[i]? = _
          rw [List.map_nil, List.nil_append, List.getElem?_replicate, if_pos hl]
        · cases hi
    · have m := List.mem_of_getElem? ei
      rcases List.mem_cons.mp m with m | m
      · cases m
      · cases (List.mem_replicate.mp m).2
    · rw [he]
      intro v σ' M' H' r s f
      cases f
      exact hq H'

abbrev AlP : Type := Bool × He.AlD
def obsP (pr : PySem.W.Frag → Bool) (fa : List He.Fa) (fn : List He.DefD) (K : PySem.W.Frag) : AlP := (pr K, He.obsD fa fn K)
def obsPG (n : Nat) (pr : PySem.W.Frag → Bool) (fa : List He.Fa) (fn : List He.DefD) (g : Addr → Option Obj) : AlP := obsP pr fa fn (He.frG g (He.asD g n))
def hookP (n : Nat) (pr : PySem.W.Frag → Bool) (fa : List He.Fa) (fn : List He.DefD) : PySem.W.Hook where
  α := AlP
  obs := fun s => obsPG n pr fa fn s.heap.get?
  val := fun _ => (true, He.valD fn)
  says := fun _ h => ∃ K : PySem.W.Frag, K.In h ∧ pr K = true ∧ He.SaysD fa fn K
  of := fun _ _ e => ⟨_, He.frG_in, congrArg (fun z : AlP => z.1) e, congrArg (fun z : AlP => z.2) e⟩
  keeps := fun _ _ _ ⟨K, hK, c⟩ k => ⟨K, PySem.W.Frag.In.keeps hK k, c⟩
theorem obsPG_eq {n : Nat} {pr : PySem.W.Frag → Bool} {fa : List He.Fa} {fn : List He.DefD} {g : Addr → Option Obj} {s : Shared} (h : ∀ a, g a = s.heap.get? a) : obsPG n pr fa fn g = (hookP n pr fa fn).obs s := by
  have e : g = s.heap.get? := funext h
  rw [e]
  rfl
def excB (K : PySem.W.Frag) (c : Str) : Bool :=
  PySem.W.excIn K (He.ga K c) He.veBase "ValueError.__new__" && (PySem.W.keepIn K (.ref (He.ga K c)) && (decide (PySem.W.subIn K (.ref (He.ga K c)) (.type "BaseException") = some true) && (decide (PySem.W.typeIn K (.ref (He.ga K c)) = some (.type "type")) &&
  (He.eqO (PySem.W.findIn K (.ref (He.ga K c)) "__getattribute__") (some (some (.builtin "BaseException.__getattribute__"))) && (He.eqO (PySem.W.findIn K (.ref (He.ga K c)) "__getattr__") (some none) && (PySem.W.hasDictIn K (He.ga K c) &&
  (He.eqO (PySem.W.findIn K (.ref (He.ga K c)) "__class__") (some (some (.builtin "object.__class__"))) && (He.eqO (PySem.W.specialIn K (.builtin "object.__class__") "__get__") (some (some (.builtin "getset_descriptor.__get__"))) && (decide (PySem.W.takesIn K (.builtin "object.__class__") = some true) &&
  (decide (PySem.W.mroIn K (He.ga K c) (.type "object") = some true) && decide (PySem.W.kitOne K (.ref (He.ga K c)) (.type "ValueError") = some true)))))))))))
def errsB (known : List Str) (isub : Str → Str → Bool) (K : PySem.W.Frag) : Bool := (known.all fun c => excB K c) && known.all fun c => known.all fun x => decide (PySem.W.exmOne K (.ref (He.ga K c)) (.ref (He.ga K x)) = some (isub c x))
/-- one class, to be raised -/
structure ExcR (K : PySem.W.Frag) (c : Str) : Prop where
  ex : PySem.W.excIn K (He.ga K c) He.veBase "ValueError.__new__" = true
  kp : PySem.W.keepIn K (.ref (He.ga K c)) = true
  sb : PySem.W.subIn K (.ref (He.ga K c)) (.type "BaseException") = some true
  ty : PySem.W.typeIn K (.ref (He.ga K c)) = some (.type "type")
theorem excB_ok {K : PySem.W.Frag} {c : Str} (h : excB K c = true) : ExcR K c ∧ ExcC K (He.ga K c) ∧ PySem.W.kitOne K (.ref (He.ga K c)) (.type "ValueError") = some true := by
  unfold excB at h
  simp only [Bool.and_eq_true] at h
  obtain ⟨h1, h2, h3, h4, h5, h6, h7, h8, h9, h10, h11, h12⟩ := h
  exact ⟨⟨h1, h2, of_decide_eq_true h3, of_decide_eq_true h4⟩, ⟨He.eqO_ok h5, He.eqO_ok h6, of_decide_eq_true h3, h7, He.eqO_ok h8, He.eqO_ok h9, of_decide_eq_true h10, of_decide_eq_true h11⟩, of_decide_eq_true h12⟩
theorem errsB_ok {known : List Str} {isub : Str → Str → Bool} {K : PySem.W.Frag} (h : errsB known isub K = true) : Errs K known isub ∧ ∀ c ∈ known, ExcR K c := by
  unfold errsB at h
  rw [Bool.and_eq_true] at h
  obtain ⟨h1, h2⟩ := h
  have a := List.all_eq_true.mp h1
  have b := List.all_eq_true.mp h2
  exact ⟨⟨fun c hc => (excB_ok (a c hc)).2.1, fun c hc => (excB_ok (a c hc)).2.2, fun c hc x hx => of_decide_eq_true (List.all_eq_true.mp (b c hc) x hx)⟩, fun c hc => (excB_ok (a c hc)).1⟩
theorem pd_raiseE {X : Cx} {K : PySem.W.Frag} {wx : WX} {T : Tab} {x m : Str} {j : Nat} {p p2 pos pos2 : Pos} (hK : X.K = K) (hc : X.calm = true) (tk : Takes X wx) (R : ExcR K x) (gC : X.mg x = some (.ref (He.ga K x))) (hg : Gl X x) (hdb : (x == ("__debug__" : Str)) = false) : PS X (.Raise (some (.Call (.Name x p) [.Constant (.str m) j p2] [] pos)) none pos2) (rdS K wx T (dRaise x)) := by
  subst hK
  exact pd_raise rfl hc tk PySem.F.excBase_ValueError R.ex gC R.kp (raises_own R.sb R.ty) hg hdb
end Pv
end
section
set_option Elab.async false
set_option linter.all false
set_option maxRecDepth 100000
set_option maxHeartbeats 4000000
set_option autoImplicit false
namespace Pv
open PySem PySem.Spec PyProof.Rows L2
section
variable {X : Cx} {K : PySem.W.Frag} {wx : WX} {T : Tab}
def dRepF (f g : Ex) : Fx := fun T env => (f T env).bind fun w e => (g T e).bind fun u e => match deref e w, deref e u with
  | some (.list a), some (.int k) => if k < 1000000 ∧ -1000000 < k ∧ a.length * k.toNat ≤ LINE then .ok (List.replicate k.toNat a).flatten e else .bad
  | _, _ => .bad
def dCatF (f g : Ex) : Fx := fun T env => (f T env).bind fun w e => (g T e).bind fun u e => match deref e w, deref e u with
  | some (.list a), some (.list b) => if a.length + b.length ≤ LINE then .ok (a ++ b) e else .bad
  | _, _ => .bad
end
def fAddI : PyData → PyData → Option PyData
  | .int a, .int b => some (.int (a + b))
  | _, _ => none
theorem addID : OpD (rI0 fun i j => .int (i + j)) fAddI := by
  intro O H v1 v2 d1 d2 d Q fr b1 b2 e q
  unfold fAddI at e
  split at e
  · cases e
    exact ⟨_, _, b1.int, b2.int, q _ H (Ext.refl H) (.int _)⟩
  · cases e
theorem bt_len : bootBuiltins "len" = some (.builtin "len") := by decide +kernel
theorem bt_int : bootBuiltins "int" = some (.type "int") := by decide +kernel
theorem bt_str : bootBuiltins "str" = some (.type "str") := by decide +kernel
theorem bt_bool : bootBuiltins "bool" = some (.type "bool") := by decide +kernel
theorem bt_tuple : bootBuiltins "tuple" = some (.type "tuple") := by decide +kernel
theorem bt_list : bootBuiltins "list" = some (.type "list") := by decide +kernel
theorem bt_sorted : bootBuiltins "sorted" = some (.builtin "sorted") := by decide +kernel
theorem bt_repr : bootBuiltins "repr" = some (.builtin "repr") := by decide +kernel
theorem rm64 {k : Nat} {A : Around} (r : RoomG k A) : A.units + 64 < cLine := r.rm.units
theorem rm65 {k : Nat} {A : Around} (r : RoomG k A) : A.units + 65 < cLine := by have := r.rm.un; omega
def CXE : CXT := fun outer H s E u s' => ∃ P w, L2.CX P w outer H s E u s'
theorem fn_any {P : Program} {w : World} {K : PySem.W.Frag} {mg : Str → Option Value} {base : Heap} {k : Nat} {f : Addr} {fd : FuncData} {ps : List Str} {sp : Sp} (F : FnG P w K mg base (L2.CX P w) k f fd ps sp) : FnG P w K mg base CXE k f fd ps sp :=
  ⟨F.few, fun hr he hb hv hs => codeAny_mono (F.go hr he hb hv hs) fun r s' h => by
    cases r with
    | error e => exact ⟨P, w, h⟩
    | ok fl => cases fl <;> exact h⟩
theorem cxe_none {outer : List PySem.Env} {H : Hp} {s s' : Shared} {u : Value} (z : CXE outer H s (fun _ _ _ => False) u s') : False := by
  obtain ⟨_, _, _, _, _, _, _, _, _, _, _, _, _, _, q⟩ := z
  exact q
end Pv
end
section
set_option Elab.async false
set_option linter.all false
set_option maxRecDepth 100000
set_option maxHeartbeats 4000000
set_option autoImplicit false
namespace Pv
open PySem PySem.Spec PyProof.Rows L2
section
variable {P : Program} {w : World} {K : PySem.W.Frag} {mg mb : Str → Option Value} {Z : CXT} {k : Nat} {fa a : Addr} {fd : FuncData} {x : Str} {sp : Sp} {s : Shared} {us : List Value} {ns : List Int}
/-- from one heap of tracked things: nothing but the script may be tracked -/
theorem top_from {H : Hp} (inK : K.In s.heap) (g1 : s.heap.Ns mainGlobals mg) (g2 : s.heap.Ns builtinsNs mb) (g3 : ∀ y : Str, y ≠ "__name__" → mb y = bootBuiltins y) (g4 : s.heap.NoLimit) (g5 : s.gens = #[])
    (atA : s.heap.get? a = some { cls := .type "list", data := .seq us.toArray }) (room : RoomG k callerA)
    (F : ∀ base : Heap, K.In base → base.Ns mainGlobals mg → FnG P w K mg base Z k fa fd [x] sp) (bi : ∀ (s' : Shared) (u : Value), BindsTo s' fd ⟨[u], []⟩ [(x, u)])
    (h : sp [.ref a] H (fun v _ => v = .bl true) fun _ _ _ => False) (out : ∀ e s', Z [] H s (fun _ _ _ => False) e s' → False)
    (only : Only H) (hok : HOk P w H s.heap) (sole : ∀ b, H b ≠ none → b = a) (notK : H a ≠ none → K.lookup a = none) :
    codeAny (model P w) callerA (.call (.ref fa) ⟨[.ref a], []⟩) (fun r s' => r = .ok (.ret (.bool true)) ∧ OldK s.heap s'.heap ∧ s'.os = s.os ∧ AllBare s'.gens) s := by
  have hid : ∀ {b : Addr} {o : Obj}, s.heap.get? b = some o → H b = none → (hidT s.heap H).get? b = some o := fun z n => hidT_get z n
  have free : ∀ {b : Addr} {o : Obj} {es : Array DictEntry} {ep : Nat}, s.heap.get? b = some o → o.data = .dict es ep → H b = none := by
    intro b o es ep z d
    by_cases n : H b = none
    · exact n
    · have e := sole b n
      subst e
      rw [atA] at z
      cases z
      have d : Data.seq us.toArray _ = Data.dict es ep := d
      cases d
  have names : ∀ {b : Addr} {m : Str → Option Value}, s.heap.Ns b m → (hidT s.heap H).Ns b m := by
    rintro b m ⟨o, es, ep, z, d, r⟩
    exact ⟨o, es, ep, hid z (free z d), d, r⟩
  have inB : K.In (hidT s.heap H) := by
    intro b o z
    refine hid (inK b o z) ?_
    by_cases n : H b = none
    · exact n
    · have e := sole b n
      subst e
      rw [notK n] at z
      cases z
  have md : Mod K mg (hidT s.heap H) := by
    obtain ⟨mc, l1, l2⟩ := g4
    exact ⟨inB, names g1, ⟨mb, names g2, g3⟩, mc, names l1, l2⟩
  have en : Env0 P w K mg (hidT s.heap H) callerA [] s H := ⟨rfl, md, fun b o z => of_hidT z, Nat.le_of_eq (hidT_size _ _), trivial, (fun b z => by cases z), hok, .of_eq g5⟩
  refine codeAny_mono ((F _ inB (names g1)).go (us := [.ref a]) (ys := [.ref a]) room en (bi s (.ref a)) (.cons rfl .nil) h) fun r s' q => ?_
  match r, q with
  | .error e, q => exact (out e s' q).elim
  | .ok .next, q => exact q.elim
  | .ok .brk, q => exact q.elim
  | .ok .cont, q => exact q.elim
  | .ok (.ret u), q =>
    obtain ⟨v, G, os, bare, un, hok2, rel, isT⟩ := q
    have isT : v = .bl true := isT
    subst isT
    have isU : u = Value.bool true := rel
    subst isU
    refine ⟨rfl, OldK.of_keep fun b o z => ?_, os, bare⟩
    by_cases n : H b = none
    · exact un.keep b o z n (fun m => absurd (show b ∈ ([] : List Addr) from m) (by simp)) (by simp)
    · rcases only b with m | ⟨ob, zs, m⟩
      · exact absurd m n
      · obtain ⟨one, _⟩ := hok b _ m
        obtain ⟨two, _⟩ := hok2 b _ (un.frzs b ob _ m)
        exact two.trans (one.symm.trans z)
/-- the law, called with the script -/
theorem top_call (inK : K.In s.heap) (g1 : s.heap.Ns mainGlobals mg) (g2 : s.heap.Ns builtinsNs mb) (g3 : ∀ y : Str, y ≠ "__name__" → mb y = bootBuiltins y) (g4 : s.heap.NoLimit) (g5 : s.gens = #[])
    (atA : s.heap.get? a = some { cls := .type "list", data := .seq us.toArray }) (numb : IntsAre us ns) (few : ns.length ≤ sizeLine) (room : RoomG k callerA)
    (F : ∀ base : Heap, K.In base → base.Ns mainGlobals mg → FnG P w K mg base Z k fa fd [x] sp) (bi : ∀ (s' : Shared) (u : Value), BindsTo s' fd ⟨[u], []⟩ [(x, u)])
    (h : ∀ H : Hp, Only H → SqL K H a (ns.map V.int) → sp [.ref a] H (fun v _ => v = .bl true) fun _ _ _ => False) (out : ∀ H e s', Z [] H s (fun _ _ _ => False) e s' → False) :
    codeAny (model P w) callerA (.call (.ref fa) ⟨[.ref a], []⟩) (fun r s' => r = .ok (.ret (.bool true)) ∧ OldK s.heap s'.heap ∧ s'.os = s.os ∧ AllBare s'.gens) s := by
  have rv := vals_ints numb
  have lv := numb.length
  by_cases n : K.lookup a = none
  · obtain ⟨H, hH⟩ : ∃ H : Hp, H = fun b => if b = a then some (.frz { cls := .type "list", data := .seq us.toArray } (.lst (ns.map V.int))) else none := ⟨_, rfl⟩
    have atH : H a = some (.frz { cls := .type "list", data := .seq us.toArray } (.lst (ns.map V.int))) := by
      rw [hH]
      exact if_pos rfl
    have offH : ∀ b, b ≠ a → H b = none := fun b ne => by
      rw [hH]
      exact if_neg ne
    have only : Only H := fun b => by
      by_cases e : b = a
      · subst e
        exact .inr ⟨_, _, atH⟩
      · exact .inl (offH b e)
    refine top_from (H := H) inK g1 g2 g3 g4 g5 atA room F bi (h H only (.inl (.inr ⟨_, atH⟩))) (fun e s' => out H e s') only (fun b u z => ?_) (fun b z => ?_) fun _ => n
    · by_cases e : b = a
      · subst e
        rw [atH] at z
        cases z
        exact ⟨atA, by rw [List.length_map]; exact few, us, _, rv, atA⟩
      · rw [offH b e] at z
        cases z
    · exact Decidable.byContradiction fun e => z (offH b e)
  · obtain ⟨o, hk⟩ := Option.ne_none_iff_exists'.mp n
    have z := inK a o hk
    rw [atA] at z
    cases z
    have only : Only (fun _ => none) := fun _ => .inl rfl
    exact top_from (H := fun _ => none) inK g1 g2 g3 g4 g5 atA room F bi (h _ only (.inr ⟨_, us.toArray, _, hk, rfl, rfl, rfl, by rw [List.size_toArray, lv]; exact few, by simpa using rv⟩)) (fun e s' => out _ e s') only (fun b u z => by cases (show (none : Option HO) = some u from z)) (fun b z => absurd rfl z) fun z => absurd rfl z
end
theorem top_walk {l : PySem.W.OpenLaw} {n k : Nat} {q : Program} {loose : List Str} {XP : (Str → Option Value) → Heap → Prop} {YP : World → Heap → Prop} {d : DefRec} {Z : CXT} {x : Str} (hn : l.most = some n) (hn2 : n ≤ sizeLine) (hdf : d.params.defaults = []) (hr : RoomG k callerA)
    (F : ∀ (w : World) (mg : Str → Option Value) (fa : Addr) (h : Heap), YP w h → h.Ns mainGlobals mg → mg d.name = some (.ref fa) →
      ∃ (K : PySem.W.Frag) (fd : FuncData) (sp : Sp), K.In h ∧ (∀ (s : Shared) (u : Value), BindsTo s fd ⟨[u], []⟩ [(x, u)]) ∧
        (∀ (H : Hp) (a : Addr) (ns : List Int), ns.length ≤ n → Only H → SqL K H a (ns.map V.int) → sp [.ref a] H (fun v _ => v = .bl true) fun _ _ _ => False) ∧
        ∀ base : Heap, K.In base → base.Ns mainGlobals mg → FnG l.prog w K mg base Z k fa fd [x] sp)
    (out : ∀ (H : Hp) (s : Shared) (e : Value) (s' : Shared), Z [] H s (fun _ _ _ => False) e s' → False) :
    PySem.W.WalkO q loose XP YP l.row.toRowW d [] (fun f vs => PySem.call f vs) :=
  Att.attach_call hn hdf fun w s0 s1 mg mb fa o pm cd doc a us ns G Y ho hd hcd hmg hobj hints few hg => by
    obtain ⟨K, fd, sp, inK, bi, h, FF⟩ := F w mg fa _ Y G.T.g hmg
    exact top_call inK G.T.g G.T.b G.T.builtins G.T.nolimit hg hobj hints (Nat.le_trans few hn2) hr FF bi (fun H only sq => h H a ns few only sq) fun H e s' => out H s1 e s'
end Pv
end
section
set_option Elab.async false
set_option linter.all false
set_option maxRecDepth 100000
set_option maxHeartbeats 4000000
set_option autoImplicit false
namespace Pv
open PySem PySem.Spec PyProof.Rows L2
/-- can be shown: no dict in it, not too long -/
def reprB (ds : List PyData) : Bool := okD (.tuple ds) && ((PyData.tuple ds).showable && (!(PyData.tuple ds).hasDict && decide ((PyData.tuple ds).shown.length ≤ LINE ∧ (PyData.tuple ds).depth ≤ 60)))
def fRepr : List PyData → Option PyData
  | [.tuple ds] => if reprB ds = true then some (.str (PyData.tuple ds).shown) else none
  | _ => none
def rRepr (K : PySem.W.Frag) : List V → Hp → VK → Prop := fun xs H Q => ∃ (a : Addr) (d : PyData), xs = [V.ref a] ∧ Dp K H (V.ref a) d ∧ d.showable = true ∧ d.hasDict = false ∧ d.shown.length ≤ sizeLine ∧ d.depth ≤ 60 ∧ Q (.str d.shown) H
theorem cr_repr {X : Cx} {k : Nat} (hr : RoomG k X.A) : CallR X (.builtin "repr") (rRepr X.K) := by
  intro pins s σ H xs us Q I r h
  obtain ⟨a, d, rfl, dd, h1, h2, h3, h4, q⟩ := h
  obtain ⟨u, rfl, ru⟩ := vals1 r
  cases ru
  obtain ⟨as, rd⟩ := Dp.reads I d (.ref a) (.ref a) dd rfl
  exact PySem.repr_of_reads' rd h1 (PyData.noDict_hsm h2) hr.gd (by have := rm64 hr; omega) (fun _ _ e => e) (fun h' u tk hk => ⟨.str d.shown, H, I.kept hk, ⟨u, rfl⟩, q⟩) h3
theorem reprD (K : PySem.W.Frag) : CallD (rRepr K) fRepr := by
  intro O H vs ds d Q fr b e q
  unfold fRepr at e
  split at e
  · rename_i ts
    split at e
    · rename_i hz
      cases e
      obtain ⟨v, rfl, b1⟩ := b.one
      unfold reprB at hz
      rw [Bool.and_eq_true, Bool.and_eq_true, Bool.and_eq_true, decide_eq_true_eq, Bool.not_eq_true'] at hz
      obtain ⟨z1, z2, z3, z4, z5⟩ := hz
      have dp : Dp K H v (.tuple ts) := b1.toDpS z1
      obtain ⟨a, xs, rfl, _⟩ := b1.tuple
      exact ⟨a, _, rfl, dp, z2, z3, le_line z4, z5, q _ H (Ext.refl H) (.str _)⟩
    · cases e
  · cases e
/-- texts beside one another -/
def fEqS : PyData → PyData → Option PyData
  | .str a, .str b => some (.bool (a == b))
  | _, _ => none
theorem BR.str' {O : Addr → Prop} {H : Hp} {v : V} {x : Str} (h : BR O H v (.str x)) : v = .str x := by
  cases h with
  | fr q => cases q; rfl
theorem eqSD : OpD rEq fEqS := by
  intro O H v1 v2 d1 d2 d Q fr b1 b2 e q
  unfold fEqS at e
  split at e
  · cases e
    rw [BR.str' b1, BR.str' b2]
    refine ⟨rfl, ?_⟩
    rw [dec_str]
    exact q _ H (Ext.refl H) (.bl _)
  · cases e
end Pv
end
section
set_option Elab.async false
set_option linter.all false
set_option maxRecDepth 100000
set_option maxHeartbeats 4000000
set_option autoImplicit false
namespace Pv
open PySem PySem.Spec PyProof.Rows L2

/-- a list in no slot, held while something else is evaluated -/
def Cc.hold (C : Cc) (p : Addr) : Cc := { C with Fg := fun a => C.Fg a ∨ a = p }
theorem FR.less {O O' : Addr → Prop} {H : Hp} {v : V} {d : PyData} (h : ∀ a, O' a → O a) (r : FR O H v d) : FR O' H v d := FR.mono (fun a o e n => ⟨e, fun z => n (h a z)⟩) d v r
theorem FRs.less {O O' : Addr → Prop} {H : Hp} {v : List V} {d : List PyData} (h : ∀ a, O' a → O a) (r : FRs O H v d) : FRs O' H v d := FRs.mono (fun a o e n => ⟨e, fun z => n (h a z)⟩) d v r
theorem SVR.conv {C C' : Cc} {M M' : Addr → Prop} {H : Hp} {i : Nat} {s : Option V} {sv : SV} (hK : C'.K = C.K) (hio : C'.ios = C.ios) (hO : ∀ a, C'.O M' a → C.O M a) (r : SVR C M H i s sv) (ho : ∀ io d a, sv = .own io d → s = some (.ref a) → M a → M' a) : SVR C' M' H i s sv := by
  cases sv with
  | un => trivial
  | val d => obtain ⟨v, h1, h2⟩ := r; exact ⟨v, h1, h2.less hO⟩
  | own io d =>
    obtain ⟨v, h1, h2, h3⟩ := r
    cases h2 with
    | lst ha m rr => exact ⟨_, h1, .lst ha (ho io _ _ rfl h1 m) (rr.less hO), by rw [hio]; exact h3⟩
  | scr ns =>
    obtain ⟨a, h1, h2⟩ := r
    refine ⟨a, h1, ?_⟩
    rw [hK]
    rcases h2 with ⟨h, n⟩ | h
    · exact .inl ⟨h, fun z => n (hO a z)⟩
    · exact .inr h
theorem Rep.drop {C : Cc} {M : Addr → Prop} {H : Hp} {σ : L2.St} {env : Env} {p : Addr} (r : Rep (C.hold p) M H σ env) : Rep C M H σ env where
  len := r.len
  at_ := fun i sv h => by
    obtain ⟨s, h1, h2⟩ := r.at_ i sv h
    exact ⟨s, h1, SVR.conv (C := C.hold p) (C' := C) (M := M) (M' := M) rfl rfl (fun a z => Or.elim z Or.inl fun f => Or.inr (Or.inl f)) h2 fun _ _ _ _ _ m => m⟩
  sep := r.sep
  live := r.live
  fg := fun a f => r.fg a (.inl f)
  apart := fun a f m => r.apart a (.inl f) m
/-- what is given to a slot: a new list, or a value -/
inductive Kx where
  | fresh (f : Fx)
  | val (g : Ex)
def Kx.run : Kx → Tab → Env → R SV
  | .fresh f => fun T env => (f T env).bind fun ds e => .ok (.own false (.list ds)) e
  | .val g => fun T env => (g T env).bind fun w e => match takeW e w with
    | some (d, e') => .ok (.val d) e'
    | none => .bad
section
variable {X : Cx} {K : PySem.W.Frag} {wx : WX} {T : Tab}
/-- a, b = what gives new lists or values, with plain local names -/
def dParX (i j : Nat) (a b : Kx) : Sx := fun T env => (a.run T env).thenS fun sa e1 => (b.run T e1).thenS fun sb e2 => .nx ((e2.set i sa).set j sb)
end
end Pv
end
section
set_option Elab.async false
set_option linter.all false
set_option maxRecDepth 100000
set_option maxHeartbeats 4000000
set_option autoImplicit false
namespace Pv
open PySem PySem.Spec PySem.Calls PyProof.Rows L2
section
variable {prog : Program} {w : World} {A : Around} {E : Value → Shared → Prop} {s : Shared}
end
/-- what can be sorted: few, or alike -/
def plainK : PyData → Bool
  | .none => false
  | .tuple _ => false
  | _ => true
def tupK : PyData → Bool
  | .tuple (_ :: _) => true
  | _ => false
def sortB (ds : List PyData) : Bool := okD (.list ds) && (decide (ds.length ≤ LINE ∧ (PyData.list ds).depth ≤ 60) && (decide (ds.length < 2) || ((ds.all fun d => ds.all fun e => PySem.W.alike d e) && (ds.all tupK || ds.all plainK))))
def srt (ds : List PyData) : List PyData := ds.mergeSort (PySem.W.dataLe false id)
/-- the new list -/
def fSorted : PyData → Option (List PyData)
  | .list ds => if sortB ds = true then some (srt ds) else none
  | .tuple ds => if sortB ds = true then some (srt ds) else none
  | _ => none
def dSorted (f : Ex) : Fx := fun T env => (f T env).bind fun w e => match (deref e w).bind fSorted with
  | some ds => .ok ds e
  | none => .bad
theorem FRs.each {O : Addr → Prop} {H : Hp} : ∀ {ys : List V} {ds : List PyData}, FRs O H ys ds → ∀ p ∈ ys.zip ds, FR O H p.1 p.2
  | _, _, .nil, _, h => by cases h
  | _, _, .cons a t, p, h => by
    rw [List.zip_cons_cons] at h
    rcases List.mem_cons.mp h with rfl | h
    · exact a
    · exact FRs.each t p h
section
variable {X : Cx} {K : PySem.W.Frag} {wx : WX} {T : Tab}
end
end Pv
end
section
set_option Elab.async false
set_option linter.all false
set_option maxRecDepth 100000
set_option maxHeartbeats 1000000
set_option autoImplicit false
namespace Pv
open PySem PySem.Spec PySem.Calls PyProof.Rows L2

section
variable {X : Cx} {K : PySem.W.Frag} {wx : WX} {T : Tab}
end
def rowsD : List PyData → Option (List (List Int))
  | [] => some []
  | .tuple xs :: r => (intsOf xs).bind fun ns => (rowsD r).map fun l => ns :: l
  | _ :: _ => none
def uniq : List (List Int) → List (List Int)
  | [] => []
  | r :: rs => if r ∈ rs then uniq rs else r :: uniq rs
def fLenSetT : PyData → Option PyData
  | .list ds => (rowsD ds).bind fun l => if l.length < 64 then some (.int (uniq l).length) else none
  | _ => none
def dLenSetT (f : Ex) : Ex := fun T env => (f T env).bind fun w e => match (deref e w).bind fLenSetT with
  | some d => .ok (.d d) e
  | none => .bad
section
variable {X : Cx} {K : PySem.W.Frag} {wx : WX} {T : Tab}
end
end Pv
end
section
set_option Elab.async false
set_option linter.all false
set_option maxRecDepth 100000
set_option maxHeartbeats 1000000
set_option autoImplicit false
namespace Pv
open PySem PySem.Spec PySem.Calls PyProof.Rows L2
/-- the first place of an equal item -/
def findD (d : PyData) : List PyData → Option Nat
  | [] => none
  | z :: r => if PyData.eqv z d = true then some 0 else (findD d r).map (· + 1)
def fIndex : PyData → PyData → Option PyData
  | .list ds, d => if okD (.list ds) = true ∧ okD d = true then (match findD d ds with | some j => some (.int (j : Int)) | none => none) else none
  | _, _ => none
def isLs : Option PyData → Bool
  | some (.list _) => true
  | _ => false
def dIndex (fo : Ex) (g : Ax) : Ex := fun T env => (fo T env).bind fun w e => if isLs (deref e w) = true then (g T e).bind fun ws e2 => match deref e2 w, derefs e2 ws with
  | some a, some [d] => (match fIndex a d with
    | some r => .ok (.d r) e2
    | none => .bad)
  | _, _ => .bad
  else .bad
section
variable {X : Cx} {K : PySem.W.Frag} {wx : WX} {T : Tab}
end
end Pv
end
section
set_option Elab.async false
set_option linter.all false
set_option maxRecDepth 100000
set_option maxHeartbeats 4000000
set_option autoImplicit false
namespace Pv
open PySem PySem.Spec PyProof.Rows L2
def getL (kvs : List (Int × Int)) (i j : Int) : Int := ((kvs.find? fun kv => decide (kv.1 = i)).map (·.2)).getD j
def dGetLit (kvs : List (Int × Int)) (f g : Ex) : Ex := fun T env => (f T env).bind fun w1 e1 => (g T e1).bind fun w2 e2 => match w1, w2 with
  | .d (.int i), .d (.int j) => .ok (.d (.int (getL kvs i j))) e2
  | _, _ => .bad
section
variable {X : Cx} {K : PySem.W.Frag} {wx : WX} {T : Tab}
end
theorem FRs.at_ {O : Addr → Prop} {H : Hp} : ∀ {ys : List V} {ds : List PyData}, FRs O H ys ds → ∀ (i : Nat) (v : V) (d : PyData), ys[i]? = some v → ds[i]? = some d → FR O H v d
  | _, _, .nil, _, _, _, h, _ => by simp at h
  | _, _, .cons a _, 0, v, d, h1, h2 => by
    simp at h1 h2
    subst h1 h2
    exact a
  | _, _, .cons _ t, i + 1, v, d, h1, h2 => FRs.at_ t i v d (by simpa using h1) (by simpa using h2)
end Pv
end
section
set_option Elab.async false
set_option linter.all false
set_option maxRecDepth 100000
set_option maxHeartbeats 4000000
set_option autoImplicit false
namespace Pv
open PySem PySem.Spec PySem.Calls PyProof.Rows L2
section
variable {prog : Program} {w : World} {A : Around} {E : Value → Shared → Prop} {s : Shared}
end
def enumD (ds : List PyData) : List PyData := ds.zipIdx.map fun p => .tuple [.int (p.2 : Int), p.1]
/-- enumerate(x) of a list or tuple of data -/
def dEnum (g : Ax) : Ix := fun T env => (g T env).bind fun ws e => match takes e ws with
  | some ([.list ds], e') => (match ws with
    | [.d _] => .ok (enumD ds) e'
    | _ => .bad)
  | some ([.tuple ds], e') => .ok (enumD ds) e'
  | _ => .bad
section
variable {X : Cx} {K : PySem.W.Frag} {wx : WX} {T : Tab}
end
end Pv
end
section
set_option Elab.async false
set_option linter.all false
set_option maxRecDepth 100000
set_option maxHeartbeats 4000000
set_option autoImplicit false
namespace Pv
open PySem PySem.Spec PyProof.Rows L2
section
variable {X : Cx} {K : PySem.W.Frag} {wx : WX} {T : Tab}
end
end Pv
end
section
set_option Elab.async false
set_option linter.all false
set_option maxRecDepth 100000
set_option maxHeartbeats 4000000
set_option autoImplicit false
namespace Pv
open PySem PySem.Spec PyProof.Rows L2
end Pv
end
section
set_option Elab.async false
set_option linter.all false
set_option maxRecDepth 100000
set_option maxHeartbeats 4000000
set_option autoImplicit false
namespace Pv
open PySem PySem.Spec PyProof.Rows L2
section
variable {X : Cx} {K : PySem.W.Frag} {wx : WX} {T : Tab}
theorem pd_gint {x : Str} {i : Int} {pos : Pos} (h : ∃ t, X.mg x = some (.int i t)) (hg : Gl X x) (hd : (x == ("__debug__" : Str)) = false) : PE X (.Name x pos) (rdE K wx T (dLit (.int i))) := by
  obtain ⟨t, ht⟩ := h
  exact pd_const (pe_glob (v := .int i) hg ht ⟨t, rfl⟩ hd) fun _ _ => .int _
end
end Pv
end
section
set_option Elab.async false
set_option linter.all false
set_option maxRecDepth 100000
set_option maxHeartbeats 4000000
set_option autoImplicit false
namespace Pv
open PySem PySem.Spec PyProof.Rows L2
def strsOf : List PyData → Option (List Str)
  | [] => some []
  | .str a :: r => (strsOf r).map (a :: ·)
  | _ :: _ => none
def joinB (a : Str) (ys : List Str) : Bool := decide ((ys.map (·.length)).sum + ys.length * a.length ≤ 16777216)
def fJoin (a : Str) : PyData → Option PyData
  | .list ds => (strsOf ds).bind fun ys => if joinB a ys = true then some (.str (Txt.join a ys)) else none
  | .tuple ds => (strsOf ds).bind fun ys => if joinB a ys = true then some (.str (Txt.join a ys)) else none
  | _ => none
def dJoin (fo f : Ex) : Ex := fun T env => (fo T env).bind fun w e => match deref e w with
  | some (.str a) => (f T e).bind fun w2 e2 => (match (deref e2 w2).bind (fJoin a) with
    | some r => .ok (.d r) e2
    | none => .bad)
  | _ => .bad
def splitB (a b : Str) : Bool := !(b.length == 0) && decide (a.length + 2 ≤ LINE)
def dSplit (fo f : Ex) : Fx := fun T env => (fo T env).bind fun w e => match deref e w with
  | some (.str a) => (f T e).bind fun w2 e2 => (match deref e2 w2 with
    | some (.str b) => if splitB a b = true then .ok ((Txt.split a b).map PyData.str) e2 else .bad
    | _ => .bad)
  | _ => .bad
section
variable {X : Cx} {K : PySem.W.Frag} {wx : WX} {T : Tab}
end
end Pv
end
section
set_option Elab.async false
set_option linter.all false
set_option maxRecDepth 100000
set_option maxHeartbeats 4000000
set_option autoImplicit false
namespace Pv
open PySem PySem.Spec PyProof.Rows L2
end Pv
end
section
set_option Elab.async false
set_option linter.all false
set_option maxRecDepth 100000
set_option maxHeartbeats 4000000
set_option autoImplicit false
namespace Pv
open PySem PySem.Spec PyProof.Rows L2
end Pv
end
section
set_option Elab.async false
set_option linter.all false
set_option maxRecDepth 100000
set_option maxHeartbeats 4000000
set_option autoImplicit false
namespace Pv
open PySem PySem.Spec PyProof.Rows L2
def zipD (ds es : List PyData) : List PyData := (ds.zip es).map fun p => .tuple [p.1, p.2]
/-- zip(x, y) of two tuples of data -/
def dZip (g : Ax) : Ix := fun T env => (g T env).bind fun ws e => match takes e ws with
  | some ([.tuple ds, .tuple es], e') => .ok (zipD ds es) e'
  | _ => .bad
section
variable {X : Cx} {K : PySem.W.Frag} {wx : WX} {T : Tab}
end
end Pv
end
section
set_option Elab.async false
set_option linter.all false
set_option maxRecDepth 100000
set_option maxHeartbeats 4000000
set_option autoImplicit false
namespace Pv
open PySem PySem.Spec PyProof.Rows L2
section
variable {X : Cx} {K : PySem.W.Frag} {wx : WX} {T : Tab}
end
end Pv
end
section
set_option Elab.async false
set_option linter.all false
set_option maxRecDepth 100000
set_option maxHeartbeats 4000000
set_option autoImplicit false
namespace SR
open PySem PySem.Spec PyProof.Rows
section
variable {prog : Program} {w : World} {A : Around} {E : Value → Shared → Prop} {s : Shared}
set_option maxHeartbeats 3200000 in
/-- set(t), t a list of whole numbers -/
theorem setLstI {l : Addr} {its : Array Value} {ns : List Int} {Q : Value → Shared → Prop}
    (hh : A.handled = none) (hl : s.heap.IsList l its) (hi : PyProof.Rows.IntsAre its.toList ns) (hb : ns.length + 1 < scanBound)
    (h : ∀ (h' : Heap) (tk c : Nat), L2.SetR w h' s.heap.objs.size (fun j => decide (j ∈ ns)) c → c ≤ ns.length → (∀ b o, s.heap.get? b = some o → h'.get? b = some o) → Q (.ref s.heap.objs.size) { s with heap := h', toks := tk }) :
    wpAny (model prog w) A (call (.type "set") [.ref l]) Q E s := by
  have hisz : its.size = ns.length := by
    have q := IntsAre.length hi
    rw [Array.length_toList] at q
    exact q
  obtain ⟨cc, tl, hmr⟩ := PySem.F.called_set.mro
  have qmade := PySem.F.called_set.made
  have qsub := PySem.F.called_set.sub
  refine wpAny_call (codeAny_of_tree ?_)
  show wpAny _ _ (callAny (.type "set") _) _ _ _
  refine wpAny_pure ⟨Code.quiet_builtin _ (by decide +kernel), codeAny_builtin PySem.F.entry_type_call (?_)⟩
  rw [Around.under_plain (weight_type_call_type "set" [.ref l] []) rfl]
  have q1 := PySem.F.called_set.notType
  have q2 := PySem.F.called_set.canCreate
  have q3 := PySem.F.typeCall_set_1 (.ref l)
  repeat (any_goals (first | assumption | wp_step))
  let S0 : Obj := { cls := .type "set", dict := none, data := .set #[] 0 (.fresh 0 0 (!w.params.followText "set-order")) }
  refine codeAny_mono (L2.code_set_led1 (.ref l) (E := E) (Q₁ := fun ob s₁ => ob = .ref s.heap.objs.size ∧ s₁ = { s with heap := s.heap.push S0 }) ⟨rfl, rfl⟩) fun r s₁ hr => ?_
  cases r with
  | error e => exact hr
  | ok fl =>
    cases fl with
    | ret ob =>
      obtain ⟨rfl, rfl⟩ := hr
      have hS : (s.heap.push S0).get? s.heap.objs.size = some S0 := Heap.get?_push_size _ rfl
      have hT : Shared.TypeIs { s with heap := s.heap.push S0 } (.ref s.heap.objs.size) "set" := ⟨_, hS, rfl⟩
      have qli := PySem.F.called_set.init.lookup
      have qbi := PySem.F.called_set.init.bind (.ref s.heap.objs.size)
      repeat (any_goals (first | assumption | wp_step))
      refine codeAny_mono (codeAny_call_builtin (R := wants (fun r s₂ => r = .none ∧ ∃ h' tk c, s₂ = { s with heap := h', toks := tk } ∧ L2.SetR w h' s.heap.objs.size (fun j => decide (j ∈ ns)) c ∧ c ≤ ns.length ∧
          (∀ b o, s.heap.get? b = some o → h'.get? b = some o)) E) PySem.F.called_set.init.plain PySem.F.entry_set_init (check_set_init_1 hT (?_))) fun r₂ s₂ hr₂ => ?_
      · obtain ⟨ol, hol, hcl, nl, hdl⟩ := hl
        obtain ⟨ocls, odict, odata, oslots⟩ := ol
        simp only at hcl hdl
        subst hcl; subst hdl
        have hol' : (s.heap.push S0).get? l = some { cls := .type "list", dict := odict, data := .seq its nl, slots := oslots } := Heap.get?_push_of_some _ hol
        have z1 := PySem.F.sub_list_set
        have z2 := PySem.F.sub_list_frozenset
        have z3 : (Value.type "list" == Value.type "dict") = false := by decide
        have hl1 : (s.heap.push S0).IsList l its := ⟨_, hol', rfl, nl, rfl⟩
        unfold Builtin.«set.__init__» noKeywords Builtin.Frozenset.updateFrom
        generalize hPI : pyIter = PI
        wp_walk
        subst hPI
        refine wpAny_pyIter_list hl1 ?_
        refine wpAny_bind (wpAny_runValue ?_)
        have hlS : l < s.heap.objs.size := Heap.lt_size hol
        have hh3 : A.in1.in1.in1.handled = none := by simp [hh]
        have hneI : l ≠ (s.heap.push S0).objs.size := by
          rw [Heap.size_push]; exact Nat.ne_of_lt (Nat.lt_succ_of_lt hlS)
        have hSf : s.heap.objs.size ∉ [(s.heap.push S0).objs.size, l] := by
          rw [Heap.size_push]
          simp only [List.mem_cons, List.mem_singleton, List.not_mem_nil, or_false, not_or]
          exact ⟨Nat.ne_of_lt (Nat.lt_succ_self _), Nat.ne_of_gt hlS⟩
        have hval : ∀ (i : Nat) (v : Value), its[i]? = some v → ∃ k t, ns[i]? = some k ∧ v = .int k t := fun i v hv => by
          have lt : i < ns.length := by rw [← hisz]; exact (Array.getElem?_eq_some_iff.mp hv).1
          obtain ⟨t, e⟩ := PyProof.Rows.IntsAre.int_at hi i v (by rw [Array.getElem?_toList]; exact hv)
          exact ⟨ns[i], t, List.getElem?_eq_getElem lt, by rw [e, List.getD_eq_getElem?_getD, List.getElem?_eq_getElem lt] <;> rfl⟩
        refine L2.set_update_ints ((Walks.list hh3 _ l hneI its).toS) s.heap.objs.size
          hSf ns hisz hb hval (its.size - 0) 0 _ (by omega) (Nat.zero_le _)
          ⟨⟨_, Heap.get?_push_size _ rfl, rfl, rfl⟩, (hl1.push _)⟩ ?hS0 ?hR
        case hS0 =>
          have hget : ((s.heap.push S0).push { cls := .type "list_iterator", data := .fields #[.ref l, .int 0 0] }).get? s.heap.objs.size = some S0 := Heap.get?_push_of_some _ hS
          exact ⟨0, Nat.le_refl 0, L2.setR_new_at hget⟩
        case hR =>
          intro s' c' hm hc' hS'
          obtain ⟨h', g', d', tk', os'⟩ := s'
          have e1 : g' = s.gens := hm.gens
          have e2 : d' = s.drawn := hm.drawn
          have e3 : os' = s.os := hm.os
          subst e1; subst e2; subst e3
          show wpAny _ _ _ _ _ _
          refine wpAny_pure ?_
          show wpAny _ _ (ret Value.none) _ _ _
          rw [hisz] at hc'
          refine wpAny_pure ⟨rfl, h', tk', c', rfl, hS', hc', fun b o e => ?_⟩
          have hb := Heap.lt_size e
          have n1 : b ≠ s.heap.objs.size := Nat.ne_of_lt hb
          have n2 : b ≠ (s.heap.push S0).objs.size := by
            rw [Heap.size_push]; exact Nat.ne_of_lt (Nat.lt_succ_of_lt hb)
          refine hm.heap b o ?_ (Heap.get?_push_of_some _ (Heap.get?_push_of_some _ e))
          simp only [List.mem_cons, List.mem_singleton, List.not_mem_nil, or_false, not_or]
          exact ⟨n1, n2⟩
      · cases r₂ with
        | error e => exact hr₂
        | ok fl₂ =>
          cases fl₂ with
          | ret r =>
            obtain ⟨rfl, h', tk, c, rfl, hS', hc', hk'⟩ := hr₂
            repeat (any_goals (first | assumption | wp_step))
            exact h _ _ _ hS' hc' hk'
          | _ => exact hr₂.elim
    | _ => exact hr.elim
end
end SR
namespace Pv
open PySem PySem.Spec PyProof.Rows L2
/-- the different ones, rising -/
def upSet (ns : List Int) : List Int := (distinct ns).mergeSort fun a b => decide (a ≤ b)
theorem fold_mem : ∀ (l acc : List Int) (x : Int), x ∈ l.foldl step_dedup acc ↔ x ∈ acc ∨ x ∈ l
  | [], acc, x => by simp
  | a :: l, acc, x => by
    rw [List.foldl_cons, fold_mem l, List.mem_cons]
    unfold step_dedup
    split
    · rename_i h
      obtain ⟨b, hb, e⟩ := List.any_eq_true.mp h
      have e : b = a := by simpa using e
      subst e
      constructor
      · rintro (z | z)
        · exact .inl z
        · exact .inr (.inr z)
      · rintro (z | rfl | z)
        · exact .inl z
        · exact .inl hb
        · exact .inr z
    · rw [List.mem_append, List.mem_singleton, or_assoc]
theorem fold_nodup : ∀ (l acc : List Int), acc.Nodup → (l.foldl step_dedup acc).Nodup
  | [], acc, h => h
  | a :: l, acc, h => by
    rw [List.foldl_cons]
    refine fold_nodup l _ ?_
    unfold step_dedup
    split
    · exact h
    · rename_i z
      refine List.nodup_append.mpr ⟨h, by simp, fun x hx y hy e => ?_⟩
      rw [List.mem_singleton] at hy
      subst hy
      subst e
      exact z (List.any_eq_true.mpr ⟨x, hx, by simp⟩)
theorem distinct_fold0 (ns : List Int) : distinct ns = ns.foldl step_dedup [] := by
  unfold distinct firstMet
  congr 1
  apply List.ext_getElem
  · simp
  · intro i h1 h2
    simp [h2]
theorem upSet_mem {ns : List Int} {x : Int} : x ∈ upSet ns ↔ x ∈ ns := by
  unfold upSet
  rw [(List.mergeSort_perm _ _).mem_iff, distinct_fold0, fold_mem]
  simp
theorem upSet_up (ns : List Int) : (upSet ns).Pairwise (· < ·) := by
  have h1 : (upSet ns).Pairwise (· ≤ ·) := (List.pairwise_mergeSort (le := fun a b : Int => decide (a ≤ b)) (fun a b c h1 h2 => by
    rw [decide_eq_true_eq] at *
    omega) (fun a b => by
    rw [Bool.or_eq_true, decide_eq_true_eq, decide_eq_true_eq]
    omega) (distinct ns)).imp fun h => of_decide_eq_true h
  have h2 : (upSet ns).Nodup := by
    unfold upSet
    rw [(List.mergeSort_perm _ _).nodup_iff, distinct_fold0]
    exact fold_nodup ns [] List.nodup_nil
  exact lt_of_le_nodup _ h1 h2
theorem up_unique : ∀ {l m : List Int}, l.Pairwise (· < ·) → m.Pairwise (· < ·) → (∀ x, x ∈ l ↔ x ∈ m) → l = m
  | [], [], _, _, _ => rfl
  | [], b :: m, _, _, h => by cases (h b).mpr List.mem_cons_self
  | a :: l, [], _, _, h => by cases (h a).mp List.mem_cons_self
  | a :: l, b :: m, hl, hm, h => by
    obtain ⟨l1, l2⟩ := List.pairwise_cons.mp hl
    obtain ⟨m1, m2⟩ := List.pairwise_cons.mp hm
    have e : a = b := by
      rcases List.mem_cons.mp ((h a).mp List.mem_cons_self) with e | e
      · exact e
      · rcases List.mem_cons.mp ((h b).mpr List.mem_cons_self) with e2 | e2
        · exact e2.symm
        · have := l1 b e2
          have := m1 a e
          omega
    subst e
    congr 1
    refine up_unique l2 m2 fun x => ?_
    constructor
    · intro hx
      rcases List.mem_cons.mp ((h x).mp (List.mem_cons_of_mem _ hx)) with e | e
      · subst e
        have := l1 x hx
        omega
      · exact e
    · intro hx
      rcases List.mem_cons.mp ((h x).mpr (List.mem_cons_of_mem _ hx)) with e | e
      · subst e
        have := m1 x hx
        omega
      · exact e
def tUpSet (K : PySem.W.Frag) (ta : TE) : TE := fun σ H Q => ta σ H fun x H1 => ∃ (l : Addr) (ns : List Int), x = .ref l ∧ (SqL K H1 l (ns.map V.int) ∨ SqT K H1 l (ns.map V.int)) ∧ ns.length < 64 ∧ ∀ p, H1 p = none → Q (.ref p) (upd H1 p (.lst ((upSet ns).map V.int)))
theorem pe_upSet {X : Cx} {a : Expr} {ta : TE} {p p2 q pos : Pos} (hg : Gl X "sorted") (hm : X.mg "sorted" = none) (hg2 : Gl X "set") (hm2 : X.mg "set" = none) (ha : PE X a ta) (hc : X.calm = true)
    (na : starEach [a] X.env = (false, eval a X.env) :: starEach [] X.env) : PE X (.Call (.Name "sorted" p) [.Call (.Name "set" p2) [a] [] q] [] pos) (tUpSet X.K ta) := by
  refine ⟨fun pins s σ H Q I h => ?_⟩
  refine Call_ (ld_blt I hg hm bt_sorted (?_))
  refine PyProof.Rows.callWith_builtin1 (PyProof.Rows.args_cons (?_) rfl) rfl rfl
  refine Call_ (ld_blt I hg2 hm2 boot_set (?_))
  refine PyProof.Rows.callWith_type1 (PyProof.Rows.args_cons (thn (ha.run pins s σ H _ I h) fun v s1 ⟨x, H1, I1, rx, q1⟩ => PyProof.Rows.args_nil ?_) na) na rfl
  obtain ⟨l, ns, rfl, hq, hz, q1⟩ := q1
  cases rx
  have hb : ns.length + 1 < scanBound := by
    unfold scanBound
    omega
  have fin2 : ∀ (s2 : Shared) (a : Addr) (c : Nat), Inv X pins σ H1 s2 → SetR X.w s2.heap a (fun j => decide (j ∈ ns)) c → c ≤ ns.length → wpAny (model X.prog X.w) X.A (call (.builtin "sorted") [Value.ref a]) (EP X pins σ Q) X.xe s2 := fun s2 a c I2 R hle => by
    refine sorted_set R (I2.ok.hd hc) (by omega) fun s' p out c2 ms k g o hp hg2 hi hs hm3 hl => ?_
    have em : ms = upSet ns := up_unique hs (upSet_up ns) fun x => by rw [hm3 x, decide_eq_true_eq, upSet_mem]
    subst em
    have hlen : ((upSet ns).map V.int).length ≤ sizeLine := by rw [List.length_map, hl, sizeLine_eq]; omega
    have hn : H1 p = none := I2.hok.fresh hp
    have J : Inv X pins σ (upd H1 p (.lst ((upSet ns).map V.int))) { s2 with heap := s'.heap, gens := s'.gens, drawn := s'.drawn, toks := s'.toks } :=
      I2.call (ch := []) (Un.laid k hp hn) (I2.hok.laid k hp ⟨hlen, out.toList, c2, vals_of_ints hi, hg2⟩) (by rw [g]; exact I2.bare) (fun _ z => nomatch z)
    have e : s' = { s2 with heap := s'.heap, gens := s'.gens, drawn := s'.drawn, toks := s'.toks } := by
      cases s'
      cases s2
      cases o
      rfl
    rw [e]
    exact ⟨.ref p, _, J, rfl, q1 p hn⟩
  have fin : ∀ (h' : Heap) (tk c : Nat), SetR X.w h' s1.heap.objs.size (fun j => decide (j ∈ ns)) c → c ≤ ns.length → (∀ b o, s1.heap.get? b = some o → h'.get? b = some o) →
      wpAny (model X.prog X.w) X.A (spliced (backTo pos (starEach [] X.env))) (fun vs s₂ => wpAny (model X.prog X.w) X.A (call (.builtin "sorted") (Value.ref s1.heap.objs.size :: vs)) (EP X pins σ Q) X.xe s₂) X.xe { s1 with heap := h', toks := tk } := fun h' tk c R hle hk =>
    PyProof.Rows.args_nil (fin2 { s1 with heap := h', toks := tk } _ c (I1.kept hk) R hle)
  rcases hq with hq | hq
  · obtain ⟨its, r, pl, _⟩ := I1.list hq
    exact SR.setLstI (I1.ok.hd hc) pl.isList (by simpa using RZ.intsAre_vals r) hb fin
  · obtain ⟨its, r, pl, _⟩ := I1.tuple hq
    exact call_set_tupI ns (I1.ok.hd hc) pl (by simpa using RZ.intsAre_vals r) hb fin
def fUpSet : PyData → Option (List PyData)
  | .list ds => (intsOf ds).bind fun ns => if ns.length < 64 then some ((upSet ns).map .int) else none
  | .tuple ds => (intsOf ds).bind fun ns => if ns.length < 64 then some ((upSet ns).map .int) else none
  | _ => none
def dUpSet (f : Ex) : Fx := fun T env => (f T env).bind fun w e => match (deref e w).bind fUpSet with
  | some ds => .ok ds e
  | none => .bad
theorem frs_int {O : Addr → Prop} {H : Hp} : ∀ l : List Int, FRs O H (l.map V.int) (l.map PyData.int)
  | [] => .nil
  | a :: l => .cons (.int a) (frs_int l)
section
variable {X : Cx} {K : PySem.W.Frag} {wx : WX} {T : Tab}
theorem pd_upSet {a : Expr} {f : Ex} {p p2 q pos : Pos} (hK : X.K = K) (hg : Gl X "sorted") (hm : X.mg "sorted" = none) (hg2 : Gl X "set") (hm2 : X.mg "set" = none) (ha : PE X a (rdE K wx T f)) (hc : X.calm = true)
    (na : starEach [a] X.env = (false, eval a X.env) :: starEach [] X.env) : PE X (.Call (.Name "sorted" p) [.Call (.Name "set" p2) [a] [] q] [] pos) (rdF K wx T (dUpSet f)) := by
  subst hK
  refine peImp (pe_upSet hg hm hg2 hm2 ha hc na) fun σ H Q h => ?_
  obtain ⟨C, env, M, hK, rp, p⟩ := h
  refine rd_bind hK rp p fun w env1 v M1 H1 r1 s1 q1 p1 => ?_
  split at p1
  · rename_i ds e
    obtain ⟨d0, e0, e1⟩ := Option.bind_eq_some_iff.mp e
    have b := deref_br r1 q1 e0
    unfold fUpSet at e1
    split at e1
    · obtain ⟨ns, e2, e3⟩ := Option.bind_eq_some_iff.mp e1
      split at e3
      · rename_i hz
        cases e3
        obtain ⟨a, xs, rfl, h, r⟩ := b.list
        have ex := r.ints_of e2
        subst ex
        exact ⟨a, ns, rfl, .inl (SqL.of h), hz, new_rd r1 (frs_int _) p1⟩
      · cases e3
    · obtain ⟨ns, e2, e3⟩ := Option.bind_eq_some_iff.mp e1
      split at e3
      · rename_i hz
        cases e3
        obtain ⟨a, xs, rfl, h, n, r⟩ := b.tuple
        have ex := r.ints_of e2
        subst ex
        exact ⟨a, ns, rfl, .inr (SqT.of h), hz, new_rd r1 (frs_int _) p1⟩
      · cases e3
    · cases e1
  · exact p1.elim
end
end Pv
end
section
set_option Elab.async false
set_option linter.all false
set_option maxRecDepth 100000
set_option maxHeartbeats 4000000
set_option autoImplicit false
namespace HT
open PySem PySem.Spec PyProof.Rows
/-- which places -/
def stepIx (n : Nat) (i j k : Int) : List Nat := (List.range (Builtin.Slice.slicePlaces (min i n) (min j n) k)).map fun m : Nat => (min i n + (m : Int) * k).toNat
section
variable {prog : Program} {w : World} {A : Around} {E : Value → Shared → Prop} {s : Shared}
theorem stApplied {sl : Addr} {i j k : Int} {ti tj tk : Tok} {n : Nat} {Q : Int × Int × Nat → Shared → Prop} (hs : s.heap.IsSliceOf sl (.int i ti) (.int j tj) (.int k tk)) (hi : 0 ≤ i) (hj : 0 ≤ j) (hk : 0 < k)
    (h : Q (min i n, k, Builtin.Slice.slicePlaces (min i n) (min j n) k) s) : wpAny (model prog w) A (Builtin.Slice.sliceApplied (.ref sl) (pure (n : Int))) Q E s := by
  obtain ⟨ob, hob, hcb, hdb⟩ := id hs
  unfold Builtin.Slice.sliceApplied Builtin.Slice.sliceFields
  refine wpAny_bind (wpAny_bind (wpAny_field hob hdb (x := .int i ti) rfl (wpAny_bind (wpAny_field hob hdb (x := .int j tj) rfl (wpAny_bind (wpAny_field hob hdb (x := .int k tk) rfl (wpAny_pure ?_)))))))
  refine wpAny_bind (slicePart_int ?_)
  show wpAny _ _ (if (k == 0) = true then _ else _) _ _ s
  rw [if_neg (by simpa using Int.ne_of_gt hk)]
  refine wpAny_bind (slicePart_int (wpAny_bind (slicePart_int (wpAny_bind (wpAny_pure ?_)))))
  have e : Builtin.Slice.sliceAdjust (some i) (some j) k n = (min i n, min j n) := by
    unfold Builtin.Slice.sliceAdjust
    have a : ¬ k < 0 := by omega
    have b : ¬ i < 0 := by omega
    have c : ¬ j < 0 := by omega
    simp only [a, b, c, if_false]
  show wpAny _ _ (pure ((Builtin.Slice.sliceAdjust (some i) (some j) k n).1, k, Builtin.Slice.slicePlaces (Builtin.Slice.sliceAdjust (some i) (some j) k n).1 (Builtin.Slice.sliceAdjust (some i) (some j) k n).2 k)) _ _ s
  rw [e]
  exact wpAny_pure h
theorem stTuple {t sl : Addr} {items : Array Value} {i j k : Int} {ti tj tk : Tok} {Q : Value → Shared → Prop} (ht : IsTup s.heap t items) (hs : s.heap.IsSliceOf sl (.int i ti) (.int j tj) (.int k tk)) (hi : 0 ≤ i) (hj : 0 ≤ j) (hk : 0 < k)
    (h0 : (stepIx items.size i j k).filterMap (items[·]?) = items.toList → Q (.ref t) s)
    (h : Q (.ref s.heap.objs.size) { s with heap := s.heap.push { cls := .type "tuple", data := .seq ((stepIx items.size i j k).filterMap (items[·]?)).toArray } }) (hsz : ((stepIx items.size i j k).filterMap (items[·]?)).length ≤ sizeLine) : wpAny (model prog w) A (getItem (.ref t) (.ref sl)) Q E s := by
  have szOk : sizeOk (.seq ((stepIx items.size i j k).filterMap (items[·]?)).toArray) := by
    show ((stepIx items.size i j k).filterMap (items[·]?)).toArray.size ≤ sizeLine
    rw [List.size_toArray]
    exact hsz
  obtain ⟨ob, hob, hcb, hdb⟩ := id hs
  have hTb : s.TypeIs (.ref sl) "slice" := ⟨ob, hob, hcb⟩
  unfold getItem
  try with_reducible refine wpAny_holding ?_
  first | refine wpAny_bind (wpAny_pure ?_) | skip
  refine wpAny_bind (wpAny_sequenceKey (ht.typeIs) (by decide) ?_)
  refine wpAny_bind (wpAny_callSpecial?_slot (name := Str.ofString "__getitem__") (ht.typeIs) PyProof.Rows.slot_tuple_getitem
    (wpAny_call_entry PyProof.Rows.slot_tuple_getitem (ht.typeIs) entry_tuple_getitem ?_ (args_tuple_getitem _ _)))
  show wpAny _ _ (Builtin.Tuple.tupleItemsOf (.ref t) >>= _) _ _ s
  refine wpAny_bind (tupleItemsOf_ ht (?_))
  refine wpAny_bind (wpAny_typeOf hTb ?_)
  rw [if_pos (by decide)]
  refine wpAny_bind (stApplied (n := items.size) hs hi hj hk ?_)
  have pk : ((List.range (Builtin.Slice.slicePlaces (min i items.size) (min j items.size) k)).filterMap fun (m : Nat) => items[(min i (items.size : Int) + (m : Int) * k).toNat]?) = (stepIx items.size i j k).filterMap (items[·]?) := by
    unfold stepIx
    rw [List.filterMap_map]
    rfl
  by_cases full : ((min i (items.size : Int) == 0 && k == 1 && Builtin.Slice.slicePlaces (min i items.size) (min j items.size) k == items.size) = true)
  · show wpAny _ _ (if (min i (items.size : Int) == 0 && k == 1 && Builtin.Slice.slicePlaces (min i items.size) (min j items.size) k == items.size) = true then _ else _) _ _ s
    rw [if_pos full]
    rw [Bool.and_eq_true, Bool.and_eq_true, beq_iff_eq, beq_iff_eq, beq_iff_eq] at full
    obtain ⟨⟨f1, f2⟩, f3⟩ := full
    have e : (stepIx items.size i j k).filterMap (items[·]?) = items.toList := by
      unfold stepIx
      rw [f3, f1, f2]
      have : (List.range items.size).map (fun m : Nat => ((0 : Int) + (m : Int) * 1).toNat) = List.range items.size := by
        refine (List.map_congr_left fun m _ => ?_).trans (List.map_id _)
        show ((0 : Int) + (m : Int) * 1).toNat = m
        omega
      rw [this]
      exact PySem.W.krv_all items
    unfold Builtin.Tuple.tupleIsExact
    refine wpAny_bind (wpAny_bind (wpAny_typeOf ht.typeIs (wpAny_pure ?_)))
    rw [if_pos (by decide)]
    have q := h0 e
    first
      | exact wpAny_bind (wpAny_pure (wpAny_pure ⟨_, rfl, wpAny_pure q⟩))
      | exact wpAny_bind (wpAny_pure ⟨_, rfl, wpAny_pure q⟩)
      | exact wpAny_pure ⟨_, rfl, wpAny_pure q⟩
      | (wp_walk; first | exact ⟨_, rfl, q⟩ | exact ⟨_, rfl, wpAny_pure q⟩)
  · show wpAny _ _ (if (min i (items.size : Int) == 0 && k == 1 && Builtin.Slice.slicePlaces (min i items.size) (min j items.size) k == items.size) = true then _ else _) _ _ s
    rw [if_neg full, pk]
    first
      | exact wpAny_bind (m := Builtin.Tuple.tupleExact _) (wpAny_newObj_type (wpAny_pure ⟨_, rfl, wpAny_pure h⟩) szOk)
      | exact wpAny_bind (m := Builtin.Tuple.tupleExact _) (wpAny_newObj_type (wpAny_bind (wpAny_pure (wpAny_pure ⟨_, rfl, wpAny_pure h⟩))) szOk)
      | exact wpAny_bind (wpAny_bind (m := Builtin.Tuple.tupleExact _) (wpAny_newObj_type (wpAny_pure (wpAny_pure ⟨_, rfl, wpAny_pure h⟩)) szOk))
      | exact wpAny_bind (wpAny_bind (m := Builtin.Tuple.tupleExact _) (wpAny_newObj_type (wpAny_pure ⟨_, rfl, wpAny_pure h⟩) szOk))
end
end HT
namespace Pv
open PySem PySem.Spec PyProof.Rows L2
def pickL {α : Type} (l : List Nat) (xs : List α) : List α := l.filterMap (xs[·]?)
theorem vals_pick {xs : List V} {us : List Value} (r : Vals xs us) : ∀ l : List Nat, Vals (pickL l xs) (pickL l us)
  | [] => .nil
  | m :: l => by
    have ih := vals_pick r l
    unfold pickL at ih ⊢
    rw [List.filterMap_cons, List.filterMap_cons]
    cases q : xs[m]? with
    | none =>
      have : us[m]? = none := by
        rw [List.getElem?_eq_none_iff] at q ⊢
        rw [← r.length]
        exact q
      rw [this]
      exact ih
    | some x =>
      obtain ⟨u, hu, ru⟩ := r.get q
      rw [hu]
      exact .cons ru ih
theorem frs_pick {O : Addr → Prop} {H : Hp} {vs : List V} {ds : List PyData} (f : FRs O H vs ds) : ∀ l : List Nat, FRs O H (pickL l vs) (pickL l ds)
  | [] => .nil
  | m :: l => by
    have ih := frs_pick f l
    unfold pickL at ih ⊢
    rw [List.filterMap_cons, List.filterMap_cons]
    cases q : ds[m]? with
    | none =>
      have : vs[m]? = none := by
        rw [List.getElem?_eq_none_iff] at q ⊢
        rw [f.length]
        exact q
      rw [this]
      exact ih
    | some d =>
      obtain ⟨v, hv, fv⟩ := f.get q
      rw [hv]
      exact .cons fv ih
def stepV {α : Type} (xs : List α) (i j k : Int) : List α := pickL (HT.stepIx xs.length i j k) xs
def tStep (K : PySem.W.Frag) (te : TE) (tl th ts : TO) : TE := fun σ H Q => te σ H fun x H1 => tl σ H1 fun l H2 => th σ H2 fun u H3 => ts σ H3 fun s H4 => ∃ (a : Addr) (xs : List V) (i j k : Int), x = .ref a ∧ l = some i ∧ u = some j ∧ s = some k ∧ SqT K H4 a xs ∧ 0 ≤ i ∧ 0 ≤ j ∧ 0 < k ∧
  (stepV xs i j k).length ≤ sizeLine ∧ (stepV xs i j k = xs → Q (.ref a) H4) ∧ ∀ p, H4 p = none → Q (.ref p) (upd H4 p (.tup (stepV xs i j k)))
section
variable {X : Cx}
theorem pe_step {e : Expr} {te : TE} {lo hi st : Expr} {tl th ts : TO} {p2 pos : Pos} (he : PE X e te) (hl : PO X (some lo) tl) (hu : PO X (some hi) th) (hst : PO X (some st) ts) : PE X (.Subscript e (.Slice (some lo) (some hi) (some st) p2) pos) (tStep X.K te tl th ts) := by
  refine ⟨fun pins s σ H Q I h => ?_⟩
  refine Subscript_ (thn (he.run pins s σ H _ I h) fun v s1 ⟨x, H1, I1, rx, q1⟩ => ?_)
  refine wpAny_Slice (thn (hl.run pins s1 σ H1 _ I1 q1) fun vl s2 ⟨l, H2, I2, pl, q2⟩ => ?_)
  refine thn (hu.run pins s2 σ H2 _ I2 q2) fun vu s3 ⟨u, H3, I3, pu, q3⟩ => ?_
  refine thn (hst.run pins s3 σ H3 _ I3 q3) fun vs s4 ⟨o, H4, I4, ps, q4⟩ => ?_
  obtain ⟨a, xs, i, j, k, rfl, rfl, rfl, rfl, hx, hi0, hj0, hk0, hz, qs, qn⟩ := q4
  have I5 : Inv X pins σ H4 { s4 with heap := s4.heap.push { cls := .type "slice", data := .fields #[vl, vu, vs] } } := I4.kept (t' := s4.toks) fun b ob q => Heap.get?_push_of_some _ q
  obtain ⟨nl, rfl, el⟩ := IsPart.raw pl
  obtain ⟨nu, rfl, eu⟩ := IsPart.raw pu
  obtain ⟨ns, rfl, es⟩ := IsPart.raw ps
  cases nl with
  | none => cases el
  | some nl =>
  cases nu with
  | none => cases eu
  | some nu =>
  cases ns with
  | none => cases es
  | some ns =>
  obtain ⟨vi, ki⟩ := nl
  obtain ⟨vj, kj⟩ := nu
  obtain ⟨vk, kk⟩ := ns
  cases el
  cases eu
  cases es
  show wpAny (model X.prog X.w) X.A (subscriptTail e (.Slice (some lo) (some hi) (some st) p2) v (.ref s4.heap.objs.size)) (EP X pins σ Q) X.xe { s4 with heap := s4.heap.push { cls := .type "slice", data := .fields #[.int vi ki, .int vj kj, .int vk kk] } }
  cases rx
  obtain ⟨its, r, ht, _⟩ := I5.tuple hx
  have hlen := r.length
  have sz : its.toArray.size = xs.length := by rw [List.size_toArray, ← hlen]
  have pe : (HT.stepIx its.toArray.size vi vj vk).filterMap (its.toArray[·]?) = pickL (HT.stepIx xs.length vi vj vk) its := by
    rw [sz]
    unfold pickL
    simp
  have vp := vals_pick r (HT.stepIx xs.length vi vj vk)
  refine tail_any (ops := [.ref a, .ref s4.heap.objs.size]) ht.typeIs PyProof.Rows.slot_tuple_getitem.lookup ?_ (by with_unfolding_all rfl)
  refine HT.stTuple ht (Heap.IsSliceOf.new _ (.int vi ki) (.int vj kj) (.int vk kk)) hi0 hj0 hk0 (fun z => ?_) ?_ ?_
  · have z : pickL (HT.stepIx xs.length vi vj vk) its = its := by
      rw [← pe, z]
    rw [z] at vp
    have e2 : stepV xs vi vj vk = xs := vp.inj r
    exact ⟨.ref a, H4, I5, rfl, qs e2⟩
  · rw [pe]
    refine ⟨.ref _, _, I5.laid (t' := s4.toks) (o := .tup (stepV xs vi vj vk)) (fun b ob q => Heap.get?_push_of_some _ q) (Nat.le_refl _) ⟨hz, _, vp, IsTup.new _ _⟩, rfl, qn _ (I5.hok.fresh (Nat.le_refl _))⟩
  · rw [pe]
    have e3 := vp.length
    have hz : (pickL (HT.stepIx xs.length vi vj vk) xs).length ≤ sizeLine := hz
    first
      | (rw [e3] at hz; exact hz)
      | (rw [← e3] at hz; exact hz)
end
def fStep : PyData → Option Int → Option Int → Option Int → Option PyData
  | .tuple ds, some i, some j, some k => if (0 ≤ i ∧ 0 ≤ j ∧ 0 < k) ∧ (stepV ds i j k).length ≤ LINE then some (.tuple (stepV ds i j k)) else none
  | _, _, _, _ => none
def dSlS (f : Ex) (lo hi st : Px) : Ex := fun T env => (f T env).bind fun w e => (lo T e).bind fun l e1 => (hi T e1).bind fun u e2 => (st T e2).bind fun k e3 => match (deref e3 w).bind fun d => fStep d l u k with
  | some d => .ok (.d d) e3
  | none => .bad
section
variable {X : Cx} {K : PySem.W.Frag} {wx : WX} {T : Tab}
theorem pd_slS {a lo hi st : Expr} {f : Ex} {l u k : Px} {p2 pos : Pos} (hK : X.K = K) (ha : PE X a (rdE K wx T f)) (hl : PO X (some lo) (rdP K wx T l)) (hu : PO X (some hi) (rdP K wx T u)) (hs : PO X (some st) (rdP K wx T k)) :
    PE X (.Subscript a (.Slice (some lo) (some hi) (some st) p2) pos) (rdE K wx T (dSlS f l u k)) := by
  subst hK
  refine peImp (pe_step ha hl hu hs) fun σ H Q h => ?_
  obtain ⟨C, env, M, hK, rp, p⟩ := h
  refine rd_bind hK rp p fun w env1 v M1 H1 r1 s1 q1 p1 => ?_
  refine rd_bind hK r1 p1 fun lo env2 lo' M2 H2 r2 s2 q2 p2 => ?_
  have q2 : lo = lo' := q2
  subst q2
  refine rd_bind hK r2 p2 fun hi env3 hi' M3 H3 r3 s3 q3 p3 => ?_
  have q3 : hi = hi' := q3
  subst q3
  refine rd_bind hK r3 p3 fun st env4 st' M4 H4 r4 s4 q4 p4 => ?_
  have q4 : st = st' := q4
  subst q4
  split at p4
  · rename_i d e
    obtain ⟨d0, e0, e1⟩ := Option.bind_eq_some_iff.mp e
    have b := deref_br r4 (((q1.step (env' := env2) s2).step (env' := env3) s3).step (env' := env4) s4) e0
    unfold fStep at e1
    split at e1
    · rename_i ds i j k
      split at e1
      · rename_i hz
        cases e1
        obtain ⟨a, xs, rfl, h, n, r⟩ := b.tuple
        have fl := r.length
        have fp := frs_pick r (HT.stepIx xs.length i j k)
        have ev : pickL (HT.stepIx xs.length i j k) ds = stepV ds i j k := by
          unfold stepV
          rw [fl]
        rw [ev] at fp
        refine ⟨a, xs, i, j, k, rfl, rfl, rfl, rfl, SqT.of h, hz.1.1, hz.1.2.1, hz.1.2.2, le_line (by show (pickL (HT.stepIx xs.length i j k) xs).length ≤ LINE; rw [fp.length]; exact hz.2), fun z => ?_, fun p nn => p4 _ M4 _ (r4.ext (Ext.upd nn)) (Step.ext (Ext.upd nn)) (.tup upd_same (r4.fresh nn) (fp.ext (Ext.upd nn)))⟩
        have fp2 : FRs (C.O M4) H4 xs (stepV ds i j k) := by
          have z : pickL (HT.stepIx xs.length i j k) xs = xs := z
          rw [z] at fp
          exact fp
        exact p4 _ M4 _ r4 (Step.refl _ _) (.tup h n fp2)
      · cases e1
    · cases e1
  · exact p4.elim
end
end Pv
end
section
set_option Elab.async false
set_option linter.all false
set_option maxRecDepth 100000
set_option maxHeartbeats 4000000
set_option autoImplicit false
namespace Pv
open PySem PySem.Spec PyProof.Rows L2
/-- Q behind a value, X at an error -/
def wE {α : Type} (r : R α) (Q : α → Env → Prop) (X : Str → Prop) : Prop := match r with
  | .ok a e => Q a e
  | .exc c _ => X c
  | .bad => False
/-- behind a statement: N next, V returned, X an error, B break, C continue -/
def wS (r : Fl) (N : Env → Prop) (V : PyData → Env → Prop) (X : Str → Prop) (B C : Env → Prop) : Prop := match r with
  | .nx e => N e
  | .ret d e => V d e
  | .exc c _ => X c
  | .bk e => B e
  | .ct e => C e
  | .bad => False
def wF (r : FnRes) (Q : PyData → List PyData → Prop) (X : Str → Prop) : Prop := match r with
  | .ok d io => Q d io
  | .exc c => X c
  | .bad => False
def wO {α : Type} (o : Option α) (Q : α → Prop) : Prop := match o with
  | some a => Q a
  | none => False
def wP {α β : Type} (o : Option (α × β)) (Q : α → β → Prop) : Prop := match o with
  | some p => Q p.1 p.2
  | none => False
def wB (o : Option PyData) (Q : Bool → Prop) : Prop := match o with
  | some (.bool k) => Q k
  | _ => False
/-- what a slot gives -/
def wV (o : Option SV) (i : Nat) (Q : W → Prop) : Prop := match o with
  | some (.val d) => Q (.d d)
  | some (.own _ _) => Q (.sl i)
  | some (.scr _) => Q (.sl i)
  | _ => False
/-- an own slot -/
def wOwn (o : Option SV) (Q : Bool → PyData → Prop) : Prop := match o with
  | some (.own b d) => Q b d
  | _ => False
section
variable {α β : Type} {T : Tab} {env : Env} {X : Str → Prop} {N : Env → Prop} {V : PyData → Env → Prop} {B C : Env → Prop} {Q : W → Env → Prop} {QB : Bool → Env → Prop} {QA : List W → Env → Prop} {QL : List PyData → Env → Prop}
theorem wE_ok {a : α} {e : Env} {Q : α → Env → Prop} : wE (.ok a e) Q X = Q a e := rfl
theorem wE_bind {r : R α} {k : α → Env → R β} {Q : β → Env → Prop} : wE (r.bind k) Q X = wE r (fun a e => wE (k a e) Q X) X := by cases r <;> rfl
theorem wS_then {r : R α} {k : α → Env → Fl} : wS (r.thenS k) N V X B C = wE r (fun a e => wS (k a e) N V X B C) X := by cases r <;> rfl
theorem wE_mono {r : R α} {Q Q' : α → Env → Prop} {X' : Str → Prop} (h : wE r Q X) (k : ∀ a e, Q a e → Q' a e) (k2 : ∀ c, X c → X' c) : wE r Q' X' := by
  cases r with
  | ok a e => exact k a e h
  | exc c e => exact k2 c h
  | bad => exact h
theorem wF_mono {r : FnRes} {Q Q' : PyData → List PyData → Prop} {X' : Str → Prop} (h : wF r Q X) (k : ∀ a e, Q a e → Q' a e) (k2 : ∀ c, X c → X' c) : wF r Q' X' := by
  cases r with
  | ok a e => exact k a e h
  | exc c => exact k2 c h
  | bad => exact h
theorem wE_cases {r r' : R α} {Q Q' : α → Env → Prop} (h : r = r') (k : ∀ a e, Q a e = Q' a e) : wE r Q X = wE r' Q' X := by
  subst h
  cases r with
  | ok a e => exact k a e
  | exc c e => rfl
  | bad => rfl
def lisO : PyData → Option (List PyData)
  | .list ds => some ds
  | _ => none
theorem wE_lit {d : PyData} : wE (dLit d T env) Q X = Q (.d d) env := rfl
theorem wE_var {i : Nat} : wE (dVar i T env) Q X = wV env[i]? i fun w => Q w env := by
  unfold dVar
  cases env[i]? with
  | none => rfl
  | some v => cases v <;> rfl
theorem deref_d {d : PyData} : deref env (.d d) = some d := rfl
theorem derefs_nil : derefs env [] = some [] := rfl
theorem derefs_cons {w : W} {ws : List W} : derefs env (w :: ws) = (deref env w).bind fun d => (derefs env ws).map fun ds => d :: ds := rfl
theorem takeW_d {d : PyData} : takeW env (.d d) = some (d, env) := rfl
theorem takes_nil : takes env [] = some ([], env) := rfl
theorem takes_cons {w : W} {ws : List W} : takes env (w :: ws) = (takeW env w).bind fun p => (takes p.2 ws).map fun q => (p.1 :: q.1, q.2) := rfl
theorem wE_bin {F : PyData → PyData → Option PyData} {f g : Ex} : wE (dBin F f g T env) Q X = wE (f T env) (fun w1 e1 => wE (g T e1) (fun w2 e2 => wO (deref e2 w1) fun a => wO (deref e2 w2) fun b => wO (F a b) fun d => Q (.d d) e2) X) X := by
  unfold dBin
  rw [wE_bind]
  refine wE_cases rfl fun w1 e1 => ?_
  rw [wE_bind]
  refine wE_cases rfl fun w2 e2 => ?_
  cases deref e2 w1 <;> cases deref e2 w2 <;> try rfl
  rename_i a b
  show wE (match F a b with | some d => .ok (.d d) e2 | none => .bad) Q X = wO (F a b) _
  cases F a b <;> rfl
theorem wE_cmp {F : PyData → PyData → Option PyData} {f g : Ex} : wE (dCmp F f g T env) QB X = wE (f T env) (fun w1 e1 => wE (g T e1) (fun w2 e2 => wO (deref e2 w1) fun a => wO (deref e2 w2) fun b => wB (F a b) fun k => QB k e2) X) X := by
  unfold dCmp
  rw [wE_bind]
  refine wE_cases rfl fun w1 e1 => ?_
  rw [wE_bind]
  refine wE_cases rfl fun w2 e2 => ?_
  cases deref e2 w1 <;> cases deref e2 w2 <;> try rfl
  rename_i a b
  show wE (match F a b with | some (.bool k) => .ok k e2 | _ => .bad) QB X = wB (F a b) _
  cases F a b with
  | none => rfl
  | some d => cases d <;> rfl
theorem wE_chain {F F' : PyData → PyData → Option PyData} {f g h : Ex} : wE (dChain F F' f g h T env) QB X = wE (f T env) (fun w1 e1 => wE (g T e1) (fun w2 e2 => wO (deref e2 w1) fun a => wO (deref e2 w2) fun b => wB (F a b) fun k =>
    if k = true then wE (h T e2) (fun w3 e3 => wO (deref e3 w2) fun b' => wO (deref e3 w3) fun c => wB (F' b' c) fun k2 => QB k2 e3) X else QB false e2) X) X := by
  unfold dChain
  rw [wE_bind]
  refine wE_cases rfl fun w1 e1 => ?_
  rw [wE_bind]
  refine wE_cases rfl fun w2 e2 => ?_
  cases deref e2 w1 <;> cases deref e2 w2 <;> try rfl
  rename_i a b
  show wE (match F a b with | some (.bool true) => _ | some (.bool false) => .ok false e2 | _ => .bad) QB X = wB (F a b) _
  cases F a b with
  | none => rfl
  | some d =>
    cases d with
    | bool k =>
      cases k with
      | false => rfl
      | true =>
        show wE (R.bind _ _) QB X = _
        rw [wE_bind]
        show _ = (if true = true then wE (h T e2) _ X else QB false e2)
        rw [if_pos rfl]
        refine wE_cases rfl fun w3 e3 => ?_
        cases deref e3 w2 <;> cases deref e3 w3 <;> try rfl
        rename_i b' c
        show wE (match F' b' c with | some (.bool k) => .ok k e3 | _ => .bad) QB X = wB (F' b' c) _
        cases F' b' c with
        | none => rfl
        | some d => cases d <;> rfl
    | _ => rfl
theorem wE_tru {f : Ex} : wE (dTru f T env) QB X = wE (f T env) (fun w e => wO (deref e w) fun d => wO (fTru d) fun k => QB k e) X := by
  unfold dTru
  rw [wE_bind]
  refine wE_cases rfl fun w e => ?_
  cases deref e w with
  | none => rfl
  | some d =>
    show wE (match (some d).bind fTru with | some k => .ok k e | none => .bad) QB X = wO (fTru d) _
    rw [Option.bind_some]
    cases fTru d <;> rfl
theorem wE_ofT {f : Tx} : wE (dOfT f T env) Q X = wE (f T env) (fun k e => Q (.d (.bool k)) e) X := by
  unfold dOfT
  rw [wE_bind]
  exact wE_cases rfl fun _ _ => rfl
theorem wE_notT {f : Tx} : wE (dNotT f T env) QB X = wE (f T env) (fun k e => QB (!k) e) X := by
  unfold dNotT
  rw [wE_bind]
  exact wE_cases rfl fun _ _ => rfl
def nonB : PyData → Bool
  | .none => true
  | _ => false
theorem wE_isN {neg : Bool} {f : Ex} : wE (dIsN neg f T env) QB X = wE (f T env) (fun w e => wO (deref e w) fun d => QB (if nonB d = true then !neg else neg) e) X := by
  unfold dIsN
  rw [wE_bind]
  refine wE_cases rfl fun w e => ?_
  cases deref e w with
  | none => rfl
  | some d => cases d <;> rfl
theorem wE_and {f g : Ex} : wE (dAnd f g T env) Q X = wE (f T env) (fun w e => wO (deref e w) fun d => wO (fTru d) fun k => if k = true then wE (g T e) Q X else Q w e) X := by
  unfold dAnd
  rw [wE_bind]
  refine wE_cases rfl fun w e => ?_
  cases deref e w with
  | none => rfl
  | some d =>
    show wE (match (some d).bind fTru with | some true => g T e | some false => .ok w e | none => .bad) Q X = wO (fTru d) _
    rw [Option.bind_some]
    cases fTru d with
    | none => rfl
    | some k => cases k <;> rfl
theorem wE_or {f g : Ex} : wE (dOr f g T env) Q X = wE (f T env) (fun w e => wO (deref e w) fun d => wO (fTru d) fun k => if k = true then Q w e else wE (g T e) Q X) X := by
  unfold dOr
  rw [wE_bind]
  refine wE_cases rfl fun w e => ?_
  cases deref e w with
  | none => rfl
  | some d =>
    show wE (match (some d).bind fTru with | some true => .ok w e | some false => g T e | none => .bad) Q X = wO (fTru d) _
    rw [Option.bind_some]
    cases fTru d with
    | none => rfl
    | some k => cases k <;> rfl
theorem wE_andT {f g : Tx} : wE (dAndT f g T env) QB X = wE (f T env) (fun k e => if k = true then wE (g T e) QB X else QB false e) X := by
  unfold dAndT
  rw [wE_bind]
  refine wE_cases rfl fun k e => ?_
  cases k <;> rfl
theorem wE_orT {f g : Tx} : wE (dOrT f g T env) QB X = wE (f T env) (fun k e => if k = true then QB true e else wE (g T e) QB X) X := by
  unfold dOrT
  rw [wE_bind]
  refine wE_cases rfl fun k e => ?_
  cases k <;> rfl
theorem wE_if {c : Tx} {f g : Tab → Env → R α} {Q : α → Env → Prop} : wE (dIf c f g T env) Q X = wE (c T env) (fun k e => if k = true then wE (f T e) Q X else wE (g T e) Q X) X := by
  unfold dIf
  rw [wE_bind]
  refine wE_cases rfl fun k e => ?_
  cases k <;> rfl
theorem wE_nil : wE (dNil T env) QA X = QA [] env := rfl
theorem wE_cons {f : Ex} {g : Ax} : wE (dCons f g T env) QA X = wE (f T env) (fun w e => wE (g T e) (fun ws e' => QA (w :: ws) e') X) X := by
  unfold dCons
  rw [wE_bind]
  refine wE_cases rfl fun w e => ?_
  rw [wE_bind]
  exact wE_cases rfl fun _ _ => rfl
theorem wE_call {F : List PyData → Option PyData} {g : Ax} : wE (dCall F g T env) Q X = wE (g T env) (fun ws e => wO (derefs e ws) fun ds => wO (F ds) fun d => Q (.d d) e) X := by
  unfold dCall
  rw [wE_bind]
  refine wE_cases rfl fun ws e => ?_
  cases derefs e ws with
  | none => rfl
  | some ds =>
    show wE (match (some ds).bind F with | some d => .ok (.d d) e | none => .bad) Q X = wO (F ds) _
    rw [Option.bind_some]
    cases F ds <;> rfl
theorem wE_fz {f : Fx} : wE (fz f T env) Q X = wE (f T env) (fun ds e => Q (.d (.list ds)) e) X := by
  unfold fz
  rw [wE_bind]
  exact wE_cases rfl fun _ _ => rfl
theorem wE_tup {g : Ax} : wE (dTup g T env) Q X = wE (g T env) (fun ws e => wP (takes e ws) fun l e' => l.length ≤ LINE ∧ Q (.d (.tuple l)) e') X := by
  unfold dTup
  rw [wE_bind]
  refine wE_cases rfl fun ws e => ?_
  cases takes e ws with
  | none => rfl
  | some p =>
    show wE (if p.1.length ≤ LINE then .ok (.d (.tuple p.1)) p.2 else .bad) Q X = (p.1.length ≤ LINE ∧ _)
    by_cases h : p.1.length ≤ LINE
    · rw [if_pos h]; exact (propext ⟨fun z => ⟨h, z⟩, fun z => z.2⟩)
    · rw [if_neg h]; exact (propext ⟨fun z => z.elim, fun z => h z.1⟩)
theorem wE_lst {g : Ax} : wE (dLst g T env) QL X = wE (g T env) (fun ws e => wP (takes e ws) fun l e' => l.length ≤ LINE ∧ QL l e') X := by
  unfold dLst
  rw [wE_bind]
  refine wE_cases rfl fun ws e => ?_
  cases takes e ws with
  | none => rfl
  | some p =>
    show wE (if p.1.length ≤ LINE then .ok p.1 p.2 else .bad) QL X = (p.1.length ≤ LINE ∧ _)
    by_cases h : p.1.length ≤ LINE
    · rw [if_pos h]; exact (propext ⟨fun z => ⟨h, z⟩, fun z => z.2⟩)
    · rw [if_neg h]; exact (propext ⟨fun z => z.elim, fun z => h z.1⟩)
theorem wE_emptyD : wE (dEmptyD T env) Q X = Q (.d (.dict [])) env := rfl
/-- what is walked -/
def wSrc (w : W) (e : Env) (QL : List PyData → Env → Prop) : Prop := match takeW e w with
  | some (.list ds, e') => (match w with
    | .d _ => QL ds e'
    | .sl i => QL ds (e'.set i (.val (.list ds))))
  | some (.tuple ds, e') => QL ds e'
  | _ => False
theorem wE_src {f : Ex} : wE (dSrc f T env) QL X = wE (f T env) (fun w e => wSrc w e QL) X := by
  unfold dSrc wSrc
  rw [wE_bind]
  refine wE_cases rfl fun w e => ?_
  cases takeW e w with
  | none => rfl
  | some p =>
    obtain ⟨d, e'⟩ := p
    cases d with
    | list ds => cases w <;> rfl
    | tuple ds => rfl
    | _ => rfl
def int1 : List PyData → Option Int
  | [.int j] => some j
  | _ => none
def int2a : List PyData → Option Int
  | [.int i, .int _] => some i
  | _ => none
def int2b : List PyData → Option Int
  | [.int _, .int j] => some j
  | _ => none
theorem wE_range1 {g : Ax} : wE (dRange1 g T env) QL X = wE (g T env) (fun ws e => wO (derefs e ws) fun ds => wO (int1 ds) fun j => (-1000000000000 ≤ j ∧ j ≤ 1000000000000) ∧ QL (rgD 0 j.toNat) e) X := by
  unfold dRange1
  rw [wE_bind]
  refine wE_cases rfl fun ws e => ?_
  cases derefs e ws with
  | none => rfl
  | some ds =>
    show wE (match some ds with | some [.int j] => _ | _ => .bad) QL X = wO (int1 ds) _
    split
    · rename_i j hj
      cases hj
      show wE (if rgIn 0 j = true then _ else _) QL X = _
      by_cases h : rgIn 0 j = true
      · rw [if_pos h]; exact propext ⟨fun z => ⟨rgIn_one.mp h, z⟩, fun z => z.2⟩
      · rw [if_neg h]; exact propext ⟨fun z => z.elim, fun z => h (rgIn_one.mpr z.1)⟩
    · rename_i hn
      have e1 : int1 ds = none := by
        unfold int1
        split
        · exact absurd rfl (hn _)
        · rfl
      rw [e1]
      rfl
theorem wE_range2 {g : Ax} : wE (dRange2 g T env) QL X = wE (g T env) (fun ws e => wO (derefs e ws) fun ds => wO (int2a ds) fun i => wO (int2b ds) fun j => (-1000000000000 ≤ i ∧ i ≤ 1000000000000 ∧ -1000000000000 ≤ j ∧ j ≤ 1000000000000) ∧ QL (rgD i (j - i).toNat) e) X := by
  unfold dRange2
  rw [wE_bind]
  refine wE_cases rfl fun ws e => ?_
  cases derefs e ws with
  | none => rfl
  | some ds =>
    show wE (match some ds with | some [.int i, .int j] => _ | _ => .bad) QL X = wO (int2a ds) _
    split
    · rename_i i j hj
      cases hj
      show wE (if rgIn i j = true then _ else _) QL X = _
      by_cases h : rgIn i j = true
      · rw [if_pos h]; exact propext ⟨fun z => ⟨rgIn_iff.mp h, z⟩, fun z => z.2⟩
      · rw [if_neg h]; exact propext ⟨fun z => z.elim, fun z => h (rgIn_iff.mpr z.1)⟩
    · rename_i hn
      have e1 : int2a ds = none := by
        unfold int2a
        split
        · exact absurd rfl (hn _ _)
        · rfl
      rw [e1]
      rfl
theorem wE_isi {ts : List Ty} {f : Ex} : wE (dIsi ts f T env) Q X = wE (f T env) (fun w e => wO (deref e w) fun d => Q (.d (.bool (ts.any fun t => isA t d))) e) X := by
  unfold dIsi
  rw [wE_bind]
  refine wE_cases rfl fun w e => ?_
  cases deref e w <;> rfl
theorem wE_listOf {f : Ex} : wE (dListOf f T env) QL X = wE (f T env) (fun w e => wO (fListOf e w) fun ds => QL ds e) X := by
  unfold dListOf
  rw [wE_bind]
  refine wE_cases rfl fun w e => ?_
  cases fListOf e w <;> rfl
theorem wE_noP {Q : Option Int → Env → Prop} : wE (dNoP T env) Q X = Q none env := rfl
def intO : PyData → Option Int
  | .int i => some i
  | _ => none
theorem wE_part {f : Ex} {Q : Option Int → Env → Prop} : wE (dPart f T env) Q X = wE (f T env) (fun w e => wO (deref e w) fun d => wO (intO d) fun i => Q (some i) e) X := by
  unfold dPart
  rw [wE_bind]
  refine wE_cases rfl fun w e => ?_
  cases deref e w with
  | none => rfl
  | some d => cases d <;> rfl
theorem wE_sl {f : Ex} {lo hi : Px} : wE (dSl f lo hi T env) Q X = wE (f T env) (fun w e => wE (lo T e) (fun l e1 => wE (hi T e1) (fun u e2 => wO (deref e2 w) fun d => wO (fSl d l u) fun d' => Q (.d d') e2) X) X) X := by
  unfold dSl
  rw [wE_bind]
  refine wE_cases rfl fun w e => ?_
  rw [wE_bind]
  refine wE_cases rfl fun l e1 => ?_
  rw [wE_bind]
  refine wE_cases rfl fun u e2 => ?_
  cases deref e2 w with
  | none => rfl
  | some d =>
    show wE (match (some d).bind fun d => fSl d l u with | some d => .ok (.d d) e2 | none => .bad) Q X = wO (fSl d l u) _
    rw [Option.bind_some]
    cases fSl d l u <;> rfl
theorem wE_rev {f : Ex} : wE (dRev f T env) Q X = wE (f T env) (fun w e => wO (deref e w) fun d => wO (fRev d) fun d' => Q (.d d') e) X := by
  unfold dRev
  rw [wE_bind]
  refine wE_cases rfl fun w e => ?_
  cases deref e w with
  | none => rfl
  | some d =>
    show wE (match (some d).bind fRev with | some d => .ok (.d d) e | none => .bad) Q X = wO (fRev d) _
    rw [Option.bind_some]
    cases fRev d <;> rfl
theorem wE_neg {f : Ex} : wE (dNeg f T env) Q X = wE (f T env) (fun w e => wO (deref e w) fun d => wO (fNeg d) fun d' => Q (.d d') e) X := by
  unfold dNeg
  rw [wE_bind]
  refine wE_cases rfl fun w e => ?_
  cases deref e w with
  | none => rfl
  | some d =>
    show wE (match (some d).bind fNeg with | some d => .ok (.d d) e | none => .bad) Q X = wO (fNeg d) _
    rw [Option.bind_some]
    cases fNeg d <;> rfl
theorem wE_lenSet {f : Ex} : wE (dLenSet f T env) Q X = wE (f T env) (fun w e => wO (deref e w) fun d => wO (fLenSet d) fun d' => Q (.d d') e) X := by
  unfold dLenSet
  rw [wE_bind]
  refine wE_cases rfl fun w e => ?_
  cases deref e w with
  | none => rfl
  | some d =>
    show wE (match (some d).bind fLenSet with | some d => .ok (.d d) e | none => .bad) Q X = wO (fLenSet d) _
    rw [Option.bind_some]
    cases fLenSet d <;> rfl
theorem wE_tupRg1 {f : Ex} : wE (dTupRg1 f T env) Q X = wE (f T env) (fun w e => wO (deref e w) fun d => wO (intO d) fun n => rgOkB 0 n = true ∧ Q (.d (.tuple (rgL 0 n))) e) X := by
  unfold dTupRg1
  rw [wE_bind]
  refine wE_cases rfl fun w e => ?_
  cases deref e w with
  | none => rfl
  | some d =>
    cases d with
    | int n =>
      show wE (if rgOkB 0 n = true then _ else _) Q X = _
      by_cases h : rgOkB 0 n = true
      · rw [if_pos h]; exact propext ⟨fun z => ⟨h, z⟩, fun z => z.2⟩
      · rw [if_neg h]; exact propext ⟨fun z => z.elim, fun z => h z.1⟩
    | _ => rfl
theorem wE_callF {x : Str} {g : Ax} : wE (dCallF x g T env) Q X = wE (g T env) (fun ws e => wO (derefs e ws) fun ds => wF (T.fn x ds) (fun d io => io = [] ∧ (ws.any isSl = false ∨ noList d = true) ∧ Q (.d d) e) X) X := by
  unfold dCallF
  rw [wE_bind]
  refine wE_cases rfl fun ws e => ?_
  cases derefs e ws with
  | none => rfl
  | some ds =>
    show wE (match T.fn x ds with | .ok d [] => _ | .exc c => .exc c e | _ => .bad) Q X = wF (T.fn x ds) _ X
    cases T.fn x ds with
    | exc c => rfl
    | bad => rfl
    | ok d io =>
      cases io with
      | cons a l => exact propext ⟨fun z => z.elim, fun z => nomatch z.1⟩
      | nil =>
        show wE (if ws.any isSl = true ∧ noList d = false then .bad else .ok (.d d) e) Q X = (([] : List PyData) = [] ∧ (ws.any isSl = false ∨ noList d = true) ∧ Q (.d d) e)
        cases ws.any isSl <;> cases noList d <;> simp [wE]
def wIo (ws : List W) (Q : Nat → List W → Prop) : Prop := match ws with
  | .sl i :: ws' => Q i ws'
  | _ => False
theorem wE_callIo {x : Str} {g : Ax} : wE (dCallIo x g T env) Q X = wE (g T env) (fun ws e => wIo ws fun i ws' => wOwn e[i]? fun b d0 => wO (derefs e ws') fun ds => ws'.any isSl = false ∧ wF (T.fn x (d0 :: ds)) (fun d io => ∃ d1, io = [d1] ∧ Q (.d d) (e.set i (.own b d1))) (fun _ => False)) X := by
  unfold dCallIo
  rw [wE_bind]
  refine wE_cases rfl fun ws e => ?_
  cases ws with
  | nil => rfl
  | cons w ws' =>
    cases w with
    | d _ => rfl
    | sl i =>
      show wE (match e[i]?, derefs e ws' with | some (.own b d0), some ds => _ | _, _ => .bad) Q X = wOwn e[i]? _
      cases e[i]? with
      | none => rfl
      | some v =>
        cases v with
        | own b d0 =>
          show _ = wO (derefs e ws') _
          cases derefs e ws' with
          | none => rfl
          | some ds =>
            show wE (if ws'.any isSl = true then .bad else (match T.fn x (d0 :: ds) with | .ok d [d1] => .ok (.d d) (e.set i (.own b d1)) | _ => .bad)) Q X = (ws'.any isSl = false ∧ _)
            cases ws'.any isSl with
            | true => exact propext ⟨fun z => z.elim, fun z => nomatch z.1⟩
            | false =>
              rw [if_neg Bool.false_ne_true]
              cases T.fn x (d0 :: ds) with
              | exc c => exact propext ⟨fun z => z.elim, fun z => z.2⟩
              | bad => exact propext ⟨fun z => z.elim, fun z => z.2⟩
              | ok d io =>
                cases io with
                | nil => exact propext ⟨fun z => z.elim, fun z => by obtain ⟨_, _, e, _⟩ := z; cases e⟩
                | cons d1 l =>
                  cases l with
                  | cons _ _ => exact propext ⟨fun z => z.elim, fun z => by obtain ⟨_, _, e, _⟩ := z; cases e⟩
                  | nil => exact propext ⟨fun z => ⟨rfl, d1, rfl, z⟩, fun z => by obtain ⟨_, _, e, q⟩ := z; cases e; exact q⟩
        | _ => rfl
theorem wS_seq {g h : Sx} : wS (dSeq g h T env) N V X B C = wS (g T env) (fun e => wS (h T e) N V X B C) V X B C := by
  unfold dSeq
  cases g T env <;> rfl
theorem wS_skip : wS (dSkip T env) N V X B C = N env := rfl
theorem wS_break : wS (dBreak T env) N V X B C = B env := rfl
theorem wS_cont : wS (dCont T env) N V X B C = C env := rfl
theorem wS_raise {c : Str} : wS (dRaise c T env) N V X B C = X c := rfl
theorem wS_retN : wS (dRetN T env) N V X B C = V .none env := rfl
theorem wS_if {c : Tx} {g h : Sx} : wS (dIfS c g h T env) N V X B C = wE (c T env) (fun k e => if k = true then wS (g T e) N V X B C else wS (h T e) N V X B C) X := by
  unfold dIfS
  rw [wS_then]
  refine wE_cases rfl fun k e => ?_
  cases k <;> rfl
theorem wS_drop {f : Ex} : wS (dDrop f T env) N V X B C = wE (f T env) (fun _ e => N e) X := by
  unfold dDrop
  rw [wS_then]
  exact wE_cases rfl fun _ _ => rfl
theorem wS_ret {f : Ex} : wS (dRet f T env) N V X B C = wE (f T env) (fun w e => wP (takeW e w) fun d e' => V d e') X := by
  unfold dRet
  rw [wS_then]
  refine wE_cases rfl fun w e => ?_
  cases takeW e w <;> rfl
theorem wS_set {i : Nat} {f : Ex} : wS (dSet i f T env) N V X B C = wE (f T env) (fun w e => wP (takeW e w) fun d e' => N (e'.set i (.val d))) X := by
  unfold dSet
  rw [wS_then]
  refine wE_cases rfl fun w e => ?_
  cases takeW e w <;> rfl
theorem wS_setO {i : Nat} {f : Fx} : wS (dSetO i f T env) N V X B C = wE (f T env) (fun ds e => N (e.set i (.own false (.list ds)))) X := by
  unfold dSetO
  rw [wS_then]
  exact wE_cases rfl fun _ _ => rfl
theorem wS_setG {g : Gx} {f : Ex} : wS (dSetG g f T env) N V X B C = wE (f T env) (fun w e => wP (takeW e w) fun d e' => wO (g d e') fun e2 => N e2) X := by
  unfold dSetG
  rw [wS_then]
  refine wE_cases rfl fun w e => ?_
  cases takeW e w with
  | none => rfl
  | some p =>
    show wS (match g p.1 p.2 with | some e2 => .nx e2 | none => .bad) N V X B C = wO (g p.1 p.2) _
    cases g p.1 p.2 <;> rfl
def wL2 (l : List PyData) (Q : PyData → PyData → Prop) : Prop := match l with
  | [a, b] => Q a b
  | _ => False
def wL3 (l : List PyData) (Q : PyData → PyData → PyData → Prop) : Prop := match l with
  | [a, b, c] => Q a b c
  | _ => False
theorem wS_par2 {i j : Nat} {g : Ax} : wS (dPar2 i j g T env) N V X B C = wE (g T env) (fun ws e => wP (takes e ws) fun l e' => wL2 l fun d1 d2 => N ((e'.set i (.val d1)).set j (.val d2))) X := by
  unfold dPar2
  rw [wS_then]
  refine wE_cases rfl fun ws e => ?_
  cases takes e ws with
  | none => rfl
  | some p =>
    obtain ⟨l, e'⟩ := p
    match l with
    | [] => rfl
    | [_] => rfl
    | [_, _] => rfl
    | _ :: _ :: _ :: _ => rfl
theorem wS_par3 {i j l : Nat} {g : Ax} : wS (dPar3 i j l g T env) N V X B C = wE (g T env) (fun ws e => wP (takes e ws) fun ll e' => wL3 ll fun d1 d2 d3 => N (((e'.set i (.val d1)).set j (.val d2)).set l (.val d3))) X := by
  unfold dPar3
  rw [wS_then]
  refine wE_cases rfl fun ws e => ?_
  cases takes e ws with
  | none => rfl
  | some p =>
    obtain ⟨l, e'⟩ := p
    match l with
    | [] => rfl
    | [_] => rfl
    | [_, _] => rfl
    | [_, _, _] => rfl
    | _ :: _ :: _ :: _ :: _ => rfl
theorem wS_setIx {i : Nat} {fk f : Ex} : wS (dSetIx i fk f T env) N V X B C = wE (f T env) (fun w e => isOwn e i = true ∧ wE (fk T e) (fun wk e1 => wP (takeW e1 w) fun d e2 => wO (deref e2 wk) fun k => wO (intO k) fun k => wOwn e2[i]? fun io l => wO (lisO l) fun ds => wO (ixN ds.length k) fun j => N (e2.set i (.own io (.list (ds.set j d))))) X) X := by
  unfold dSetIx
  rw [wS_then]
  refine wE_cases rfl fun w e => ?_
  cases isOwn e i with
  | false => exact propext ⟨fun z => z.elim, fun z => nomatch z.1⟩
  | true =>
    rw [if_pos rfl, wS_then]
    refine (propext ⟨fun z => ⟨rfl, ?_⟩, fun z => ?_⟩)
    · rw [← wE_cases (r := fk T e) rfl fun wk e1 => ?_]
      exact z
      cases takeW e1 w with
      | none => rfl
      | some p =>
        obtain ⟨d, e2⟩ := p
        show wS (match deref e2 wk, e2[i]? with | some (.int k), some (.own io (.list ds)) => _ | _, _ => .bad) N V X B C = wO (deref e2 wk) _
        cases deref e2 wk with
        | none => rfl
        | some dk =>
          cases dk with
          | int k =>
            show _ = wOwn e2[i]? _
            cases e2[i]? with
            | none => rfl
            | some v =>
              cases v with
              | own io l =>
                cases l with
                | list ds =>
                  show wS (match ixN ds.length k with | some j => _ | none => .bad) N V X B C = wO (ixN ds.length k) _
                  cases ixN ds.length k <;> rfl
                | _ => rfl
              | _ => rfl
          | _ => rfl
    · have z := z.2
      rw [← wE_cases (r := fk T e) rfl fun wk e1 => ?_] at z
      exact z
      cases takeW e1 w with
      | none => rfl
      | some p =>
        obtain ⟨d, e2⟩ := p
        show wS (match deref e2 wk, e2[i]? with | some (.int k), some (.own io (.list ds)) => _ | _, _ => .bad) N V X B C = wO (deref e2 wk) _
        cases deref e2 wk with
        | none => rfl
        | some dk =>
          cases dk with
          | int k =>
            show _ = wOwn e2[i]? _
            cases e2[i]? with
            | none => rfl
            | some v =>
              cases v with
              | own io l =>
                cases l with
                | list ds =>
                  show wS (match ixN ds.length k with | some j => _ | none => .bad) N V X B C = wO (ixN ds.length k) _
                  cases ixN ds.length k <;> rfl
                | _ => rfl
              | _ => rfl
          | _ => rfl
def valO (o : Option SV) : Option PyData := match o with
  | some (.val a) => some a
  | _ => none
theorem wS_aug {i : Nat} {F : PyData → PyData → Option PyData} {f : Ex} : wS (dAug i F f T env) N V X B C = wO (valO env[i]?) (fun a => wE (f T env) (fun w e => wO (deref e w) fun b => wO (F a b) fun d => N (e.set i (.val d))) X) := by
  unfold dAug
  cases env[i]? with
  | none => rfl
  | some v =>
    cases v with
    | val a =>
      show wS (R.thenS _ _) N V X B C = wE _ _ _
      rw [wS_then]
      refine wE_cases rfl fun w e => ?_
      cases deref e w with
      | none => rfl
      | some b =>
        show wS (match F a b with | some d => .nx (e.set i (.val d)) | none => .bad) N V X B C = wO (F a b) _
        cases F a b <;> rfl
    | _ => rfl
theorem wS_augIx {i : Nat} {F : PyData → PyData → Option PyData} {fk f : Ex} : wS (dAugIx i F fk f T env) N V X B C = (isOwn env i = true ∧ wE (fk T env) (fun wk e1 => wO (deref e1 wk) fun k => wO (intO k) fun k => wOwn e1[i]? fun _ l => wO (lisO l) fun ds => 0 ≤ k ∧ wO ds[k.toNat]? fun a => wE (f T e1) (fun w e2 => wO (deref e2 w) fun b => wOwn e2[i]? fun io l2 => wO (lisO l2) fun ds2 => wO (F a b) fun d => wO (ixN ds2.length k) fun j => N (e2.set i (.own io (.list (ds2.set j d))))) X) X) := by
  unfold dAugIx
  cases isOwn env i with
  | false => exact propext ⟨fun z => z.elim, fun z => nomatch z.1⟩
  | true =>
    rw [if_pos rfl, wS_then]
    have key : ∀ wk e1, wS (match deref e1 wk, e1[i]? with
        | some (.int k), some (.own _ (.list ds)) => if 0 ≤ k then (match ds[k.toNat]? with
          | some a => (f T e1).thenS fun w e2 => (match deref e2 w, e2[i]? with
            | some b, some (.own io (.list ds2)) => (match F a b, ixN ds2.length k with
              | some d, some j => .nx (e2.set i (.own io (.list (ds2.set j d))))
              | _, _ => .bad)
            | _, _ => .bad)
          | none => .bad) else .bad
        | _, _ => .bad) N V X B C = wO (deref e1 wk) fun k => wO (intO k) fun k => wOwn e1[i]? fun _ l => wO (lisO l) fun ds => 0 ≤ k ∧ wO ds[k.toNat]? fun a => wE (f T e1) (fun w e2 => wO (deref e2 w) fun b => wOwn e2[i]? fun io l2 => wO (lisO l2) fun ds2 => wO (F a b) fun d => wO (ixN ds2.length k) fun j => N (e2.set i (.own io (.list (ds2.set j d))))) X := by
      intro wk e1
      cases deref e1 wk with
      | none => rfl
      | some dk =>
        cases dk with
        | int k =>
          show _ = wOwn e1[i]? _
          cases e1[i]? with
          | none => rfl
          | some v =>
            cases v with
            | own io0 l =>
              cases l with
              | list ds =>
                show wS (if 0 ≤ k then _ else .bad) N V X B C = (0 ≤ k ∧ _)
                by_cases h0 : 0 ≤ k
                · rw [if_pos h0]
                  refine Eq.trans ?_ (propext ⟨fun z => ⟨h0, z⟩, fun z => z.2⟩ : _ = (0 ≤ k ∧ _))
                  cases ds[k.toNat]? with
                  | none => rfl
                  | some a =>
                    show wS (R.thenS _ _) N V X B C = wE _ _ _
                    rw [wS_then]
                    refine wE_cases rfl fun w e2 => ?_
                    cases deref e2 w with
                    | none => rfl
                    | some b =>
                      show _ = wOwn e2[i]? _
                      cases e2[i]? with
                      | none => rfl
                      | some v =>
                        cases v with
                        | own io l2 =>
                          cases l2 with
                          | list ds2 =>
                            show wS (match F a b, ixN ds2.length k with | some d, some j => _ | _, _ => .bad) N V X B C = wO (F a b) _
                            cases F a b with
                            | none => rfl
                            | some d =>
                              show _ = wO (ixN ds2.length k) _
                              cases ixN ds2.length k <;> rfl
                          | _ => rfl
                        | _ => rfl
                · rw [if_neg h0]
                  exact propext ⟨fun z => z.elim, fun z => h0 z.1⟩
              | _ => rfl
            | _ => rfl
        | _ => rfl
    exact (wE_cases rfl key).trans (propext ⟨fun z => ⟨rfl, z⟩, fun z => z.2⟩)
theorem wE_meth {i : Nat} {F : List PyData → List PyData → Option (List PyData × PyData)} {g : Ax} : wE (dMeth i F g T env) Q X = (isOwn env i = true ∧ wE (g T env) (fun ws e => wP (takes e ws) fun as e' => wOwn e'[i]? fun io l => wO (lisO l) fun ds => wP (F ds as) fun ds' d => Q (.d d) (e'.set i (.own io (.list ds')))) X) := by
  unfold dMeth
  cases isOwn env i with
  | false => exact propext ⟨fun z => z.elim, fun z => nomatch z.1⟩
  | true =>
    rw [if_pos rfl, wE_bind]
    refine (wE_cases rfl fun ws e => ?_).trans (propext ⟨fun z => ⟨rfl, z⟩, fun z => z.2⟩)
    cases takes e ws with
    | none => rfl
    | some p =>
      obtain ⟨as, e1⟩ := p
      show wE (match e1[i]? with | some (.own io (.list ds)) => _ | _ => .bad) Q X = wOwn e1[i]? _
      cases e1[i]? with
      | none => rfl
      | some v =>
        cases v with
        | own io l =>
          cases l with
          | list ds =>
            show wE (match F ds as with | some (ds', d) => .ok (.d d) (e1.set i (.own io (.list ds'))) | none => .bad) Q X = wP (F ds as) fun ds' d => Q (.d d) (e1.set i (.own io (.list ds')))
            cases F ds as <;> rfl
          | _ => rfl
        | _ => rfl
theorem wS_for {src : Ix} {tgt : Gx} {body : Sx} : wS (dFor src tgt body T env) N V X B C = wE (src T env) (fun ds e => wS (forL T tgt body ds e) N V X B C) X := by
  unfold dFor
  rw [wS_then]
theorem wE_repF {f g : Ex} : wE (dRepF f g T env) QL X = wE (f T env) (fun w e => wE (g T e) (fun u e => wO (deref e w) fun a => wO (deref e u) fun k => wO (lisO a) fun a => wO (intO k) fun k => (k < 1000000 ∧ -1000000 < k ∧ a.length * k.toNat ≤ LINE) ∧ QL (List.replicate k.toNat a).flatten e) X) X := by
  unfold dRepF
  rw [wE_bind]
  refine wE_cases rfl fun w e => ?_
  rw [wE_bind]
  refine wE_cases rfl fun u e => ?_
  cases deref e w with
  | none => rfl
  | some a =>
    cases deref e u with
    | none => cases a <;> rfl
    | some k =>
      cases a <;> cases k <;> try rfl
      rename_i a k
      show wE (if k < 1000000 ∧ -1000000 < k ∧ a.length * k.toNat ≤ LINE then _ else _) QL X = _
      by_cases h : k < 1000000 ∧ -1000000 < k ∧ a.length * k.toNat ≤ LINE
      · rw [if_pos h]; exact propext ⟨fun z => ⟨h, z⟩, fun z => z.2⟩
      · rw [if_neg h]; exact propext ⟨fun z => z.elim, fun z => h z.1⟩
theorem wE_lstRg1 {f : Ex} : wE (dLstRg1 f T env) QL X = wE (f T env) (fun w e => wO (deref e w) fun d => wO (intO d) fun n => rgOkB 0 n = true ∧ QL (rgL 0 n) e) X := by
  unfold dLstRg1
  rw [wE_bind]
  refine wE_cases rfl fun w e => ?_
  cases deref e w with
  | none => rfl
  | some d =>
    cases d with
    | int n =>
      show wE (if rgOkB 0 n = true then _ else _) QL X = _
      by_cases h : rgOkB 0 n = true
      · rw [if_pos h]; exact propext ⟨fun z => ⟨h, z⟩, fun z => z.2⟩
      · rw [if_neg h]; exact propext ⟨fun z => z.elim, fun z => h z.1⟩
    | _ => rfl
theorem turn_inv {vs : List Nat} {tgt : Gx} {tst : Tx} {body : Bx} {Q : Acc → Env → Prop} (I : Nat → Acc → Env → Prop) (ds : List PyData) (h : ∀ i d acc e, ds[i]? = some d → I i acc e → ∃ e1, tgt d e = some e1 ∧ wE (tst T e1) (fun k e2 => if k = true then (match body acc e2 with | .ok acc' e3 => I (i + 1) acc' (wipeE e3 vs) | _ => False) else I (i + 1) acc (wipeE e2 vs)) (fun _ => False))
    (hq : ∀ acc e, I ds.length acc e → Q acc e) {acc : Acc} {e : Env} (h0 : I 0 acc e) : ∃ acc' e', turnL T vs tgt tst body ds acc e = .ok acc' e' ∧ Q acc' e' := by
  have go : ∀ (l : List PyData) (i : Nat) (acc : Acc) (e : Env), ds.drop i = l → i ≤ ds.length → I i acc e → ∃ acc' e', turnL T vs tgt tst body l acc e = .ok acc' e' ∧ Q acc' e' := by
    intro l
    induction l with
    | nil =>
      intro i acc e hl hi hI
      have : i = ds.length := by
        have := congrArg List.length hl
        rw [List.length_drop] at this
        have h2 : ds.length - i = 0 := this
        omega
      subst this
      exact ⟨acc, e, rfl, hq _ _ hI⟩
    | cons d l ih =>
      intro i acc e hl hi hI
      have hlt : i < ds.length := by
        have := congrArg List.length hl
        rw [List.length_drop] at this
        have h2 : ds.length - i = l.length + 1 := this
        omega
      have hd : ds[i]? = some d := by
        have := List.drop_eq_getElem_cons hlt
        rw [hl] at this
        cases this
        exact List.getElem?_eq_getElem hlt
      have hl2 : ds.drop (i + 1) = l := by
        have := List.drop_eq_getElem_cons hlt
        rw [hl] at this
        exact (List.cons.inj this).2.symm
      obtain ⟨e1, t1, w1⟩ := h i d acc e hd hI
      unfold turnL
      rw [t1]
      dsimp only
      cases et : tst T e1 with
      | ok k e2 =>
        rw [et] at w1
        cases k with
        | true =>
          have w1 : (match body acc e2 with | .ok acc' e3 => I (i + 1) acc' (wipeE e3 vs) | _ => False) := w1
          show ∃ acc' e', (match body acc e2 with | .ok acc' e3 => turnL T vs tgt tst body l acc' (wipeE e3 vs) | _ => .bad) = _ ∧ _
          cases eb : body acc e2 with
          | ok acc' e3 => rw [eb] at w1; exact ih (i + 1) acc' _ hl2 hlt w1
          | exc _ _ => rw [eb] at w1; exact w1.elim
          | bad => rw [eb] at w1; exact w1.elim
        | false => exact ih (i + 1) acc _ hl2 hlt w1
      | exc _ _ => rw [et] at w1; exact w1.elim
      | bad => rw [et] at w1; exact w1.elim
  exact go ds 0 acc e (List.drop_zero) (Nat.zero_le _) h0
/-- a comprehension whose test and element are plain: env is as before -/
theorem lc_pure {src : Ix} {vs : List Nat} {tgt : Gx} {tst : Tx} {elt : Ex} {ds : List PyData} {e0 : Env} (p : PyData → Bool) (f : PyData → PyData) (h1 : wE (src T env) (fun ds' e' => ds' = ds ∧ e' = e0) X) (h2 : plainAt e0 vs = true) (hlen : ds.length ≤ LINE)
    (h3 : ∀ d ∈ ds, ∃ e1, tgt d (wipeE e0 vs) = some e1 ∧ wipeE e1 vs = wipeE e0 vs ∧ wE (tst T e1) (fun k e2 => k = p d ∧ e2 = e1) (fun _ => False) ∧ (p d = true → wE (elt T e1) (fun w e2 => w = .d (f d) ∧ e2 = e1) fun _ => False))
    (hr : restore e0 vs (wipeE e0 vs) = e0) (q : QL ((ds.filter p).map f) e0) : wE (dLc src vs tgt tst elt T env) QL X := by
  unfold dLc dLcB
  rw [wE_bind]
  refine wE_mono h1 (fun ds' e' z => ?_) (fun c z => z)
  obtain ⟨rfl, rfl⟩ := z
  rw [if_pos h2]
  have := turn_inv (T := T) (vs := vs) (tgt := tgt) (tst := tst) (body := eltB T elt) (Q := fun acc e => acc = (ds'.filter p).map f ∧ e = wipeE e' vs) (fun i acc e => acc = ((ds'.take i).filter p).map f ∧ e = wipeE e' vs) ds' (fun i d acc e hd hI => ?_) (fun acc e hI => by rw [List.take_length] at hI; exact hI) (acc := []) (e := wipeE e' vs) ⟨rfl, rfl⟩
  · obtain ⟨acc', e2, ht, rfl, rfl⟩ := this
    rw [ht]
    show QL _ (restore e' vs (wipeE e' vs))
    rw [hr]
    exact q
  · obtain ⟨rfl, rfl⟩ := hI
    obtain ⟨e1, t1, w1, t2, t3⟩ := h3 d (List.mem_of_getElem? hd)
    refine ⟨e1, t1, wE_mono t2 (fun k e2 z => ?_) (fun c z => z)⟩
    obtain ⟨rfl, rfl⟩ := z
    have tk : ds'.take (i + 1) = ds'.take i ++ [d] := by
      rw [List.take_add_one, hd]; rfl
    cases hp : p d with
    | true =>
      rw [if_pos rfl]
      have t4 := t3 hp
      unfold eltB
      cases ee : elt T e2 with
      | ok w e3 =>
        rw [ee] at t4
        have t4 : w = .d (f d) ∧ e3 = e2 := t4
        obtain ⟨rfl, rfl⟩ := t4
        have hl : (((ds'.take i).filter p).map f).length < LINE := by
          have hi : i < ds'.length := (List.getElem?_eq_some_iff.mp hd).1
          have a1 : ((ds'.take i).filter p).length ≤ (ds'.take i).length := List.length_filter_le _ _
          rw [List.length_take] at a1
          rw [List.length_map]
          omega
        show (match (if (((ds'.take i).filter p).map f).length < LINE then R.ok (((ds'.take i).filter p).map f ++ [f d]) e3 else R.bad) with | .ok acc' e3 => _ | _ => False)
        rw [if_pos hl]
        refine ⟨?_, w1⟩
        rw [tk, List.filter_append, List.map_append]
        simp [hp]
      | exc _ _ => rw [ee] at t4; exact t4.elim
      | bad => rw [ee] at t4; exact t4.elim
    | false =>
      rw [if_neg Bool.false_ne_true]
      refine ⟨?_, w1⟩
      rw [tk, List.filter_append, List.map_append]
      simp [hp]
theorem wE_yes : wE (dYes T env) QB X = QB true env := rfl
theorem for_inv {tgt : Gx} {body : Sx} (I : Nat → Env → Prop) (ds : List PyData) (h : ∀ i d e, ds[i]? = some d → I i e → ∃ e1, tgt d e = some e1 ∧ wS (body T e1) (I (i + 1)) V X N (I (i + 1))) (hq : ∀ e, I ds.length e → N e) {e : Env} (h0 : I 0 e) : wS (forL T tgt body ds e) N V X B C := by
  have go : ∀ (l : List PyData) (i : Nat) (e : Env), ds.drop i = l → i ≤ ds.length → I i e → wS (forL T tgt body l e) N V X B C := by
    intro l
    induction l with
    | nil =>
      intro i e hl hi hI
      have : i = ds.length := by
        have := congrArg List.length hl
        rw [List.length_drop] at this
        have h2 : ds.length - i = 0 := this
        omega
      subst this
      exact hq _ hI
    | cons d l ih =>
      intro i e hl hi hI
      have hlt : i < ds.length := by
        have := congrArg List.length hl
        rw [List.length_drop] at this
        have h2 : ds.length - i = l.length + 1 := this
        omega
      have hd : ds[i]? = some d := by
        have := List.drop_eq_getElem_cons hlt
        rw [hl] at this
        cases this
        exact List.getElem?_eq_getElem hlt
      have hl2 : ds.drop (i + 1) = l := by
        have := List.drop_eq_getElem_cons hlt
        rw [hl] at this
        exact (List.cons.inj this).2.symm
      obtain ⟨e1, t1, w1⟩ := h i d e hd hI
      unfold forL
      rw [t1]
      show wS (match body T e1 with | .nx e => forL T tgt body l e | .ct e => forL T tgt body l e | .bk e => .nx e | r => r) N V X B C
      cases eb : body T e1 with
      | nx e2 => rw [eb] at w1; exact ih (i + 1) e2 hl2 hlt w1
      | ct e2 => rw [eb] at w1; exact ih (i + 1) e2 hl2 hlt w1
      | bk e2 => rw [eb] at w1; exact w1
      | ret d e2 => rw [eb] at w1; exact w1
      | exc c e2 => rw [eb] at w1; exact w1
      | bad => rw [eb] at w1; exact w1
  exact go ds 0 e (List.drop_zero) (Nat.zero_le _) h0
end
end Pv
end
section
set_option Elab.async false
set_option linter.all false
set_option maxRecDepth 100000
set_option maxHeartbeats 4000000
set_option autoImplicit false
namespace Pv
open PySem PySem.Spec PyProof.Rows L2
section
variable {α β : Type} {T : Tab} {env : Env} {X : Str → Prop} {N : Env → Prop} {V : PyData → Env → Prop} {B C : Env → Prop} {Q : W → Env → Prop} {QB : Bool → Env → Prop} {QA : List W → Env → Prop} {QL : List PyData → Env → Prop}
theorem E_lit {d : PyData} (h_ : Q (.d d) env) : wE (dLit d T env) Q X := by
  rw [wE_lit]
  exact h_
theorem E_var {i : Nat} (h_ : wV env[i]? i fun w => Q w env) : wE (dVar i T env) Q X := by
  rw [wE_var]
  exact h_
theorem E_bin {F : PyData → PyData → Option PyData} {f g : Ex} (h_ : wE (f T env) (fun w1 e1 => wE (g T e1) (fun w2 e2 => wO (deref e2 w1) fun a => wO (deref e2 w2) fun b => wO (F a b) fun d => Q (.d d) e2) X) X) : wE (dBin F f g T env) Q X := by
  rw [wE_bin]
  exact h_
theorem E_cmp {F : PyData → PyData → Option PyData} {f g : Ex} (h_ : wE (f T env) (fun w1 e1 => wE (g T e1) (fun w2 e2 => wO (deref e2 w1) fun a => wO (deref e2 w2) fun b => wB (F a b) fun k => QB k e2) X) X) : wE (dCmp F f g T env) QB X := by
  rw [wE_cmp]
  exact h_
theorem E_chain {F F' : PyData → PyData → Option PyData} {f g h : Ex} (h_ : wE (f T env) (fun w1 e1 => wE (g T e1) (fun w2 e2 => wO (deref e2 w1) fun a => wO (deref e2 w2) fun b => wB (F a b) fun k =>
    if k = true then wE (h T e2) (fun w3 e3 => wO (deref e3 w2) fun b' => wO (deref e3 w3) fun c => wB (F' b' c) fun k2 => QB k2 e3) X else QB false e2) X) X) : wE (dChain F F' f g h T env) QB X := by
  rw [wE_chain]
  exact h_
theorem E_tru {f : Ex} (h_ : wE (f T env) (fun w e => wO (deref e w) fun d => wO (fTru d) fun k => QB k e) X) : wE (dTru f T env) QB X := by
  rw [wE_tru]
  exact h_
theorem E_ofT {f : Tx} (h_ : wE (f T env) (fun k e => Q (.d (.bool k)) e) X) : wE (dOfT f T env) Q X := by
  rw [wE_ofT]
  exact h_
theorem E_notT {f : Tx} (h_ : wE (f T env) (fun k e => QB (!k) e) X) : wE (dNotT f T env) QB X := by
  rw [wE_notT]
  exact h_
theorem E_isN {neg : Bool} {f : Ex} (h_ : wE (f T env) (fun w e => wO (deref e w) fun d => QB (if nonB d = true then !neg else neg) e) X) : wE (dIsN neg f T env) QB X := by
  rw [wE_isN]
  exact h_
theorem E_and {f g : Ex} (h_ : wE (f T env) (fun w e => wO (deref e w) fun d => wO (fTru d) fun k => if k = true then wE (g T e) Q X else Q w e) X) : wE (dAnd f g T env) Q X := by
  rw [wE_and]
  exact h_
theorem E_or {f g : Ex} (h_ : wE (f T env) (fun w e => wO (deref e w) fun d => wO (fTru d) fun k => if k = true then Q w e else wE (g T e) Q X) X) : wE (dOr f g T env) Q X := by
  rw [wE_or]
  exact h_
theorem E_andT {f g : Tx} (h_ : wE (f T env) (fun k e => if k = true then wE (g T e) QB X else QB false e) X) : wE (dAndT f g T env) QB X := by
  rw [wE_andT]
  exact h_
theorem E_orT {f g : Tx} (h_ : wE (f T env) (fun k e => if k = true then QB true e else wE (g T e) QB X) X) : wE (dOrT f g T env) QB X := by
  rw [wE_orT]
  exact h_
theorem E_if {c : Tx} {f g : Tab → Env → R α} {Q : α → Env → Prop} (h_ : wE (c T env) (fun k e => if k = true then wE (f T e) Q X else wE (g T e) Q X) X) : wE (dIf c f g T env) Q X := by
  rw [wE_if]
  exact h_
theorem E_nil (h_ : QA [] env) : wE (dNil T env) QA X := by
  rw [wE_nil]
  exact h_
theorem E_cons {f : Ex} {g : Ax} (h_ : wE (f T env) (fun w e => wE (g T e) (fun ws e' => QA (w :: ws) e') X) X) : wE (dCons f g T env) QA X := by
  rw [wE_cons]
  exact h_
theorem E_call {F : List PyData → Option PyData} {g : Ax} (h_ : wE (g T env) (fun ws e => wO (derefs e ws) fun ds => wO (F ds) fun d => Q (.d d) e) X) : wE (dCall F g T env) Q X := by
  rw [wE_call]
  exact h_
theorem E_fz {f : Fx} (h_ : wE (f T env) (fun ds e => Q (.d (.list ds)) e) X) : wE (fz f T env) Q X := by
  rw [wE_fz]
  exact h_
theorem E_tup {g : Ax} (h_ : wE (g T env) (fun ws e => wP (takes e ws) fun l e' => l.length ≤ LINE ∧ Q (.d (.tuple l)) e') X) : wE (dTup g T env) Q X := by
  rw [wE_tup]
  exact h_
theorem E_lst {g : Ax} (h_ : wE (g T env) (fun ws e => wP (takes e ws) fun l e' => l.length ≤ LINE ∧ QL l e') X) : wE (dLst g T env) QL X := by
  rw [wE_lst]
  exact h_
theorem E_emptyD (h_ : Q (.d (.dict [])) env) : wE (dEmptyD T env) Q X := by
  rw [wE_emptyD]
  exact h_
theorem E_src {f : Ex} (h_ : wE (f T env) (fun w e => wSrc w e QL) X) : wE (dSrc f T env) QL X := by
  rw [wE_src]
  exact h_
theorem E_range1 {g : Ax} (h_ : wE (g T env) (fun ws e => wO (derefs e ws) fun ds => wO (int1 ds) fun j => (-1000000000000 ≤ j ∧ j ≤ 1000000000000) ∧ QL (rgD 0 j.toNat) e) X) : wE (dRange1 g T env) QL X := by
  rw [wE_range1]
  exact h_
theorem E_range2 {g : Ax} (h_ : wE (g T env) (fun ws e => wO (derefs e ws) fun ds => wO (int2a ds) fun i => wO (int2b ds) fun j => (-1000000000000 ≤ i ∧ i ≤ 1000000000000 ∧ -1000000000000 ≤ j ∧ j ≤ 1000000000000) ∧ QL (rgD i (j - i).toNat) e) X) : wE (dRange2 g T env) QL X := by
  rw [wE_range2]
  exact h_
theorem E_isi {ts : List Ty} {f : Ex} (h_ : wE (f T env) (fun w e => wO (deref e w) fun d => Q (.d (.bool (ts.any fun t => isA t d))) e) X) : wE (dIsi ts f T env) Q X := by
  rw [wE_isi]
  exact h_
theorem E_listOf {f : Ex} (h_ : wE (f T env) (fun w e => wO (fListOf e w) fun ds => QL ds e) X) : wE (dListOf f T env) QL X := by
  rw [wE_listOf]
  exact h_
theorem E_noP {Q : Option Int → Env → Prop} (h_ : Q none env) : wE (dNoP T env) Q X := by
  rw [wE_noP]
  exact h_
theorem E_part {f : Ex} {Q : Option Int → Env → Prop} (h_ : wE (f T env) (fun w e => wO (deref e w) fun d => wO (intO d) fun i => Q (some i) e) X) : wE (dPart f T env) Q X := by
  rw [wE_part]
  exact h_
theorem E_sl {f : Ex} {lo hi : Px} (h_ : wE (f T env) (fun w e => wE (lo T e) (fun l e1 => wE (hi T e1) (fun u e2 => wO (deref e2 w) fun d => wO (fSl d l u) fun d' => Q (.d d') e2) X) X) X) : wE (dSl f lo hi T env) Q X := by
  rw [wE_sl]
  exact h_
theorem E_rev {f : Ex} (h_ : wE (f T env) (fun w e => wO (deref e w) fun d => wO (fRev d) fun d' => Q (.d d') e) X) : wE (dRev f T env) Q X := by
  rw [wE_rev]
  exact h_
theorem E_neg {f : Ex} (h_ : wE (f T env) (fun w e => wO (deref e w) fun d => wO (fNeg d) fun d' => Q (.d d') e) X) : wE (dNeg f T env) Q X := by
  rw [wE_neg]
  exact h_
theorem E_lenSet {f : Ex} (h_ : wE (f T env) (fun w e => wO (deref e w) fun d => wO (fLenSet d) fun d' => Q (.d d') e) X) : wE (dLenSet f T env) Q X := by
  rw [wE_lenSet]
  exact h_
theorem E_tupRg1 {f : Ex} (h_ : wE (f T env) (fun w e => wO (deref e w) fun d => wO (intO d) fun n => rgOkB 0 n = true ∧ Q (.d (.tuple (rgL 0 n))) e) X) : wE (dTupRg1 f T env) Q X := by
  rw [wE_tupRg1]
  exact h_
theorem E_callF {x : Str} {g : Ax} (h_ : wE (g T env) (fun ws e => wO (derefs e ws) fun ds => wF (T.fn x ds) (fun d io => io = [] ∧ (ws.any isSl = false ∨ noList d = true) ∧ Q (.d d) e) X) X) : wE (dCallF x g T env) Q X := by
  rw [wE_callF]
  exact h_
theorem E_callIo {x : Str} {g : Ax} (h_ : wE (g T env) (fun ws e => wIo ws fun i ws' => wOwn e[i]? fun b d0 => wO (derefs e ws') fun ds => ws'.any isSl = false ∧ wF (T.fn x (d0 :: ds)) (fun d io => ∃ d1, io = [d1] ∧ Q (.d d) (e.set i (.own b d1))) (fun _ => False)) X) : wE (dCallIo x g T env) Q X := by
  rw [wE_callIo]
  exact h_
theorem S_seq {g h : Sx} (h_ : wS (g T env) (fun e => wS (h T e) N V X B C) V X B C) : wS (dSeq g h T env) N V X B C := by
  rw [wS_seq]
  exact h_
theorem S_skip (h_ : N env) : wS (dSkip T env) N V X B C := by
  rw [wS_skip]
  exact h_
theorem S_break (h_ : B env) : wS (dBreak T env) N V X B C := by
  rw [wS_break]
  exact h_
theorem S_cont (h_ : C env) : wS (dCont T env) N V X B C := by
  rw [wS_cont]
  exact h_
theorem S_raise {c : Str} (h_ : X c) : wS (dRaise c T env) N V X B C := by
  rw [wS_raise]
  exact h_
theorem S_retN (h_ : V .none env) : wS (dRetN T env) N V X B C := by
  rw [wS_retN]
  exact h_
theorem S_if {c : Tx} {g h : Sx} (h_ : wE (c T env) (fun k e => if k = true then wS (g T e) N V X B C else wS (h T e) N V X B C) X) : wS (dIfS c g h T env) N V X B C := by
  rw [wS_if]
  exact h_
theorem S_drop {f : Ex} (h_ : wE (f T env) (fun _ e => N e) X) : wS (dDrop f T env) N V X B C := by
  rw [wS_drop]
  exact h_
theorem S_ret {f : Ex} (h_ : wE (f T env) (fun w e => wP (takeW e w) fun d e' => V d e') X) : wS (dRet f T env) N V X B C := by
  rw [wS_ret]
  exact h_
theorem S_set {i : Nat} {f : Ex} (h_ : wE (f T env) (fun w e => wP (takeW e w) fun d e' => N (e'.set i (.val d))) X) : wS (dSet i f T env) N V X B C := by
  rw [wS_set]
  exact h_
theorem S_setO {i : Nat} {f : Fx} (h_ : wE (f T env) (fun ds e => N (e.set i (.own false (.list ds)))) X) : wS (dSetO i f T env) N V X B C := by
  rw [wS_setO]
  exact h_
theorem S_setG {g : Gx} {f : Ex} (h_ : wE (f T env) (fun w e => wP (takeW e w) fun d e' => wO (g d e') fun e2 => N e2) X) : wS (dSetG g f T env) N V X B C := by
  rw [wS_setG]
  exact h_
theorem S_par2 {i j : Nat} {g : Ax} (h_ : wE (g T env) (fun ws e => wP (takes e ws) fun l e' => wL2 l fun d1 d2 => N ((e'.set i (.val d1)).set j (.val d2))) X) : wS (dPar2 i j g T env) N V X B C := by
  rw [wS_par2]
  exact h_
theorem S_par3 {i j l : Nat} {g : Ax} (h_ : wE (g T env) (fun ws e => wP (takes e ws) fun ll e' => wL3 ll fun d1 d2 d3 => N (((e'.set i (.val d1)).set j (.val d2)).set l (.val d3))) X) : wS (dPar3 i j l g T env) N V X B C := by
  rw [wS_par3]
  exact h_
theorem S_setIx {i : Nat} {fk f : Ex} (h_ : wE (f T env) (fun w e => isOwn e i = true ∧ wE (fk T e) (fun wk e1 => wP (takeW e1 w) fun d e2 => wO (deref e2 wk) fun k => wO (intO k) fun k => wOwn e2[i]? fun io l => wO (lisO l) fun ds => wO (ixN ds.length k) fun j => N (e2.set i (.own io (.list (ds.set j d))))) X) X) : wS (dSetIx i fk f T env) N V X B C := by
  rw [wS_setIx]
  exact h_
theorem S_aug {i : Nat} {F : PyData → PyData → Option PyData} {f : Ex} (h_ : wO (valO env[i]?) (fun a => wE (f T env) (fun w e => wO (deref e w) fun b => wO (F a b) fun d => N (e.set i (.val d))) X)) : wS (dAug i F f T env) N V X B C := by
  rw [wS_aug]
  exact h_
theorem S_augIx {i : Nat} {F : PyData → PyData → Option PyData} {fk f : Ex} (h_ : (isOwn env i = true ∧ wE (fk T env) (fun wk e1 => wO (deref e1 wk) fun k => wO (intO k) fun k => wOwn e1[i]? fun _ l => wO (lisO l) fun ds => 0 ≤ k ∧ wO ds[k.toNat]? fun a => wE (f T e1) (fun w e2 => wO (deref e2 w) fun b => wOwn e2[i]? fun io l2 => wO (lisO l2) fun ds2 => wO (F a b) fun d => wO (ixN ds2.length k) fun j => N (e2.set i (.own io (.list (ds2.set j d))))) X) X)) : wS (dAugIx i F fk f T env) N V X B C := by
  rw [wS_augIx]
  exact h_
theorem E_meth {i : Nat} {F : List PyData → List PyData → Option (List PyData × PyData)} {g : Ax} (h_ : (isOwn env i = true ∧ wE (g T env) (fun ws e => wP (takes e ws) fun as e' => wOwn e'[i]? fun io l => wO (lisO l) fun ds => wP (F ds as) fun ds' d => Q (.d d) (e'.set i (.own io (.list ds')))) X)) : wE (dMeth i F g T env) Q X := by
  rw [wE_meth]
  exact h_
theorem S_for {src : Ix} {tgt : Gx} {body : Sx} (h_ : wE (src T env) (fun ds e => wS (forL T tgt body ds e) N V X B C) X) : wS (dFor src tgt body T env) N V X B C := by
  rw [wS_for]
  exact h_
theorem E_repF {f g : Ex} (h_ : wE (f T env) (fun w e => wE (g T e) (fun u e => wO (deref e w) fun a => wO (deref e u) fun k => wO (lisO a) fun a => wO (intO k) fun k => (k < 1000000 ∧ -1000000 < k ∧ a.length * k.toNat ≤ LINE) ∧ QL (List.replicate k.toNat a).flatten e) X) X) : wE (dRepF f g T env) QL X := by
  rw [wE_repF]
  exact h_
theorem E_lstRg1 {f : Ex} (h_ : wE (f T env) (fun w e => wO (deref e w) fun d => wO (intO d) fun n => rgOkB 0 n = true ∧ QL (rgL 0 n) e) X) : wE (dLstRg1 f T env) QL X := by
  rw [wE_lstRg1]
  exact h_
theorem E_yes (h_ : QB true env) : wE (dYes T env) QB X := by
  rw [wE_yes]
  exact h_
theorem O_some {o : Option α} {a : α} {Q : α → Prop} (h : o = some a) (q : Q a) : wO o Q := by rw [h]; exact q
theorem B_some {o : Option PyData} {k : Bool} {Q : Bool → Prop} (h : o = some (.bool k)) (q : Q k) : wB o Q := by rw [h]; exact q
theorem V_val {o : Option SV} {d : PyData} {i : Nat} {Q : W → Prop} (h : o = some (.val d)) (q : Q (.d d)) : wV o i Q := by rw [h]; exact q
theorem V_own {o : Option SV} {b : Bool} {d : PyData} {i : Nat} {Q : W → Prop} (h : o = some (.own b d)) (q : Q (.sl i)) : wV o i Q := by rw [h]; exact q
theorem V_scr {o : Option SV} {n : List Int} {i : Nat} {Q : W → Prop} (h : o = some (.scr n)) (q : Q (.sl i)) : wV o i Q := by rw [h]; exact q
theorem Own_own {o : Option SV} {b : Bool} {d : PyData} {Q : Bool → PyData → Prop} (h : o = some (.own b d)) (q : Q b d) : wOwn o Q := by rw [h]; exact q
theorem ite_k {k : Bool} {A B : Prop} (h1 : k = true → A) (h2 : k = false → B) : if k = true then A else B := by
  cases k with
  | true => rw [if_pos rfl]; exact h1 rfl
  | false => rw [if_neg Bool.false_ne_true]; exact h2 rfl
theorem ite_t {k : Bool} {A B : Prop} (h : k = true) (a : A) : if k = true then A else B := by rw [if_pos h]; exact a
theorem ite_f {k : Bool} {A B : Prop} (h : k = false) (b : B) : if k = true then A else B := by rw [if_neg (by rw [h]; exact Bool.false_ne_true)]; exact b
/-- a def's run -/
theorem F_fn {n : Nat} {io : Bool} {tot : Nat} {body : Sx} {ds : List PyData} {Q : PyData → List PyData → Prop} (hl : ds.length = n) (h : wS (body T (startE io tot ds)) (fun e => wO (ioOut io e) fun l => Q .none l) (fun d e => wO (ioOut io e) fun l => Q d l) (fun c => io = false ∧ X c) (fun _ => False) (fun _ => False)) : wF (fnRes n io tot body T ds) Q X := by
  unfold fnRes
  rw [if_pos hl]
  cases e : body T (startE io tot ds) with
  | nx e2 =>
    rw [e] at h
    have h : wO (ioOut io e2) fun l => Q .none l := h
    show wF (match ioOut io e2 with | some l => .ok .none l | none => .bad) Q X
    cases e3 : ioOut io e2 with
    | none => rw [e3] at h; exact h
    | some l => rw [e3] at h; exact h
  | ret d e2 =>
    rw [e] at h
    have h : wO (ioOut io e2) fun l => Q d l := h
    show wF (match ioOut io e2 with | some l => .ok d l | none => .bad) Q X
    cases e3 : ioOut io e2 with
    | none => rw [e3] at h; exact h
    | some l => rw [e3] at h; exact h
  | exc c e2 =>
    rw [e] at h
    have h : io = false ∧ X c := h
    show wF (if io = false then .exc c else .bad) Q X
    rw [if_pos h.1]
    exact h.2
  | bk e2 => rw [e] at h; exact h
  | ct e2 => rw [e] at h; exact h
  | bad => rw [e] at h; exact h
theorem F_run {n : Nat} {io : Bool} {tot : Nat} {body : Sx} {ds : List PyData} {Q : PyData → List PyData → Prop} (e0 : Env) (hl : ds.length = n) (he : startE io tot ds = e0) (h : wS (body T e0) (fun e => wO (ioOut io e) fun l => Q .none l) (fun d e => wO (ioOut io e) fun l => Q d l) (fun c => io = false ∧ X c) (fun _ => False) (fun _ => False)) : wF (fnRes n io tot body T ds) Q X := by
  subst he
  exact F_fn hl h
theorem S_env {g : Sx} {l : List SV} {i : Nat} {x : SV} {e2 : Env} (h : List.set l i x = e2) (q : wS (g T e2) N V X B C) : wS (g T (List.set l i x)) N V X B C := by rw [h]; exact q
theorem E_env {f : Tab → Env → R α} {l : List SV} {i : Nat} {x : SV} {e2 : Env} {Q : α → Env → Prop} (h : List.set l i x = e2) (q : wE (f T e2) Q X) : wE (f T (List.set l i x)) Q X := by rw [h]; exact q
theorem mul_ok {a b : Int} (h : -B64 < b ∧ b < B64) : fMul (.int a) (.int b) = some (.int (a * b)) := by
  show (if _ then _ else _) = _
  rw [if_pos (.inr h)]
theorem mod_ok {a b : Int} (h : b ≠ 0) : fMod (.int a) (.int b) = some (.int (a.fmod b)) := by
  show (if _ then _ else _) = _
  rw [if_pos h]
theorem div_ok {a b : Int} (h : b ≠ 0 ∧ b.natAbs < 1073741824) : fDiv (.int a) (.int b) = some (.int (a.fdiv b)) := by
  show (if _ then _ else _) = _
  rw [if_pos h]
theorem P_some {o : Option (α × β)} {a : α} {b : β} {Q : α → β → Prop} (h : o = some (a, b)) (q : Q a b) : wP o Q := by rw [h]; exact q
theorem Src_dl {ds : List PyData} (q : QL ds env) : wSrc (.d (.list ds)) env QL := q
theorem Src_dt {ds : List PyData} (q : QL ds env) : wSrc (.d (.tuple ds)) env QL := q
theorem Io_sl {i : Nat} {ws : List W} {Q : Nat → List W → Prop} (q : Q i ws) : wIo (.sl i :: ws) Q := q
theorem L2_2 {a b : PyData} {Q : PyData → PyData → Prop} (q : Q a b) : wL2 [a, b] Q := q
theorem L3_3 {a b c : PyData} {Q : PyData → PyData → PyData → Prop} (q : Q a b c) : wL3 [a, b, c] Q := q
end
end Pv
end
section
set_option Elab.async false
set_option linter.all false
set_option maxRecDepth 100000
set_option maxHeartbeats 4000000
set_option autoImplicit false
namespace Pv
open PySem PySem.Spec PyProof.Rows L2
section
variable {T : Tab} {env : Env} {X : Str → Prop} {N : Env → Prop} {V : PyData → Env → Prop} {B C : Env → Prop}
theorem S_parX {i j : Nat} {ka kb : Kx} (h : wE (ka.run T env) (fun sa e1 => wE (kb.run T e1) (fun sb e2 => N ((e2.set i sa).set j sb)) X) X) : wS (dParX i j ka kb T env) N V X B C := by
  unfold dParX
  rw [wS_then]
  refine wE_mono h (fun sa e1 h => ?_) (fun _ z => z)
  rw [wS_then]
  exact h
theorem E_fresh {f : Fx} {Q : SV → Env → Prop} (h : wE (f T env) (fun ds e => Q (.own false (.list ds)) e) X) : wE ((Kx.fresh f).run T env) Q X := by
  unfold Kx.run
  rw [wE_bind]
  exact h
theorem E_valK {g : Ex} {Q : SV → Env → Prop} (h : wE (g T env) (fun w e => wP (takeW e w) fun d e' => Q (.val d) e') X) : wE ((Kx.val g).run T env) Q X := by
  unfold Kx.run
  rw [wE_bind]
  refine wE_mono h (fun w e h => ?_) (fun _ z => z)
  cases q : takeW e w with
  | none => rw [q] at h; exact h.elim
  | some p => rw [q] at h; exact h
end
end Pv
end
section
set_option Elab.async false
set_option linter.all false
set_option maxRecDepth 100000
set_option maxHeartbeats 4000000
set_option autoImplicit false
namespace Pv
open PySem PySem.Spec PyProof.Rows L2
section
variable {T : Tab} {env : Env} {X : Str → Prop} {QL : List PyData → Env → Prop}
theorem E_sorted {f : Ex} (h : wE (f T env) (fun w e => wO (deref e w) fun d => wO (fSorted d) fun ds => QL ds e) X) : wE (dSorted f T env) QL X := by
  unfold dSorted
  rw [wE_bind]
  refine wE_mono h (fun w e h => ?_) (fun _ z => z)
  cases q : deref e w with
  | none => rw [q] at h; exact h.elim
  | some d =>
    rw [q] at h
    have h : wO (fSorted d) fun ds => QL ds e := h
    show wE (match fSorted d with | some ds => .ok ds e | none => .bad) QL X
    cases q2 : fSorted d with
    | none => rw [q2] at h; exact h.elim
    | some ds => rw [q2] at h; exact h
end
end Pv
end
section
set_option Elab.async false
set_option linter.all false
set_option maxRecDepth 100000
set_option maxHeartbeats 4000000
set_option autoImplicit false
namespace Pv
open PySem PySem.Spec PyProof.Rows L2
section
variable {T : Tab} {env : Env} {X : Str → Prop} {QL : List PyData → Env → Prop} {Q : W → Env → Prop}
theorem E_lenSetT {f : Ex} (h : wE (f T env) (fun w e => wO (deref e w) fun d => wO (fLenSetT d) fun d' => Q (.d d') e) X) : wE (dLenSetT f T env) Q X := by
  unfold dLenSetT
  rw [wE_bind]
  refine wE_mono h (fun w e h => ?_) (fun _ z => z)
  cases q : deref e w with
  | none => rw [q] at h; exact h.elim
  | some d =>
    rw [q] at h
    have h : wO (fLenSetT d) fun d' => Q (.d d') e := h
    show wE (match fLenSetT d with | some d => .ok (.d d) e | none => .bad) Q X
    cases q2 : fLenSetT d with
    | none => rw [q2] at h; exact h.elim
    | some ds => rw [q2] at h; exact h
end
end Pv
end
section
set_option Elab.async false
set_option linter.all false
set_option maxRecDepth 100000
set_option maxHeartbeats 4000000
set_option autoImplicit false
namespace Pv
open PySem PySem.Spec PyProof.Rows L2
section
variable {T : Tab} {env : Env} {X : Str → Prop} {Q : W → Env → Prop}
def one1 : List PyData → Option PyData
  | [d] => some d
  | _ => none
theorem E_index {fo : Ex} {g : Ax} (h : wE (fo T env) (fun w e => isLs (deref e w) = true ∧ wE (g T e) (fun ws e2 => wO (deref e2 w) fun a => wO (derefs e2 ws) fun ds => wO (one1 ds) fun d => wO (fIndex a d) fun r => Q (.d r) e2) X) X) : wE (dIndex fo g T env) Q X := by
  unfold dIndex
  rw [wE_bind]
  refine wE_mono h (fun w e h => ?_) (fun _ z => z)
  rw [if_pos h.1, wE_bind]
  refine wE_mono h.2 (fun ws e2 h => ?_) (fun _ z => z)
  cases q : deref e2 w with
  | none => rw [q] at h; exact h.elim
  | some a =>
    rw [q] at h
    have h : wO (derefs e2 ws) fun ds => wO (one1 ds) fun d => wO (fIndex a d) fun r => Q (.d r) e2 := h
    cases q2 : derefs e2 ws with
    | none => rw [q2] at h; exact h.elim
    | some ds =>
      rw [q2] at h
      have h : wO (one1 ds) fun d => wO (fIndex a d) fun r => Q (.d r) e2 := h
      match ds, h with
      | [d], h =>
        have h : wO (fIndex a d) fun r => Q (.d r) e2 := h
        show wE (match fIndex a d with | some r => .ok (.d r) e2 | none => .bad) Q X
        cases q3 : fIndex a d with
        | none => rw [q3] at h; exact h.elim
        | some r => rw [q3] at h; exact h
end
end Pv
end
section
set_option Elab.async false
set_option linter.all false
set_option maxRecDepth 100000
set_option maxHeartbeats 4000000
set_option autoImplicit false
namespace Pv
open PySem PySem.Spec PyProof.Rows L2
section
variable {T : Tab} {env : Env} {X : Str → Prop} {Q : W → Env → Prop}
def intW : W → Option Int
  | .d (.int i) => some i
  | _ => none
theorem E_getLit {kvs : List (Int × Int)} {f g : Ex} (h : wE (f T env) (fun w1 e1 => wE (g T e1) (fun w2 e2 => wO (intW w1) fun i => wO (intW w2) fun j => Q (.d (.int (getL kvs i j))) e2) X) X) : wE (dGetLit kvs f g T env) Q X := by
  unfold dGetLit
  rw [wE_bind]
  refine wE_mono h (fun w1 e1 h => ?_) (fun _ z => z)
  rw [wE_bind]
  refine wE_mono h (fun w2 e2 h => ?_) (fun _ z => z)
  cases q : intW w1 with
  | none => rw [q] at h; exact h.elim
  | some i =>
    rw [q] at h
    have h : wO (intW w2) fun j => Q (.d (.int (getL kvs i j))) e2 := h
    cases q2 : intW w2 with
    | none => rw [q2] at h; exact h.elim
    | some j =>
      rw [q2] at h
      have h : Q (.d (.int (getL kvs i j))) e2 := h
      have e1 : w1 = .d (.int i) := by
        unfold intW at q
        split at q
        · cases q; rfl
        · cases q
      have e2 : w2 = .d (.int j) := by
        unfold intW at q2
        split at q2
        · cases q2; rfl
        · cases q2
      subst e1 e2
      exact h
end
end Pv
end
section
set_option Elab.async false
set_option linter.all false
set_option maxRecDepth 100000
set_option maxHeartbeats 4000000
set_option autoImplicit false
namespace Pv
open PySem PySem.Spec PyProof.Rows L2
section
variable {T : Tab} {env : Env} {X : Str → Prop} {Q : W → Env → Prop} {QL : List PyData → Env → Prop}
/-- a source that is there -/
def dK (ds : List PyData) : Ix := fun _ e => .ok ds e
theorem E_tupRg2 {f g : Ex} (h : wE (f T env) (fun w e => wE (g T e) (fun u e2 => wO (deref e2 w) fun a => wO (intO a) fun m => wO (deref e2 u) fun b => wO (intO b) fun n => rgOkB m n = true ∧ Q (.d (.tuple (rgL m n))) e2) X) X) : wE (dTupRg2 f g T env) Q X := by
  unfold dTupRg2
  rw [wE_bind]
  refine wE_mono h (fun w e h => ?_) (fun _ z => z)
  rw [wE_bind]
  refine wE_mono h (fun u e2 h => ?_) (fun _ z => z)
  cases q : deref e2 w with
  | none => rw [q] at h; exact h.elim
  | some a =>
    rw [q] at h
    have h : wO (intO a) fun m => wO (deref e2 u) fun b => wO (intO b) fun n => rgOkB m n = true ∧ Q (.d (.tuple (rgL m n))) e2 := h
    cases a with
    | int m =>
      have h : wO (deref e2 u) fun b => wO (intO b) fun n => rgOkB m n = true ∧ Q (.d (.tuple (rgL m n))) e2 := h
      cases q2 : deref e2 u with
      | none => rw [q2] at h; exact h.elim
      | some b =>
        rw [q2] at h
        have h : wO (intO b) fun n => rgOkB m n = true ∧ Q (.d (.tuple (rgL m n))) e2 := h
        cases b with
        | int n =>
          have h : rgOkB m n = true ∧ Q (.d (.tuple (rgL m n))) e2 := h
          show wE (if rgOkB m n = true then _ else _) Q X
          rw [if_pos h.1]
          exact h.2
        | _ => exact h.elim
    | _ => exact h.elim
end
end Pv
end
section
set_option Elab.async false
set_option linter.all false
set_option maxRecDepth 100000
set_option maxHeartbeats 4000000
set_option autoImplicit false
namespace Pv
open PySem PySem.Spec PyProof.Rows L2
section
variable {T : Tab} {env : Env} {X : Str → Prop} {N : Env → Prop} {V : PyData → Env → Prop} {B C : Env → Prop}
theorem while_go {c : Tx} {body : Sx} (I : Nat → Env → Prop) (n : Nat) (hw : n < T.wh) (h : ∀ i e, i ≤ n → I i e → wE (c T e) (fun k e2 => if k = true then i < n ∧ wS (body T e2) (I (i + 1)) V X N (I (i + 1)) else N e2) X) {e : Env} (h0 : I 0 e) : wS (dWhile c body T e) N V X B C := by
  have go : ∀ (m i : Nat) (e : Env), n - i < m → i ≤ n → I i e → wS (whileL T c body m e) N V X B C := by
    intro m
    induction m with
    | zero => intro i e hm; omega
    | succ m ih =>
      intro i e hm hi hI
      unfold whileL
      rw [wS_then]
      refine wE_mono (h i e hi hI) (fun k e2 z => ?_) (fun _ z => z)
      cases k with
      | false => exact z
      | true =>
        obtain ⟨z1, z2⟩ := (show i < n ∧ wS (body T e2) (I (i + 1)) V X N (I (i + 1)) from z)
        show wS (match body T e2 with
          | .nx e => whileL T c body m e
          | .ct e => whileL T c body m e
          | .bk e => .nx e
          | r => r) N V X B C
        cases q : body T e2 with
        | nx e3 => rw [q] at z2; exact ih (i + 1) e3 (by omega) z1 z2
        | ct e3 => rw [q] at z2; exact ih (i + 1) e3 (by omega) z1 z2
        | bk e3 => rw [q] at z2; exact z2
        | ret d e3 => rw [q] at z2; exact z2
        | exc c e3 => rw [q] at z2; exact z2
        | bad => rw [q] at z2; exact z2.elim
  exact go T.wh 0 e (by omega) (Nat.zero_le _) h0
end
end Pv
end
section
set_option Elab.async false
set_option linter.all false
set_option maxRecDepth 100000
set_option maxHeartbeats 1000000
set_option autoImplicit false
namespace Pv
open PySem PySem.Spec PyProof.Rows L2
section
variable {T : Tab} {env : Env} {X : Str → Prop} {Q : W → Env → Prop} {QL : List PyData → Env → Prop}
def enO : List PyData → Option (List PyData)
  | [.tuple ds] => some ds
  | _ => none
theorem E_enum {g : Ax} (h : wE (g T env) (fun ws e => wP (takes e ws) fun ds e' => wO (enO ds) fun l => QL (enumD l) e') X) : wE (dEnum g T env) QL X := by
  unfold dEnum
  rw [wE_bind]
  refine wE_mono h (fun ws e h => ?_) (fun _ z => z)
  cases q : takes e ws with
  | none => rw [q] at h; exact h.elim
  | some p =>
    obtain ⟨ds, e'⟩ := p
    rw [q] at h
    have h : wO (enO ds) fun l => QL (enumD l) e' := h
    match ds, h with
    | [.tuple l], h => exact h
def strO : PyData → Option Str
  | .str a => some a
  | _ => none
theorem E_join {fo f : Ex} (h : wE (fo T env) (fun w e => wO (deref e w) fun d => wO (strO d) fun a => wE (f T e) (fun w2 e2 => wO (deref e2 w2) fun d2 => wO (fJoin a d2) fun r => Q (.d r) e2) X) X) : wE (dJoin fo f T env) Q X := by
  unfold dJoin
  rw [wE_bind]
  refine wE_mono h (fun w e h => ?_) (fun _ z => z)
  cases q : deref e w with
  | none => rw [q] at h; exact h.elim
  | some d =>
    rw [q] at h
    have h : wO (strO d) fun a => wE (f T e) (fun w2 e2 => wO (deref e2 w2) fun d2 => wO (fJoin a d2) fun r => Q (.d r) e2) X := h
    cases d with
    | str a =>
      have h : wE (f T e) (fun w2 e2 => wO (deref e2 w2) fun d2 => wO (fJoin a d2) fun r => Q (.d r) e2) X := h
      show wE ((f T e).bind fun w2 e2 => (match (deref e2 w2).bind (fJoin a) with | some r => .ok (.d r) e2 | none => .bad)) Q X
      rw [wE_bind]
      refine wE_mono h (fun w2 e2 h => ?_) (fun _ z => z)
      cases q2 : deref e2 w2 with
      | none => rw [q2] at h; exact h.elim
      | some d2 =>
        rw [q2] at h
        have h : wO (fJoin a d2) fun r => Q (.d r) e2 := h
        show wE (match fJoin a d2 with | some r => .ok (.d r) e2 | none => .bad) Q X
        cases q3 : fJoin a d2 with
        | none => rw [q3] at h; exact h.elim
        | some r => rw [q3] at h; exact h
    | _ => exact h.elim
theorem E_split {fo f : Ex} (h : wE (fo T env) (fun w e => wO (deref e w) fun d => wO (strO d) fun a => wE (f T e) (fun w2 e2 => wO (deref e2 w2) fun d2 => wO (strO d2) fun b => splitB a b = true ∧ QL ((Txt.split a b).map PyData.str) e2) X) X) : wE (dSplit fo f T env) QL X := by
  unfold dSplit
  rw [wE_bind]
  refine wE_mono h (fun w e h => ?_) (fun _ z => z)
  cases q : deref e w with
  | none => rw [q] at h; exact h.elim
  | some d =>
    rw [q] at h
    have h : wO (strO d) fun a => wE (f T e) (fun w2 e2 => wO (deref e2 w2) fun d2 => wO (strO d2) fun b => splitB a b = true ∧ QL ((Txt.split a b).map PyData.str) e2) X := h
    cases d with
    | str a =>
      have h : wE (f T e) (fun w2 e2 => wO (deref e2 w2) fun d2 => wO (strO d2) fun b => splitB a b = true ∧ QL ((Txt.split a b).map PyData.str) e2) X := h
      show wE ((f T e).bind fun w2 e2 => (match deref e2 w2 with | some (.str b) => if splitB a b = true then .ok ((Txt.split a b).map PyData.str) e2 else .bad | _ => .bad)) QL X
      rw [wE_bind]
      refine wE_mono h (fun w2 e2 h => ?_) (fun _ z => z)
      cases q2 : deref e2 w2 with
      | none => rw [q2] at h; exact h.elim
      | some d2 =>
        rw [q2] at h
        have h : wO (strO d2) fun b => splitB a b = true ∧ QL ((Txt.split a b).map PyData.str) e2 := h
        cases d2 with
        | str b =>
          obtain ⟨h1, h2⟩ := (show splitB a b = true ∧ QL ((Txt.split a b).map PyData.str) e2 from h)
          show wE (if splitB a b = true then .ok ((Txt.split a b).map PyData.str) e2 else .bad) QL X
          rw [if_pos h1]
          exact h2
        | _ => exact h.elim
    | _ => exact h.elim
end
end Pv
end
section
set_option Elab.async false
set_option linter.all false
set_option maxRecDepth 100000
set_option maxHeartbeats 1000000
set_option autoImplicit false
namespace Pv
open PySem PySem.Spec PyProof.Rows L2
section
variable {T : Tab} {env : Env} {X : Str → Prop} {QL : List PyData → Env → Prop}
def zpO : List PyData → Option (List PyData)
  | [.tuple ds, .tuple es] => some (zipD ds es)
  | _ => none
theorem E_zip {g : Ax} (h : wE (g T env) (fun ws e => wP (takes e ws) fun ds e' => wO (zpO ds) fun l => QL l e') X) : wE (dZip g T env) QL X := by
  unfold dZip
  rw [wE_bind]
  refine wE_mono h (fun ws e h => ?_) (fun _ z => z)
  cases q : takes e ws with
  | none => rw [q] at h; exact h.elim
  | some p =>
    obtain ⟨ds, e'⟩ := p
    rw [q] at h
    have h : wO (zpO ds) fun l => QL l e' := h
    match ds, h with
    | [.tuple l, .tuple m], h => exact h
end
end Pv
end
section
set_option Elab.async false
set_option linter.all false
set_option maxRecDepth 100000
set_option maxHeartbeats 1000000
set_option autoImplicit false
namespace Pv
open PySem PySem.Spec PyProof.Rows L2
section
variable {T : Tab} {env : Env} {X : Str → Prop} {Q : W → Env → Prop}
variable {QL : List PyData → Env → Prop}
def catO : PyData → PyData → Option (List PyData)
  | .list a, .list b => if a.length + b.length ≤ LINE then some (a ++ b) else none
  | _, _ => none
theorem E_catF {f g : Ex} (h : wE (f T env) (fun w e => wE (g T e) (fun u e => wO (deref e w) fun a => wO (deref e u) fun b => wO (catO a b) fun l => QL l e) X) X) : wE (dCatF f g T env) QL X := by
  unfold dCatF
  rw [wE_bind]
  refine wE_mono h (fun w e h => ?_) (fun _ z => z)
  rw [wE_bind]
  refine wE_mono h (fun u e h => ?_) (fun _ z => z)
  cases q : deref e w with
  | none => rw [q] at h; exact h.elim
  | some a =>
    rw [q] at h
    have h : wO (deref e u) fun b => wO (catO a b) fun l => QL l e := h
    cases q2 : deref e u with
    | none => rw [q2] at h; exact h.elim
    | some b =>
      rw [q2] at h
      have h : wO (catO a b) fun l => QL l e := h
      cases a with
      | list x =>
        cases b with
        | list y =>
          have h : wO (if x.length + y.length ≤ LINE then some (x ++ y) else none) fun l => QL l e := h
          show wE (if x.length + y.length ≤ LINE then .ok (x ++ y) e else .bad) QL X
          by_cases z : x.length + y.length ≤ LINE
          · rw [if_pos z] at h ⊢
            exact h
          · rw [if_neg z] at h
            exact h.elim
        | _ => exact h.elim
      | _ => exact h.elim
end
end Pv
end
section
set_option Elab.async false
set_option linter.all false
set_option maxRecDepth 100000
set_option maxHeartbeats 1000000
set_option autoImplicit false
namespace Pv
open PySem PySem.Spec PyProof.Rows L2
section
variable {T : Tab} {env : Env} {X : Str → Prop} {Q : W → Env → Prop} {QL : List PyData → Env → Prop}
theorem E_upSet {f : Ex} (h : wE (f T env) (fun w e => wO (deref e w) fun d => wO (fUpSet d) fun ds => QL ds e) X) : wE (dUpSet f T env) QL X := by
  unfold dUpSet
  rw [wE_bind]
  refine wE_mono h (fun w e h => ?_) (fun _ z => z)
  cases q : deref e w with
  | none => rw [q] at h; exact h.elim
  | some d =>
    rw [q] at h
    have h : wO (fUpSet d) fun ds => QL ds e := h
    show wE (match fUpSet d with | some ds => .ok ds e | none => .bad) QL X
    cases q2 : fUpSet d with
    | none => rw [q2] at h; exact h.elim
    | some ds => rw [q2] at h; exact h
theorem E_slS {f : Ex} {lo hi st : Px} (h : wE (f T env) (fun w e => wE (lo T e) (fun l e1 => wE (hi T e1) (fun u e2 => wE (st T e2) (fun k e3 => wO (deref e3 w) fun d => wO (fStep d l u k) fun d' => Q (.d d') e3) X) X) X) X) : wE (dSlS f lo hi st T env) Q X := by
  unfold dSlS
  rw [wE_bind]
  refine wE_mono h (fun w e h => ?_) (fun _ z => z)
  rw [wE_bind]
  refine wE_mono h (fun l e1 h => ?_) (fun _ z => z)
  rw [wE_bind]
  refine wE_mono h (fun u e2 h => ?_) (fun _ z => z)
  rw [wE_bind]
  refine wE_mono h (fun k e3 h => ?_) (fun _ z => z)
  cases q : deref e3 w with
  | none => rw [q] at h; exact h.elim
  | some d =>
    rw [q] at h
    have h : wO (fStep d l u k) fun d' => Q (.d d') e3 := h
    show wE (match fStep d l u k with | some d => .ok (.d d) e3 | none => .bad) Q X
    cases q2 : fStep d l u k with
    | none => rw [q2] at h; exact h.elim
    | some d' => rw [q2] at h; exact h
end
end Pv
end
section
set_option Elab.async false
set_option linter.all false
set_option maxRecDepth 100000
set_option maxHeartbeats 4000000
set_option autoImplicit false
namespace Sh
open PySem PySem.Spec PyProof.Rows L2 Pv
/-- slots: value -/
def g_is_whole : Sx :=
    (dRet (dAnd (dIsi [.int] (dVar 0)) (dOfT (dNotT (dTru (dIsi [.bool] (dVar 0)))))))
abbrev r_is_whole (T : Tab) (ds : List PyData) : FnRes := fnRes 1 false 1 g_is_whole T ds
/-- slots: told, word, count -/
def g_is_told : Sx :=
    (dSeq (dIfS (dOrT (dNotT (dTru (dIsi [.tuple] (dVar 0)))) (dCmp (fNe) (dCall fLen (dCons (dVar 0) dNil)) (dVar 2))) (dRet (dLit (.bool false))) dSkip)
    (dRet (dAnd (dIsi [.str] (dBin fIx (dVar 0) (dLit (.int 0)))) (dOfT (dCmp (fEq) (dBin fIx (dVar 0) (dLit (.int 0))) (dVar 1))))))
abbrev r_is_told (T : Tab) (ds : List PyData) : FnRes := fnRes 3 false 3 g_is_told T ds
/-- slots: value, count, part -/
def g_are_wholes : Sx :=
    (dRet (dAnd (dIsi [.tuple] (dVar 0)) (dAnd (dOfT (dCmp (fEq) (dCall fLen (dCons (dVar 0) dNil)) (dVar 1))) (dOfT (dCmp (fIn true) (dLit (.bool false)) (fz (dLc (dSrc (dVar 0)) [2] (gSlot 2) dYes (dCallF "is_whole" (dCons (dVar 2) dNil)))))))))
abbrev r_are_wholes (T : Tab) (ds : List PyData) : FnRes := fnRes 2 false 3 g_are_wholes T ds
/-- slots: state, limit, cell, value -/
def g__law_next : Sx :=
    (dSeq (dIfS (dAndT (dCmp (fEq) (dBin fIx (dVar 0) (dLit (.int 2))) (dLit (.int 0))) (dCmp (fCmpI fun i j => decide (i < j)) (dBin fIx (dVar 0) (dLit (.int 1))) (dCall fLen (dCons (dBin fIx (dVar 0) (dLit (.int 0))) dNil)))) (dSeq (dSet 2 (dBin fIx (dBin fIx (dVar 0) (dLit (.int 0))) (dBin fIx (dVar 0) (dLit (.int 1)))))
    (dSeq (dAugIx 0 fAddI (dLit (.int 1)) (dLit (.int 1)))
    (dIfS (dCmp (fCmpI fun i j => decide (j ≤ i)) (dVar 2) (dBin fPow (dLit (.int 10)) (dLit (.int 18)))) (dSetIx 0 (dLit (.int 2)) (dVar 2)) (dSetIx 0 (dLit (.int 3)) (dBin fMod (dCall fInt (dCons (dBin fAdd (dBin fAdd (dBin fMul (dBin fIx (dVar 0) (dLit (.int 3))) (dLit (.int 48271))) (dBin fMod (dCall fInt (dCons (dVar 2) dNil)) (dLit (.int 2147483647)))) (dLit (.int 7))) dNil)) (dLit (.int 2147483647))))))) dSkip)
    (dSeq (dIfS (dCmp (fCmpI fun i j => decide (j < i)) (dBin fIx (dVar 0) (dLit (.int 2))) (dLit (.int 0))) (dSeq (dSet 3 (dBin fMod (dCall fInt (dCons (dBin fIx (dVar 0) (dLit (.int 2))) dNil)) (dVar 1)))
    (dSeq (dSetIx 0 (dLit (.int 2)) (dBin fDiv (dBin fIx (dVar 0) (dLit (.int 2))) (dVar 1)))
    (dRet (dVar 3)))) dSkip)
    (dSeq (dSetIx 0 (dLit (.int 3)) (dBin fMod (dCall fInt (dCons (dBin fAdd (dBin fMul (dBin fIx (dVar 0) (dLit (.int 3))) (dLit (.int 69621))) (dLit (.int 12345))) dNil)) (dLit (.int 2147483647))))
    (dRet (dBin fMod (dCall fInt (dCons (dBin fDiv (dBin fIx (dVar 0) (dLit (.int 3))) (dLit (.int 7))) dNil)) (dVar 1))))))
abbrev r__law_next (T : Tab) (ds : List PyData) : FnRes := fnRes 2 true 4 g__law_next T ds
/-- slots: actual, expected, k -/
def g__law_same : Sx :=
    (dSeq (dIfS (dIsN false (dVar 1)) (dRet (dOfT (dIsN false (dVar 0)))) dSkip)
    (dSeq (dIfS (dTru (dIsi [.bool] (dVar 1))) (dRet (dAnd (dIsi [.bool] (dVar 0)) (dOfT (dCmp (fEq) (dVar 0) (dVar 1))))) dSkip)
    (dSeq (dIfS (dTru (dIsi [.int] (dVar 1))) (dRet (dAnd (dIsi [.int] (dVar 0)) (dAnd (dOfT (dNotT (dTru (dIsi [.bool] (dVar 0))))) (dOfT (dCmp (fEq) (dVar 0) (dVar 1)))))) dSkip)
    (dSeq (dIfS (dTru (dIsi [.str] (dVar 1))) (dRet (dAnd (dIsi [.str] (dVar 0)) (dOfT (dCmp (fEq) (dVar 0) (dVar 1))))) dSkip)
    (dSeq (dIfS (dAndT (dTru (dIsi [.tuple] (dVar 1))) (dNotT (dTru (dIsi [.tuple] (dVar 0))))) (dRet (dLit (.bool false))) dSkip)
    (dSeq (dIfS (dAndT (dTru (dIsi [.list] (dVar 1))) (dNotT (dTru (dIsi [.list] (dVar 0))))) (dRet (dLit (.bool false))) dSkip)
    (dSeq (dIfS (dCmp (fNe) (dCall fLen (dCons (dVar 0) dNil)) (dCall fLen (dCons (dVar 1) dNil))) (dRet (dLit (.bool false))) dSkip)
    (dSeq (dFor (dRange1 (dCons (dCall fLen (dCons (dVar 1) dNil)) dNil)) (gSlot 2) (dIfS (dNotT (dTru (dCallF "_law_same" (dCons (dBin fIx (dVar 0) (dVar 2)) (dCons (dBin fIx (dVar 1) (dVar 2)) dNil))))) (dRet (dLit (.bool false))) dSkip))
    (dRet (dLit (.bool true)))))))))))
abbrev r__law_same (T : Tab) (ds : List PyData) : FnRes := fnRes 2 false 3 g__law_same T ds
/-- slots: state, value, others, k, j, more, turn -/
def t__law_changed_9 : Sx :=
    (dRet (dBin fIx (dVar 5) (dCallIo "_law_next" (dCons (dVar 0) (dCons (dCall fLen (dCons (dVar 5) dNil)) dNil)))))
/-- slots: state, value, others, k, j, more, turn -/
def t__law_changed_8 : Sx :=
    (dSeq (dIfS (dChain (fCmpI fun i j => decide (i < j)) (fCmpI fun i j => decide (i < j)) (dVar 3) (dVar 4) (dCall fLen (dCons (dVar 1) dNil))) (dSet 5 (dBin fAdd (dVar 5) (fz (dLc (dRange1 (dCons (dLit (.int 3)) dNil)) [6] (gSlot 6) dYes (dBin fAdd (dBin fAdd (dBin fAdd (dBin fAdd (dSl (dVar 1) dNoP (dPart (dVar 3))) (dSl (dVar 1) (dPart (dVar 4)) (dPart (dBin fAdd (dVar 4) (dLit (.int 1)))))) (dSl (dVar 1) (dPart (dBin fAdd (dVar 3) (dLit (.int 1)))) (dPart (dVar 4)))) (dSl (dVar 1) (dPart (dVar 3)) (dPart (dBin fAdd (dVar 3) (dLit (.int 1)))))) (dSl (dVar 1) (dPart (dBin fAdd (dVar 4) (dLit (.int 1)))) dNoP)))))) dSkip) t__law_changed_9)
/-- slots: state, value, others, k, j, more, turn -/
def t__law_changed_7 : Sx :=
    (dSeq (dSet 5 (fz (dLst (dCons (dBin fAdd (dSl (dVar 1) dNoP (dPart (dVar 3))) (dSl (dVar 1) (dPart (dBin fAdd (dVar 3) (dLit (.int 1)))) dNoP)) (dCons (dBin fAdd (dVar 1) (dSl (dVar 1) dNoP (dPart (dLit (.int 1))))) (dCons (dRev (dVar 1)) (dCons (dBin fAdd (dSl (dVar 1) (dPart (dVar 3)) dNoP) (dSl (dVar 1) dNoP (dPart (dVar 3)))) (dCons (fz (dListOf (dVar 1))) (dCons (dSl (dVar 1) dNoP (dPart (dVar 3))) (dCons (dTup dNil) (dCons (dBin fAdd (dVar 1) (dTup (dCons (dLit (.int 0)) dNil))) dNil))))))))))) t__law_changed_8)
/-- slots: state, value, others, k, j, more, turn -/
def t__law_changed_6 : Sx :=
    (dSeq (dSet 4 (dCallIo "_law_next" (dCons (dVar 0) (dCons (dBin fAdd (dCall fLen (dCons (dVar 1) dNil)) (dLit (.int 1))) dNil)))) t__law_changed_7)
/-- slots: state, value, others, k, j, more, turn -/
def t__law_changed_5 : Sx :=
    (dSeq (dSet 3 (dCallIo "_law_next" (dCons (dVar 0) (dCons (dBin fAdd (dCall fLen (dCons (dVar 1) dNil)) (dLit (.int 1))) dNil)))) t__law_changed_6)
/-- slots: state, value, others, k, j, more, turn -/
def t__law_changed_4 : Sx :=
    (dSeq (dIfS (dNotT (dTru (dIsi [.tuple] (dVar 1)))) (dRet (dTup dNil)) dSkip) t__law_changed_5)
/-- slots: state, value, others, k, j, more, turn -/
def t__law_changed_3 : Sx :=
    (dSeq (dIfS (dAndT (dTru (dIsi [.tuple] (dVar 1))) (dAndT (dCmp (fNe) (dVar 1) (dTup dNil)) (dCmp (fCmpI fun i j => decide (j < i)) (dCallIo "_law_next" (dCons (dVar 0) (dCons (dLit (.int 4)) dNil))) (dLit (.int 0))))) (dSeq (dSet 3 (dCallIo "_law_next" (dCons (dVar 0) (dCons (dCall fLen (dCons (dVar 1) dNil)) dNil))))
    (dRet (dBin fAdd (dBin fAdd (dSl (dVar 1) dNoP (dPart (dVar 3))) (dTup (dCons (dCallIo "_law_changed" (dCons (dVar 0) (dCons (dBin fIx (dVar 1) (dVar 3)) dNil))) dNil))) (dSl (dVar 1) (dPart (dBin fAdd (dVar 3) (dLit (.int 1)))) dNoP)))) dSkip) t__law_changed_4)
/-- slots: state, value, others, k, j, more, turn -/
def t__law_changed_2 : Sx :=
    (dSeq (dIfS (dTru (dIsi [.str] (dVar 1))) (dSeq (dSet 2 (fz (dLst (dCons (dSl (dVar 1) (dPart (dLit (.int 1))) dNoP) (dCons (dBin fAdd (dVar 1) (dLit (.str "a"))) (dCons (dRev (dVar 1)) (dCons (dBin fAdd (dLit (.str "b")) (dVar 1)) (dCons (dLit (.str "")) (dCons (dSl (dVar 1) dNoP (dPart (dNeg (dLit (.int 1))))) (dCons (dLit (.str "left")) (dCons (dLit (.int 3)) (dCons (dLit (.str "in")) dNil))))))))))))
    (dRet (dBin fIx (dVar 2) (dCallIo "_law_next" (dCons (dVar 0) (dCons (dCall fLen (dCons (dVar 2) dNil)) dNil)))))) dSkip) t__law_changed_3)
/-- slots: state, value, others, k, j, more, turn -/
def t__law_changed_1 : Sx :=
    (dSeq (dIfS (dOrT (dIsN false (dVar 1)) (dTru (dIsi [.int] (dVar 1)))) (dRet (dBin fIx (fz (dLst (dCons (dBin fAdd (dOr (dVar 1) (dLit (.int 0))) (dLit (.int 1))) (dCons (dBin fSub (dOr (dVar 1) (dLit (.int 0))) (dLit (.int 1))) (dCons (dLit (.int 0)) (dCons (dLit .none) (dCons (dOfT (dCmp (fEq) (dVar 1) (dLit (.int 1)))) (dCons (dCall fStr (dCons (dVar 1) dNil)) (dCons (dBin fMul (dLit (.int 2)) (dOr (dVar 1) (dLit (.int 1)))) dNil))))))))) (dCallIo "_law_next" (dCons (dVar 0) (dCons (dLit (.int 7)) dNil))))) dSkip) t__law_changed_2)
/-- slots: state, value, others, k, j, more, turn -/
def g__law_changed : Sx :=
    (dSeq (dIfS (dTru (dIsi [.bool] (dVar 1))) (dRet (dBin fIx (fz (dLst (dCons (dOfT (dNotT (dTru (dVar 1)))) (dCons (dCall fInt (dCons (dVar 1) dNil)) dNil)))) (dCallIo "_law_next" (dCons (dVar 0) (dCons (dLit (.int 2)) dNil))))) dSkip) t__law_changed_1)
abbrev r__law_changed (T : Tab) (ds : List PyData) : FnRes := fnRes 2 true 7 g__law_changed T ds
/-- slots: value, found, part, number -/
def g__law_ints : Sx :=
    (dSeq (dIfS (dOrT (dTru (dIsi [.bool] (dVar 0))) (dNotT (dTru (dIsi [.int, .tuple] (dVar 0))))) (dRet (fz (dLst dNil))) dSkip)
    (dSeq (dIfS (dTru (dIsi [.int] (dVar 0))) (dRet (fz (dLst (dCons (dVar 0) dNil)))) dSkip)
    (dSeq (dSet 1 (fz (dLst dNil)))
    (dSeq (dFor (dSrc (dVar 0)) (gSlot 2) (dSet 1 (dBin fAdd (dVar 1) (fz (dLc (dSrc (dCallF "_law_ints" (dCons (dVar 2) dNil))) [3] (gSlot 3) (dCmp (fIn true) (dVar 3) (dVar 1)) (dVar 3))))))
    (dRet (dVar 1))))))
abbrev r__law_ints (T : Tab) (ds : List PyData) : FnRes := fnRes 1 false 4 g__law_ints T ds
/-- slots: value, one, other, part -/
def g__law_exchanged : Sx :=
    (dSeq (dIfS (dOrT (dTru (dIsi [.bool] (dVar 0))) (dNotT (dTru (dIsi [.int, .tuple] (dVar 0))))) (dRet (dVar 0)) dSkip)
    (dSeq (dIfS (dTru (dIsi [.int] (dVar 0))) (dRet (dIf (dCmp (fEq) (dVar 0) (dVar 1)) (dVar 2) (dIf (dCmp (fEq) (dVar 0) (dVar 2)) (dVar 1) (dVar 0)))) dSkip)
    (dRet (dCall fTuple (dCons (fz (dLc (dSrc (dVar 0)) [3] (gSlot 3) dYes (dCallF "_law_exchanged" (dCons (dVar 3) (dCons (dVar 1) (dCons (dVar 2) dNil)))))) dNil)))))
abbrev r__law_exchanged (T : Tab) (ds : List PyData) : FnRes := fnRes 3 false 4 g__law_exchanged T ds
/-- slots: state, value, part, k, at, ways -/
def t__law_cut_6 : Sx :=
    (dRet (dBin fIx (dVar 5) (dCallIo "_law_next" (dCons (dVar 0) (dCons (dCall fLen (dCons (dVar 5) dNil)) dNil)))))
/-- slots: state, value, part, k, at, ways -/
def t__law_cut_5 : Sx :=
    (dSeq (dSet 5 (dBin fAdd (dVar 5) (fz (dLst (dCons (dTup (dCons (fun _ _ => .bad) dNil)) (dCons (dCall fTuple (dCons (fun _ _ => .bad) dNil)) (dCons (dBin fAdd (dBin fAdd (dSl (dVar 1) dNoP (dPart (dVar 3))) (dTup (dCons (dLit (.str "")) dNil))) (dSl (dVar 1) (dPart (dVar 3)) dNoP)) (dCons (dBin fAdd (dBin fAdd (dSl (dVar 1) dNoP (dPart (dVar 3))) (dRev (dSl (dVar 1) (dPart (dVar 3)) (dPart (dBin fAdd (dVar 3) (dLit (.int 2))))))) (dSl (dVar 1) (dPart (dBin fAdd (dVar 3) (dLit (.int 2)))) dNoP)) dNil)))))))) t__law_cut_6)
/-- slots: state, value, part, k, at, ways -/
def t__law_cut_4 : Sx :=
    (dSeq (dSet 5 (fz (dLst (dCons (dBin fAdd (dBin fAdd (dSl (dVar 1) dNoP (dPart (dVar 3))) (dTup (dCons (dSl (dBin fIx (dVar 1) (dVar 3)) dNoP (dPart (dVar 4))) (dCons (dSl (dBin fIx (dVar 1) (dVar 3)) (dPart (dVar 4)) dNoP) dNil)))) (dSl (dVar 1) (dPart (dBin fAdd (dVar 3) (dLit (.int 1)))) dNoP)) (dCons (dBin fAdd (dBin fAdd (dSl (dVar 1) dNoP (dPart (dVar 3))) (dTup (dCons (fun _ _ => .bad) dNil))) (dSl (dVar 1) (dPart (dBin fAdd (dVar 3) (dLit (.int 2)))) dNoP)) dNil))))) t__law_cut_5)
/-- slots: state, value, part, k, at, ways -/
def t__law_cut_3 : Sx :=
    (dSeq (dSet 4 (dCallIo "_law_next" (dCons (dVar 0) (dCons (dBin fAdd (dCall fLen (dCons (dBin fIx (dVar 1) (dVar 3)) dNil)) (dLit (.int 1))) dNil)))) t__law_cut_4)
/-- slots: state, value, part, k, at, ways -/
def t__law_cut_2 : Sx :=
    (dSeq (dSet 3 (dCallIo "_law_next" (dCons (dVar 0) (dCons (dCall fLen (dCons (dVar 1) dNil)) dNil)))) t__law_cut_3)
/-- slots: state, value, part, k, at, ways -/
def t__law_cut_1 : Sx :=
    (dSeq (dIfS (dCmp (fNe) (fz (dLc (dSrc (dVar 1)) [2] (gSlot 2) (dNotT (dTru (dIsi [.str] (dVar 2)))) (dVar 2))) (fz (dLst dNil))) (dSeq (dSet 3 (dCallIo "_law_next" (dCons (dVar 0) (dCons (dCall fLen (dCons (dVar 1) dNil)) dNil))))
    (dRet (dBin fAdd (dBin fAdd (dSl (dVar 1) dNoP (dPart (dVar 3))) (dTup (dCons (dCallIo "_law_cut" (dCons (dVar 0) (dCons (dBin fIx (dVar 1) (dVar 3)) dNil))) dNil))) (dSl (dVar 1) (dPart (dBin fAdd (dVar 3) (dLit (.int 1)))) dNoP)))) dSkip) t__law_cut_2)
/-- slots: state, value, part, k, at, ways -/
def g__law_cut : Sx :=
    (dSeq (dIfS (dOrT (dNotT (dTru (dIsi [.tuple] (dVar 1)))) (dCmp (fEq) (dVar 1) (dTup dNil))) (dRet (dVar 1)) dSkip) t__law_cut_1)
abbrev r__law_cut (T : Tab) (ds : List PyData) : FnRes := fnRes 2 true 6 g__law_cut T ds
/-- slots: state, told, numbers, pick, one, other, part, k, j -/
def t__law_turned_about_6 : Sx :=
    (dRet (dIf (dAndT (dCmp (fCmpI fun i j => decide (j < i)) (dVar 7) (dLit (.int 0))) (dCmp (fCmpI fun i j => decide (j < i)) (dVar 8) (dLit (.int 0)))) (dBin fAdd (dBin fAdd (dSl (dVar 1) dNoP (dPart (dVar 7))) (dSl (dVar 1) (dPart (dVar 8)) (dPart (dBin fAdd (dVar 8) (dLit (.int 1)))))) (dSl (dVar 1) (dPart (dBin fAdd (dVar 7) (dLit (.int 1)))) dNoP)) (dVar 1)))
/-- slots: state, told, numbers, pick, one, other, part, k, j -/
def t__law_turned_about_5 : Sx :=
    (dSeq (dIfS (dAndT (dCmp (fEq) (dCall fLen (dCons (dVar 1) dNil)) (dLit (.int 2))) (dAndT (dTru (dIsi [.tuple] (dBin fIx (dVar 1) (dLit (.int 1))))) (dCmp (fNe) (dBin fIx (dVar 1) (dLit (.int 1))) (dTup dNil)))) (dSeq (dPar2 7 8 (dCons (dCallIo "_law_next" (dCons (dVar 0) (dCons (dCall fLen (dCons (dBin fIx (dVar 1) (dLit (.int 1))) dNil)) dNil))) (dCons (dCallIo "_law_next" (dCons (dVar 0) (dCons (dCall fLen (dCons (dBin fIx (dVar 1) (dLit (.int 1))) dNil)) dNil))) dNil)))
    (dRet (dTup (dCons (dBin fIx (dVar 1) (dLit (.int 0))) (dCons (dBin fAdd (dBin fAdd (dSl (dBin fIx (dVar 1) (dLit (.int 1))) dNoP (dPart (dVar 7))) (dSl (dBin fIx (dVar 1) (dLit (.int 1))) (dPart (dVar 8)) (dPart (dBin fAdd (dVar 8) (dLit (.int 1)))))) (dSl (dBin fIx (dVar 1) (dLit (.int 1))) (dPart (dBin fAdd (dVar 7) (dLit (.int 1)))) dNoP)) dNil))))) dSkip) t__law_turned_about_6)
/-- slots: state, told, numbers, pick, one, other, part, k, j -/
def t__law_turned_about_4 : Sx :=
    (dSeq (dPar2 7 8 (dCons (dCallIo "_law_next" (dCons (dVar 0) (dCons (dCall fLen (dCons (dVar 1) dNil)) dNil))) (dCons (dCallIo "_law_next" (dCons (dVar 0) (dCons (dCall fLen (dCons (dVar 1) dNil)) dNil))) dNil))) t__law_turned_about_5)
/-- slots: state, told, numbers, pick, one, other, part, k, j -/
def t__law_turned_about_3 : Sx :=
    (dSeq (dIfS (dCmp (fEq) (dVar 3) (dLit (.int 3))) (dRet (dBin fAdd (dSl (dVar 1) dNoP (dPart (dLit (.int 1)))) (dIf (dCmp (fCmpI fun i j => decide (j < i)) (dCall fLen (dCons (dVar 1) dNil)) (dLit (.int 2))) (dCallIo "_law_cut" (dCons (dVar 0) (dCons (dSl (dVar 1) (dPart (dLit (.int 1))) dNoP) dNil))) (dCall fTuple (dCons (fz (dLc (dSrc (dSl (dVar 1) (dPart (dLit (.int 1))) dNoP)) [6] (gSlot 6) dYes (dCallIo "_law_cut" (dCons (dVar 0) (dCons (dVar 6) dNil))))) dNil))))) dSkip) t__law_turned_about_4)
/-- slots: state, told, numbers, pick, one, other, part, k, j -/
def t__law_turned_about_2 : Sx :=
    (dSeq (dIfS (dAndT (dCmp (fCmpI fun i j => decide (i < j)) (dVar 3) (dLit (.int 3))) (dCmp (fNe) (dVar 2) (fz (dLst dNil)))) (dSeq (dSet 4 (dBin fIx (dVar 2) (dCallIo "_law_next" (dCons (dVar 0) (dCons (dCall fLen (dCons (dVar 2) dNil)) dNil)))))
    (dSeq (dSet 5 (dIf (dCmp (fEq) (dVar 3) (dLit (.int 0))) (dBin fAdd (dVar 4) (dLit (.int 1))) (dBin fIx (dVar 2) (dCallIo "_law_next" (dCons (dVar 0) (dCons (dCall fLen (dCons (dVar 2) dNil)) dNil))))))
    (dRet (dCallF "_law_exchanged" (dCons (dVar 1) (dCons (dVar 4) (dCons (dVar 5) dNil))))))) dSkip) t__law_turned_about_3)
/-- slots: state, told, numbers, pick, one, other, part, k, j -/
def t__law_turned_about_1 : Sx :=
    (dSeq (dSet 3 (dCallIo "_law_next" (dCons (dVar 0) (dCons (dLit (.int 5)) dNil)))) t__law_turned_about_2)
/-- slots: state, told, numbers, pick, one, other, part, k, j -/
def g__law_turned_about : Sx :=
    (dSeq (dSet 2 (dCallF "_law_ints" (dCons (dVar 1) dNil))) t__law_turned_about_1)
abbrev r__law_turned_about (T : Tab) (ds : List PyData) : FnRes := fnRes 2 true 9 g__law_turned_about T ds
/-- slots: state, told, odd, pick -/
def t__law_odd_3 : Sx :=
    (dRet (dIf (dCmp (fEq) (dVar 3) (dLit (.int 0))) (dBin fIx (dVar 2) (dCallIo "_law_next" (dCons (dVar 0) (dCons (dCall fLen (dCons (dVar 2) dNil)) dNil)))) (dCallIo "_law_changed" (dCons (dVar 0) (dCons (dVar 1) dNil)))))
/-- slots: state, told, odd, pick -/
def t__law_odd_2 : Sx :=
    (dSeq (dIfS (dCmp (fCmpI fun i j => decide (j < i)) (dVar 3) (dLit (.int 4))) (dRet (dCallIo "_law_turned_about" (dCons (dVar 0) (dCons (dVar 1) dNil)))) dSkip) t__law_odd_3)
/-- slots: state, told, odd, pick -/
def t__law_odd_1 : Sx :=
    (dSeq (dSet 3 (dCallIo "_law_next" (dCons (dVar 0) (dCons (dLit (.int 9)) dNil)))) t__law_odd_2)
/-- slots: state, told, odd, pick -/
def g__law_odd : Sx :=
    (dSeq (dSet 2 (fz (dLst (dCons (dLit .none) (dCons (dLit (.str "")) (dCons (dLit (.str "yes")) (dCons dEmptyD (dCons (dTup dNil) (dCons (dSl (dVar 1) dNoP (dPart (dLit (.int 1)))) (dCons (fz (dListOf (dVar 1))) (dCons (dBin fAdd (dVar 1) (dTup (dCons (dLit (.int 0)) dNil))) (dCons (dBin fAdd (dTup (dCons (fz (dLst (dCons (dBin fIx (dVar 1) (dLit (.int 0))) dNil))) dNil)) (dSl (dVar 1) (dPart (dLit (.int 1))) dNoP)) (dCons (dBin fAdd (dTup (dCons (dLit (.str "none such")) dNil)) (dSl (dVar 1) (dPart (dLit (.int 1))) dNoP)) (dCons (dLit (.int 7)) dNil)))))))))))))) t__law_odd_1)
abbrev r__law_odd (T : Tab) (ds : List PyData) : FnRes := fnRes 2 true 4 g__law_odd T ds
/-- slots: state, row, left, k -/
def g__law_mixed : Sx :=
    (dSeq (dSetO 2 (dListOf (dVar 1)))
    (dRet (dCall fTuple (dCons (fz (dLc (dRange1 (dCons (dCall fLen (dCons (dVar 1) dNil)) dNil)) [3] (gSlot 3) dYes (dMeth 2 fPopAt (dCons (dCallIo "_law_next" (dCons (dVar 0) (dCons (dCall fLen (dCons (dVar 2) dNil)) dNil))) dNil)))) dNil))))
abbrev r__law_mixed (T : Tab) (ds : List PyData) : FnRes := fnRes 2 true 4 g__law_mixed T ds
/-- slots: state, low, high, most -/
def g__law_cards : Sx :=
    (dRet (dSl (dCallIo "_law_mixed" (dCons (dVar 0) (dCons (dTupRg1 (dVar 3)) dNil))) dNoP (dPart (dBin fAdd (dVar 1) (dCallIo "_law_next" (dCons (dVar 0) (dCons (dBin fAdd (dBin fSub (dVar 2) (dVar 1)) (dLit (.int 1))) dNil)))))))
abbrev r__law_cards (T : Tab) (ds : List PyData) : FnRes := fnRes 4 true 4 g__law_cards T ds
/-- slots: state, value, step, k -/
def t__law_neighbour_7 : Sx :=
    (dRet (dBin fAdd (dBin fAdd (dSl (dVar 1) dNoP (dPart (dVar 3))) (dTup (dCons (dCallIo "_law_neighbour" (dCons (dVar 0) (dCons (dBin fIx (dVar 1) (dVar 3)) dNil))) dNil))) (dSl (dVar 1) (dPart (dBin fAdd (dVar 3) (dLit (.int 1)))) dNoP)))
/-- slots: state, value, step, k -/
def t__law_neighbour_6 : Sx :=
    (dSeq (dIfS (dAndT (dCmp (fEq) (dCallIo "_law_next" (dCons (dVar 0) (dCons (dLit (.int 3)) dNil))) (dLit (.int 0))) (dCmp (fCmpI fun i j => decide (j < i)) (dCall fLen (dCons (dVar 1) dNil)) (dLit (.int 1)))) (dRet (dBin fAdd (dSl (dVar 1) dNoP (dPart (dVar 3))) (dSl (dVar 1) (dPart (dBin fAdd (dVar 3) (dLit (.int 1)))) dNoP))) dSkip) t__law_neighbour_7)
/-- slots: state, value, step, k -/
def t__law_neighbour_5 : Sx :=
    (dSeq (dSet 3 (dCallIo "_law_next" (dCons (dVar 0) (dCons (dCall fLen (dCons (dVar 1) dNil)) dNil)))) t__law_neighbour_6)
/-- slots: state, value, step, k -/
def t__law_neighbour_4 : Sx :=
    (dSeq (dIfS (dTru (dIsi [.str] (dBin fIx (dVar 1) (dLit (.int 0))))) (dRet (dTup (dCons (dBin fIx (dVar 1) (dLit (.int 0))) (dCons (dBin fAdd (dBin fIx (dVar 1) (dLit (.int 1))) (dVar 2)) dNil)))) dSkip) t__law_neighbour_5)
/-- slots: state, value, step, k -/
def t__law_neighbour_3 : Sx :=
    (dSeq (dIfS (dCmp (fEq) (dVar 1) (dTup dNil)) (dRet (dVar 1)) dSkip) t__law_neighbour_4)
/-- slots: state, value, step, k -/
def t__law_neighbour_2 : Sx :=
    (dSeq (dIfS (dTru (dIsi [.int] (dVar 1))) (dRet (dBin fAdd (dVar 1) (dVar 2))) dSkip) t__law_neighbour_3)
/-- slots: state, value, step, k -/
def t__law_neighbour_1 : Sx :=
    (dSeq (dIfS (dTru (dIsi [.str] (dVar 1))) (dRet (dVar 1)) dSkip) t__law_neighbour_2)
/-- slots: state, value, step, k -/
def g__law_neighbour : Sx :=
    (dSeq (dSet 2 (dBin fIx (fz (dLst (dCons (dLit (.int 1)) (dCons (dNeg (dLit (.int 1))) dNil)))) (dCallIo "_law_next" (dCons (dVar 0) (dCons (dLit (.int 2)) dNil))))) t__law_neighbour_1)
abbrev r__law_neighbour (T : Tab) (ds : List PyData) : FnRes := fnRes 2 true 4 g__law_neighbour T ds
end Sh
end
section
set_option Elab.async false
set_option linter.all false
set_option maxRecDepth 100000
set_option maxHeartbeats 4000000
set_option autoImplicit false
namespace Sh
open PySem PySem.Spec PyProof.Rows L2 Pv
local macro_rules | `(tactic| walk_at "pv") => `(tactic| first | ((with_reducible apply S_env); focus (dsimp only [List.set_cons_zero, List.set_cons_succ]; first | done | exact rfl)) | ((with_reducible apply E_env); focus (dsimp only [List.set_cons_zero, List.set_cons_succ]; first | done | exact rfl)) | ((with_reducible apply P_some); focus (dsimp only [takes_cons, takes_nil, takeW_d, Option.bind_some, Option.map_some]; first | done | exact rfl)) | ((with_reducible apply O_some); focus (dsimp only [derefs_cons, derefs_nil, deref_d, Option.bind_some, Option.map_some]; first | done | exact rfl)) | with_reducible refine E_bin ?_ | with_reducible refine E_cmp ?_ | with_reducible refine E_chain ?_ | with_reducible refine E_tru ?_ | with_reducible refine E_ofT ?_ | with_reducible refine E_notT ?_ | with_reducible refine E_isN ?_ | with_reducible refine E_and ?_ | with_reducible refine E_or ?_ | with_reducible refine E_andT ?_ | with_reducible refine E_orT ?_ | with_reducible refine E_if ?_ | with_reducible refine E_nil ?_ | with_reducible refine E_cons ?_ | with_reducible refine E_call ?_ | with_reducible refine E_fz ?_ | with_reducible refine E_tup ?_ | with_reducible refine E_lst ?_ | with_reducible refine E_emptyD ?_ | with_reducible refine E_src ?_ | with_reducible refine E_range1 ?_ | with_reducible refine E_range2 ?_ | with_reducible refine E_isi ?_ | with_reducible refine E_listOf ?_ | with_reducible refine E_noP ?_ | with_reducible refine E_part ?_ | with_reducible refine E_sl ?_ | with_reducible refine E_rev ?_ | with_reducible refine E_neg ?_ | with_reducible refine E_lenSet ?_ | with_reducible refine E_tupRg1 ?_ | with_reducible refine E_tupRg2 ?_ | with_reducible refine E_callF ?_ | with_reducible refine E_callIo ?_ | with_reducible refine E_lit ?_ | with_reducible refine E_var ?_ | with_reducible refine E_meth ?_ | with_reducible refine E_repF ?_ | with_reducible refine E_lstRg1 ?_ | with_reducible refine E_yes ?_ | with_reducible refine E_sorted ?_ | with_reducible refine E_lenSetT ?_ | with_reducible refine E_index ?_ | with_reducible refine E_getLit ?_ | with_reducible refine E_enum ?_ | with_reducible refine E_zip ?_ | with_reducible refine E_join ?_ | with_reducible refine E_split ?_ | with_reducible refine E_fresh ?_ | with_reducible refine E_valK ?_ | with_reducible refine Src_dl ?_ | with_reducible refine Src_dt ?_ | with_reducible refine Io_sl ?_ | with_reducible refine L2_2 ?_ | with_reducible refine L3_3 ?_ | with_reducible refine S_parX ?_ | with_reducible refine S_seq ?_ | with_reducible refine S_skip ?_ | with_reducible refine S_break ?_ | with_reducible refine S_cont ?_ | with_reducible refine S_raise ?_ | with_reducible refine S_retN ?_ | with_reducible refine S_if ?_ | with_reducible refine S_drop ?_ | with_reducible refine S_ret ?_ | with_reducible refine S_set ?_ | with_reducible refine S_setO ?_ | with_reducible refine S_setG ?_ | with_reducible refine S_par2 ?_ | with_reducible refine S_par3 ?_ | with_reducible refine S_setIx ?_ | with_reducible refine S_aug ?_ | with_reducible refine S_augIx ?_ | with_reducible refine S_for ?_ | ((with_reducible apply V_val); focus exact rfl) | ((with_reducible apply V_own); focus exact rfl) | ((with_reducible apply V_scr); focus exact rfl) | ((with_reducible apply Own_own); focus exact rfl) | ((with_reducible apply O_some); focus exact rfl) | ((with_reducible apply B_some); focus exact rfl) | ((with_reducible apply P_some); focus exact rfl) | ((with_reducible apply ite_t); focus exact rfl) | ((with_reducible apply ite_f); focus exact rfl) | ((with_reducible apply O_some); focus (first | exact mul_ok (by decide) | exact mod_ok (by omega) | exact div_ok (by omega))) | ((with_reducible refine And.intro ?_ ?_); focus (first | exact rfl | decide | (simp only [List.length_cons, List.length_nil]; first | done | decide))))

/-- the drawing state -/
def St (d : PyData) : Prop := ∃ (ns : List Int) (p b s : Int), d = .list [.list (ns.map .int), .int p, .int b, .int s] ∧ 0 ≤ p ∧ 0 ≤ b ∧ 0 ≤ s ∧ s < 2147483647
theorem fmod_pos {a b : Int} (h : 0 < b) : 0 ≤ a.fmod b ∧ a.fmod b < b := ⟨Int.fmod_nonneg_of_pos a h, Int.fmod_lt_of_pos a h⟩
theorem fdiv_nn {a b : Int} (h : 0 < b) (ha : 0 ≤ a) : 0 ≤ a.fdiv b := Int.fdiv_nonneg ha (Int.le_of_lt h)
theorem atI_nn {α : Type} {xs : List α} {i : Int} (h0 : 0 ≤ i) (h1 : i < xs.length) : L2.atI xs i = xs[i.toNat]? := by
  unfold L2.atI ixN
  rw [if_pos h0, if_pos h1]
  rfl
theorem next_ok (T : Tab) {st : PyData} (h : St st) {n : Int} (h0 : 0 < n) (h1 : n < 1073741824) : wF (r__law_next T [st, .int n]) (fun d io => ∃ v st', d = .int v ∧ 0 ≤ v ∧ v < n ∧ io = [st'] ∧ St st') (fun _ => False) := by
  obtain ⟨ns, p, b, s, rfl, hp, hb, hs, hs2⟩ := h
  refine F_run [.own true (.list [.list (ns.map .int), .int p, .int b, .int s]), .val (.int n), .un, .un] rfl rfl ?_
  unfold g__law_next
  repeat walk_at "pv"
  refine ite_k (fun hk => ?_) fun hk => ?_
  · repeat walk_at "pv"
    refine ite_k (fun hk2 => ?_) fun hk2 => ?_
    · have hlt : p < (ns.map PyData.int).length := of_decide_eq_true hk2
      have hg : p.toNat < ns.length := by
        rw [List.length_map] at hlt
        omega
      repeat walk_at "pv"
      have e1 : fIx (.list (ns.map .int)) (.int p) = some (.int ns[p.toNat]) := by
        show L2.atI _ p = _
        rw [atI_nn hp hlt, List.getElem?_map, List.getElem?_eq_getElem hg]
        rfl
      refine O_some e1 ?_
      repeat walk_at "pv"
      refine ite_k (fun hk3 => ?_) fun hk3 => ?_
      · have hk3 : (10 : Int) ^ 18 ≤ ns[p.toNat] := of_decide_eq_true hk3
        have hk4 : 0 ≤ ns[p.toNat] := Int.le_trans (by decide) hk3
        repeat walk_at "pv"
        refine ite_k (fun hk => ?_) fun hk => ?_
        · repeat walk_at "pv"
          exact ⟨_, _, rfl, (fmod_pos h0).1, (fmod_pos h0).2, rfl, ns, (p + 1), _, s, rfl, (by omega), fdiv_nn h0 hk4, hs, hs2⟩
        · repeat walk_at "pv"
          exact ⟨_, _, rfl, (fmod_pos h0).1, (fmod_pos h0).2, rfl, ns, (p + 1), _, _, rfl, (by omega), hk4, (fmod_pos (by decide)).1, (fmod_pos (by decide)).2⟩
      · repeat walk_at "pv"
        refine ite_k (fun hk => ?_) fun hk => ?_
        · repeat walk_at "pv"
          exact ⟨_, _, rfl, (fmod_pos h0).1, (fmod_pos h0).2, rfl, ns, (p + 1), _, _, rfl, (by omega), fdiv_nn h0 hb, (fmod_pos (by decide)).1, (fmod_pos (by decide)).2⟩
        · repeat walk_at "pv"
          exact ⟨_, _, rfl, (fmod_pos h0).1, (fmod_pos h0).2, rfl, ns, (p + 1), b, _, rfl, (by omega), hb, (fmod_pos (by decide)).1, (fmod_pos (by decide)).2⟩
    · repeat walk_at "pv"
      refine ite_k (fun hk => ?_) fun hk => ?_
      · repeat walk_at "pv"
        exact ⟨_, _, rfl, (fmod_pos h0).1, (fmod_pos h0).2, rfl, ns, p, _, s, rfl, hp, fdiv_nn h0 hb, hs, hs2⟩
      · repeat walk_at "pv"
        exact ⟨_, _, rfl, (fmod_pos h0).1, (fmod_pos h0).2, rfl, ns, p, b, _, rfl, hp, hb, (fmod_pos (by decide)).1, (fmod_pos (by decide)).2⟩
  · repeat walk_at "pv"
    refine ite_k (fun hk => ?_) fun hk => ?_
    · repeat walk_at "pv"
      exact ⟨_, _, rfl, (fmod_pos h0).1, (fmod_pos h0).2, rfl, ns, p, _, s, rfl, hp, fdiv_nn h0 hb, hs, hs2⟩
    · repeat walk_at "pv"
      exact ⟨_, _, rfl, (fmod_pos h0).1, (fmod_pos h0).2, rfl, ns, p, b, _, rfl, hp, hb, (fmod_pos (by decide)).1, (fmod_pos (by decide)).2⟩
end Sh
end
section
set_option Elab.async false
set_option linter.all false
set_option maxRecDepth 100000
set_option maxHeartbeats 4000000
set_option autoImplicit false
namespace Sh
open PySem PySem.Spec PyProof.Rows L2 Pv
local macro_rules | `(tactic| walk_at "pv") => `(tactic| first | ((with_reducible apply S_env); focus (dsimp only [List.set_cons_zero, List.set_cons_succ]; first | done | exact rfl)) | ((with_reducible apply E_env); focus (dsimp only [List.set_cons_zero, List.set_cons_succ]; first | done | exact rfl)) | ((with_reducible apply P_some); focus (dsimp only [takes_cons, takes_nil, takeW_d, Option.bind_some, Option.map_some]; first | done | exact rfl)) | ((with_reducible apply O_some); focus (dsimp only [derefs_cons, derefs_nil, deref_d, Option.bind_some, Option.map_some]; first | done | exact rfl)) | with_reducible refine E_bin ?_ | with_reducible refine E_cmp ?_ | with_reducible refine E_chain ?_ | with_reducible refine E_tru ?_ | with_reducible refine E_ofT ?_ | with_reducible refine E_notT ?_ | with_reducible refine E_isN ?_ | with_reducible refine E_and ?_ | with_reducible refine E_or ?_ | with_reducible refine E_andT ?_ | with_reducible refine E_orT ?_ | with_reducible refine E_if ?_ | with_reducible refine E_nil ?_ | with_reducible refine E_cons ?_ | with_reducible refine E_call ?_ | with_reducible refine E_fz ?_ | with_reducible refine E_tup ?_ | with_reducible refine E_lst ?_ | with_reducible refine E_emptyD ?_ | with_reducible refine E_src ?_ | with_reducible refine E_range1 ?_ | with_reducible refine E_range2 ?_ | with_reducible refine E_isi ?_ | with_reducible refine E_listOf ?_ | with_reducible refine E_noP ?_ | with_reducible refine E_part ?_ | with_reducible refine E_sl ?_ | with_reducible refine E_rev ?_ | with_reducible refine E_neg ?_ | with_reducible refine E_lenSet ?_ | with_reducible refine E_tupRg1 ?_ | with_reducible refine E_tupRg2 ?_ | with_reducible refine E_callF ?_ | with_reducible refine E_callIo ?_ | with_reducible refine E_lit ?_ | with_reducible refine E_var ?_ | with_reducible refine E_meth ?_ | with_reducible refine E_repF ?_ | with_reducible refine E_lstRg1 ?_ | with_reducible refine E_yes ?_ | with_reducible refine E_sorted ?_ | with_reducible refine E_lenSetT ?_ | with_reducible refine E_index ?_ | with_reducible refine E_getLit ?_ | with_reducible refine E_enum ?_ | with_reducible refine E_zip ?_ | with_reducible refine E_join ?_ | with_reducible refine E_split ?_ | with_reducible refine E_fresh ?_ | with_reducible refine E_valK ?_ | with_reducible refine Src_dl ?_ | with_reducible refine Src_dt ?_ | with_reducible refine Io_sl ?_ | with_reducible refine L2_2 ?_ | with_reducible refine L3_3 ?_ | with_reducible refine S_parX ?_ | with_reducible refine S_seq ?_ | with_reducible refine S_skip ?_ | with_reducible refine S_break ?_ | with_reducible refine S_cont ?_ | with_reducible refine S_raise ?_ | with_reducible refine S_retN ?_ | with_reducible refine S_if ?_ | with_reducible refine S_drop ?_ | with_reducible refine S_ret ?_ | with_reducible refine S_set ?_ | with_reducible refine S_setO ?_ | with_reducible refine S_setG ?_ | with_reducible refine S_par2 ?_ | with_reducible refine S_par3 ?_ | with_reducible refine S_setIx ?_ | with_reducible refine S_aug ?_ | with_reducible refine S_augIx ?_ | with_reducible refine S_for ?_ | ((with_reducible apply V_val); focus exact rfl) | ((with_reducible apply V_own); focus exact rfl) | ((with_reducible apply V_scr); focus exact rfl) | ((with_reducible apply Own_own); focus exact rfl) | ((with_reducible apply O_some); focus exact rfl) | ((with_reducible apply B_some); focus exact rfl) | ((with_reducible apply P_some); focus exact rfl) | ((with_reducible apply ite_t); focus exact rfl) | ((with_reducible apply ite_f); focus exact rfl) | ((with_reducible apply O_some); focus (first | exact mul_ok (by decide) | exact mod_ok (by omega) | exact div_ok (by omega))) | ((with_reducible refine And.intro ?_ ?_); focus (first | exact rfl | decide | (simp only [List.length_cons, List.length_nil]; first | done | decide))))

theorem wF_eq {r : FnRes} {d : PyData} (h : wF r (fun d' io => d' = d ∧ io = []) fun _ => False) : r = .ok d [] := by
  cases r with
  | ok d' io =>
    obtain ⟨rfl, rfl⟩ := (show d' = d ∧ io = [] from h)
    rfl
  | exc c => exact h.elim
  | bad => exact h.elim
mutual
def sameB : PyData → PyData → Bool
  | .none, .none => true
  | .bool a, .bool b => a == b
  | .int a, .int b => a == b
  | .str a, .str b => a == b
  | .list xs, .list ys => sameL xs ys
  | .tuple xs, .tuple ys => sameL xs ys
  | _, _ => false
def sameL : List PyData → List PyData → Bool
  | [], [] => true
  | x :: xs, y :: ys => sameB x y && sameL xs ys
  | _, _ => false
end
theorem sameL_len : ∀ {xs ys : List PyData}, xs.length ≠ ys.length → sameL xs ys = false
  | [], [], h => absurd rfl h
  | [], _ :: _, _ => by simp [sameL]
  | _ :: _, [], _ => by simp [sameL]
  | x :: xs, y :: ys, h => by
    simp only [sameL]
    rw [sameL_len (fun z => h (by simp [z])), Bool.and_false]
theorem sameL_all : ∀ {xs ys : List PyData}, xs.length = ys.length → (∀ (i : Nat) (x y : PyData), xs[i]? = some x → ys[i]? = some y → sameB x y = true) → sameL xs ys = true
  | [], [], _, _ => by simp [sameL]
  | [], _ :: _, h, _ => by simp at h
  | _ :: _, [], h, _ => by simp at h
  | x :: xs, y :: ys, h, g => by
    simp only [sameL]
    rw [g 0 x y rfl rfl, sameL_all (by simpa using h) fun i a b ha hb => g (i + 1) a b (by simpa using ha) (by simpa using hb)]
    rfl
theorem sameL_one : ∀ {xs ys : List PyData} {i : Nat} {x y : PyData}, xs[i]? = some x → ys[i]? = some y → sameB x y = false → sameL xs ys = false
  | [], _, _, _, _, h, _, _ => by simp at h
  | _ :: _, [], _, _, _, _, h, _ => by simp at h
  | a :: xs, b :: ys, 0, x, y, h1, h2, h => by
    simp at h1 h2
    subst h1 h2
    simp only [sameL]
    rw [h, Bool.false_and]
  | a :: xs, b :: ys, i + 1, x, y, h1, h2, h => by
    simp only [sameL]
    rw [sameL_one (by simpa using h1) (by simpa using h2) h, Bool.and_false]
mutual
theorem sameB_eq : ∀ {a e : PyData}, sameB a e = true → a = e
  | .none, e, h => by cases e <;> simp [sameB] at h <;> rfl
  | .bool _, e, h => by cases e <;> simp [sameB] at h; rw [h]
  | .int _, e, h => by cases e <;> simp [sameB] at h; rw [h]
  | .str _, e, h => by cases e <;> simp [sameB] at h; rw [h]
  | .list xs, e, h => by cases e <;> simp [sameB] at h; rw [sameL_eq h]
  | .tuple xs, e, h => by cases e <;> simp [sameB] at h; rw [sameL_eq h]
  | .dict _, e, h => by cases e <;> simp [sameB] at h
theorem sameL_eq : ∀ {a e : List PyData}, sameL a e = true → a = e
  | [], e, h => by cases e <;> simp [sameL] at h; rfl
  | x :: xs, e, h => by
    cases e with
    | nil => simp [sameL] at h
    | cons y ys =>
      simp [sameL] at h
      rw [sameB_eq h.1, sameL_eq h.2]
end
mutual
def good : PyData → Bool
  | .none => true
  | .bool _ => true
  | .int _ => true
  | .str x => (PyData.str x).canLay0 && decide (x.length ≤ LINE)
  | .list xs => decide (xs.length ≤ LINE) && goods xs
  | .tuple xs => decide (xs.length ≤ LINE) && goods xs
  | .dict _ => false
def goods : List PyData → Bool
  | [] => true
  | x :: xs => good x && goods xs
end
theorem good_list {xs : List PyData} (h : good (.list xs) = true) : xs.length ≤ LINE ∧ goods xs = true := by
  simp only [good, Bool.and_eq_true, decide_eq_true_eq] at h
  exact h
theorem good_tup {xs : List PyData} (h : good (.tuple xs) = true) : xs.length ≤ LINE ∧ goods xs = true := by
  simp only [good, Bool.and_eq_true, decide_eq_true_eq] at h
  exact h
theorem goods_cons {x : PyData} {xs : List PyData} (h : goods (x :: xs) = true) : good x = true ∧ goods xs = true := by
  simp only [goods, Bool.and_eq_true] at h
  exact h
theorem goods_iff : ∀ {xs : List PyData}, goods xs = true ↔ ∀ x ∈ xs, good x = true
  | [] => by simp [goods]
  | x :: xs => by
    simp only [goods, Bool.and_eq_true, goods_iff (xs := xs), List.mem_cons, forall_eq_or_imp]
mutual
theorem good_lay : ∀ {d : PyData}, good d = true → d.canLay0 = true
  | .none, _ => rfl
  | .bool _, _ => rfl
  | .int _, _ => rfl
  | .str x, h => by
    simp only [good, Bool.and_eq_true] at h
    exact h.1
  | .list xs, h => by simpa [PyData.canLay0] using goods_lay (good_list h).2
  | .tuple xs, h => by simpa [PyData.canLay0] using goods_lay (good_tup h).2
  | .dict _, h => by simp [good] at h
theorem goods_lay : ∀ {ds : List PyData}, goods ds = true → PyData.canLayAll0 ds = true
  | [], _ => rfl
  | x :: xs, h => by
    have h' := goods_cons h
    simp [PyData.canLayAll0, good_lay h'.1, goods_lay h'.2]
end
mutual
theorem sameB_refl : ∀ {a : PyData}, good a = true → sameB a a = true
  | .none, _ => by simp [sameB]
  | .bool _, _ => by simp [sameB]
  | .int _, _ => by simp [sameB]
  | .str _, _ => by simp [sameB]
  | .list xs, h => by simp [sameB]; exact sameL_refl (good_list h).2
  | .tuple xs, h => by simp [sameB]; exact sameL_refl (good_tup h).2
  | .dict _, h => by simp [good] at h
theorem sameL_refl : ∀ {a : List PyData}, goods a = true → sameL a a = true
  | [], _ => by simp [sameL]
  | x :: xs, h => by
    have h' := goods_cons h
    simp [sameL]
    exact ⟨sameB_refl h'.1, sameL_refl h'.2⟩
end
theorem goods_at {xs : List PyData} {i : Nat} {x : PyData} (h : goods xs = true) (e : xs[i]? = some x) : good x = true := goods_iff.mp h x (List.mem_of_getElem? e)
theorem depth_at : ∀ {xs : List PyData} {i : Nat} {x : PyData}, xs[i]? = some x → x.depth ≤ PyData.depthAll xs
  | [], _, _, h => by simp at h
  | a :: xs, 0, x, e => by
    simp at e
    rw [← e]
    simp only [PyData.depthAll]
    omega
  | a :: xs, i + 1, x, e => by
    have := depth_at (xs := xs) (i := i) (x := x) (by simpa using e)
    simp only [PyData.depthAll]
    omega
theorem okD_good {d : PyData} (h : good d = true) (h2 : d.depth ≤ 64) : okD d = true := by
  show (d.canLay0 && decide (d.depth ≤ 64)) = true
  rw [good_lay h, decide_eq_true h2]; rfl
theorem fEq_ok {a b : PyData} (h1 : okD a = true) (h2 : okD b = true) : fEq a b = some (.bool (PyData.eqv a b)) := by
  unfold fEq
  rw [if_pos ⟨h1, h2⟩]
theorem fNe_ok {a b : PyData} (h1 : okD a = true) (h2 : okD b = true) : fNe a b = some (.bool (!PyData.eqv a b)) := by
  unfold fNe
  rw [if_pos ⟨h1, h2⟩]
theorem atI_at {xs : List PyData} {i : Nat} {x : PyData} (h : xs[i]? = some x) : L2.atI xs (i : Int) = some x := by
  have hl := (List.getElem?_eq_some_iff.mp h).1
  rw [atI_nn (by omega) (by omega)]
  simpa using h
theorem rgD_get {lo : Int} {n i : Nat} {d : PyData} (h : (rgD lo n)[i]? = some d) : d = .int (lo + i) ∧ i < n := by
  unfold rgD at h
  rw [List.getElem?_map] at h
  by_cases hi : i < n
  · rw [List.getElem?_range hi] at h
    cases h
    exact ⟨rfl, hi⟩
  · rw [List.getElem?_eq_none (by simpa using hi)] at h
    cases h
/-- good, or the one dict -/
def Gd (a : PyData) : Prop := good a = true ∨ ∃ l, a = .dict l
def SameAt (T : Tab) (n : Nat) : Prop := ∀ a e : PyData, e.depth < n → Gd a → good e = true → T.fn "_law_same" [a, e] = .ok (.bool (sameB a e)) []
theorem same_step {T : Tab} {n : Nat} (IH : SameAt T n) (a e : PyData) (hd : e.depth < n + 1) (ha : Gd a) (he : good e = true) : r__law_same T [a, e] = .ok (.bool (sameB a e)) [] := by
  refine wF_eq (F_run [.val a, .val e, .un] rfl rfl ?_)
  unfold g__law_same
  cases e with
  | none =>
    repeat walk_at "pv"
    cases a <;> (repeat walk_at "pv") <;> rfl
  | dict l => simp [good] at he
  | bool b =>
    repeat walk_at "pv"
    cases a <;> (repeat walk_at "pv") <;> rfl
  | int b =>
    repeat walk_at "pv"
    cases a <;> (repeat walk_at "pv") <;> rfl
  | str b =>
    have hb : okD (.str b) = true := okD_good he (by simp [PyData.depth])
    repeat walk_at "pv"
    cases a with
    | str a =>
      have ha' : okD (.str a) = true := okD_good (ha.elim id fun ⟨_, z⟩ => by cases z) (by simp [PyData.depth])
      repeat walk_at "pv"
      refine B_some (fEq_ok ha' hb) ?_
      repeat walk_at "pv"
      rfl
    | _ => (repeat walk_at "pv") <;> rfl
  | tuple ys =>
    obtain ⟨hyl, hy⟩ := good_tup he
    have hdy : PyData.depthAll ys < n := by
      simp only [PyData.depth] at hd
      omega
    repeat walk_at "pv"
    cases a with
    | tuple xs =>
      obtain ⟨hxl, hx⟩ := good_tup (ha.elim id fun ⟨_, z⟩ => by cases z)
      repeat walk_at "pv"
      refine ite_k (fun hk => ?_) fun hk => ?_
      · have hne : xs.length ≠ ys.length := fun z => by
          rw [z] at hk
          simp [PyData.eqv] at hk
        repeat walk_at "pv"
        refine ⟨?_, rfl⟩
        show PyData.bool false = .bool (sameL xs ys)
        rw [sameL_len hne]
      · have hl : xs.length = ys.length := by
          simp [PyData.eqv] at hk
          omega
        repeat walk_at "pv"
        refine ⟨⟨by omega, by show (ys.length : Int) ≤ _; have : LINE = 16777216 := rfl; omega⟩, ?_⟩
        refine for_inv (I := fun i e => ∃ c, e = [.val (.tuple xs), .val (.tuple ys), c] ∧ ∀ (j : Nat) (x y : PyData), j < i → xs[j]? = some x → ys[j]? = some y → sameB x y = true) _ (fun i d e hd2 hI => ?_) (fun e hI => ?_) ⟨_, rfl, fun j x y hj => absurd hj (Nat.not_lt_zero j)⟩
        · obtain ⟨c, rfl, hI⟩ := hI
          obtain ⟨rfl, hi⟩ := rgD_get hd2
          have hi : i < ys.length := by simpa using hi
          obtain ⟨x, hx1⟩ : ∃ x, xs[i]? = some x := ⟨_, List.getElem?_eq_getElem (hl ▸ hi)⟩
          obtain ⟨y, hy1⟩ : ∃ y, ys[i]? = some y := ⟨_, List.getElem?_eq_getElem hi⟩
          have e0 : (0 : Int) + (i : Int) = (i : Int) := Int.zero_add _
          rw [e0]
          refine ⟨_, rfl, ?_⟩
          repeat walk_at "pv"
          refine O_some (show fIx (.tuple xs) (.int (i : Int)) = some x from atI_at hx1) ?_
          repeat walk_at "pv"
          refine O_some (show fIx (.tuple ys) (.int (i : Int)) = some y from atI_at hy1) ?_
          repeat walk_at "pv"
          have e1 := IH x y (Nat.lt_of_le_of_lt (depth_at hy1) hdy) (.inl (goods_at hx hx1)) (goods_at hy hy1)
          rw [e1]
          refine ⟨rfl, .inl rfl, ?_⟩
          repeat walk_at "pv"
          refine ite_k (fun hk2 => ?_) fun hk2 => ?_
          · repeat walk_at "pv"
            refine ⟨?_, rfl⟩
            show PyData.bool false = .bool (sameL xs ys)
            rw [sameL_one hx1 hy1 (by simpa using hk2)]
          · repeat walk_at "pv"
            refine ⟨_, rfl, fun j x' y' hj h1 h2 => ?_⟩
            by_cases hji : j = i
            · subst hji
              rw [hx1] at h1
              rw [hy1] at h2
              cases h1
              cases h2
              simpa using hk2
            · exact hI j x' y' (by omega) h1 h2
        · obtain ⟨c, rfl, hI⟩ := hI
          have hI2 : ∀ (j : Nat) (x y : PyData), xs[j]? = some x → ys[j]? = some y → sameB x y = true := fun j x y h1 h2 => hI j x y (by
            rw [rgD_length]
            have := (List.getElem?_eq_some_iff.mp h2).1
            simpa using this) h1 h2
          repeat walk_at "pv"
          refine ⟨?_, rfl⟩
          show PyData.bool true = .bool (sameL xs ys)
          rw [sameL_all hl hI2]
    | _ => (repeat walk_at "pv") <;> rfl
  | list ys =>
    obtain ⟨hyl, hy⟩ := good_list he
    have hdy : PyData.depthAll ys < n := by
      simp only [PyData.depth] at hd
      omega
    repeat walk_at "pv"
    cases a with
    | list xs =>
      obtain ⟨hxl, hx⟩ := good_list (ha.elim id fun ⟨_, z⟩ => by cases z)
      repeat walk_at "pv"
      refine ite_k (fun hk => ?_) fun hk => ?_
      · have hne : xs.length ≠ ys.length := fun z => by
          rw [z] at hk
          simp [PyData.eqv] at hk
        repeat walk_at "pv"
        refine ⟨?_, rfl⟩
        show PyData.bool false = .bool (sameL xs ys)
        rw [sameL_len hne]
      · have hl : xs.length = ys.length := by
          simp [PyData.eqv] at hk
          omega
        repeat walk_at "pv"
        refine ⟨⟨by omega, by show (ys.length : Int) ≤ _; have : LINE = 16777216 := rfl; omega⟩, ?_⟩
        refine for_inv (I := fun i e => ∃ c, e = [.val (.list xs), .val (.list ys), c] ∧ ∀ (j : Nat) (x y : PyData), j < i → xs[j]? = some x → ys[j]? = some y → sameB x y = true) _ (fun i d e hd2 hI => ?_) (fun e hI => ?_) ⟨_, rfl, fun j x y hj => absurd hj (Nat.not_lt_zero j)⟩
        · obtain ⟨c, rfl, hI⟩ := hI
          obtain ⟨rfl, hi⟩ := rgD_get hd2
          have hi : i < ys.length := by simpa using hi
          obtain ⟨x, hx1⟩ : ∃ x, xs[i]? = some x := ⟨_, List.getElem?_eq_getElem (hl ▸ hi)⟩
          obtain ⟨y, hy1⟩ : ∃ y, ys[i]? = some y := ⟨_, List.getElem?_eq_getElem hi⟩
          have e0 : (0 : Int) + (i : Int) = (i : Int) := Int.zero_add _
          rw [e0]
          refine ⟨_, rfl, ?_⟩
          repeat walk_at "pv"
          refine O_some (show fIx (.list xs) (.int (i : Int)) = some x from atI_at hx1) ?_
          repeat walk_at "pv"
          refine O_some (show fIx (.list ys) (.int (i : Int)) = some y from atI_at hy1) ?_
          repeat walk_at "pv"
          have e1 := IH x y (Nat.lt_of_le_of_lt (depth_at hy1) hdy) (.inl (goods_at hx hx1)) (goods_at hy hy1)
          rw [e1]
          refine ⟨rfl, .inl rfl, ?_⟩
          repeat walk_at "pv"
          refine ite_k (fun hk2 => ?_) fun hk2 => ?_
          · repeat walk_at "pv"
            refine ⟨?_, rfl⟩
            show PyData.bool false = .bool (sameL xs ys)
            rw [sameL_one hx1 hy1 (by simpa using hk2)]
          · repeat walk_at "pv"
            refine ⟨_, rfl, fun j x' y' hj h1 h2 => ?_⟩
            by_cases hji : j = i
            · subst hji
              rw [hx1] at h1
              rw [hy1] at h2
              cases h1
              cases h2
              simpa using hk2
            · exact hI j x' y' (by omega) h1 h2
        · obtain ⟨c, rfl, hI⟩ := hI
          have hI2 : ∀ (j : Nat) (x y : PyData), xs[j]? = some x → ys[j]? = some y → sameB x y = true := fun j x y h1 h2 => hI j x y (by
            rw [rgD_length]
            have := (List.getElem?_eq_some_iff.mp h2).1
            simpa using this) h1 h2
          repeat walk_at "pv"
          refine ⟨?_, rfl⟩
          show PyData.bool true = .bool (sameL xs ys)
          rw [sameL_all hl hI2]
    | _ => (repeat walk_at "pv") <;> rfl
/-- at each level -/
theorem same_at {prog : List (Str × FnI)} {wh : Nat} (hp : prog.lookup ("_law_same" : Str) = some ⟨2, false, 3, g__law_same⟩) : ∀ k, SameAt (tabOf prog wh k) k
  | 0 => fun a e hd => absurd hd (Nat.not_lt_zero _)
  | k + 1 => fun a e hd ha he => by
    show (match prog.lookup ("_law_same" : Str) with | some i => fnRes i.n i.io i.tot i.body (tabOf prog wh k) [a, e] | none => .bad) = _
    rw [hp]
    exact same_step (same_at hp k) a e hd ha he
end Sh
end
section
set_option Elab.async false
set_option linter.all false
set_option maxRecDepth 100000
set_option maxHeartbeats 4000000
set_option autoImplicit false
namespace Sh
open PySem PySem.Spec PyProof.Rows L2 Pv
local macro_rules | `(tactic| walk_at "pv") => `(tactic| first | ((with_reducible apply S_env); focus (dsimp only [List.set_cons_zero, List.set_cons_succ]; first | done | exact rfl)) | ((with_reducible apply E_env); focus (dsimp only [List.set_cons_zero, List.set_cons_succ]; first | done | exact rfl)) | ((with_reducible apply P_some); focus (dsimp only [takes_cons, takes_nil, takeW_d, Option.bind_some, Option.map_some]; first | done | exact rfl)) | ((with_reducible apply O_some); focus (dsimp only [derefs_cons, derefs_nil, deref_d, Option.bind_some, Option.map_some]; first | done | exact rfl)) | with_reducible refine E_bin ?_ | with_reducible refine E_cmp ?_ | with_reducible refine E_chain ?_ | with_reducible refine E_tru ?_ | with_reducible refine E_ofT ?_ | with_reducible refine E_notT ?_ | with_reducible refine E_isN ?_ | with_reducible refine E_and ?_ | with_reducible refine E_or ?_ | with_reducible refine E_andT ?_ | with_reducible refine E_orT ?_ | with_reducible refine E_if ?_ | with_reducible refine E_nil ?_ | with_reducible refine E_cons ?_ | with_reducible refine E_call ?_ | with_reducible refine E_fz ?_ | with_reducible refine E_tup ?_ | with_reducible refine E_lst ?_ | with_reducible refine E_emptyD ?_ | with_reducible refine E_src ?_ | with_reducible refine E_range1 ?_ | with_reducible refine E_range2 ?_ | with_reducible refine E_isi ?_ | with_reducible refine E_listOf ?_ | with_reducible refine E_noP ?_ | with_reducible refine E_part ?_ | with_reducible refine E_sl ?_ | with_reducible refine E_rev ?_ | with_reducible refine E_neg ?_ | with_reducible refine E_lenSet ?_ | with_reducible refine E_tupRg1 ?_ | with_reducible refine E_tupRg2 ?_ | with_reducible refine E_callF ?_ | with_reducible refine E_callIo ?_ | with_reducible refine E_lit ?_ | with_reducible refine E_var ?_ | with_reducible refine E_meth ?_ | with_reducible refine E_repF ?_ | with_reducible refine E_lstRg1 ?_ | with_reducible refine E_yes ?_ | with_reducible refine E_sorted ?_ | with_reducible refine E_lenSetT ?_ | with_reducible refine E_index ?_ | with_reducible refine E_getLit ?_ | with_reducible refine E_enum ?_ | with_reducible refine E_zip ?_ | with_reducible refine E_join ?_ | with_reducible refine E_split ?_ | with_reducible refine E_fresh ?_ | with_reducible refine E_valK ?_ | with_reducible refine Src_dl ?_ | with_reducible refine Src_dt ?_ | with_reducible refine Io_sl ?_ | with_reducible refine L2_2 ?_ | with_reducible refine L3_3 ?_ | with_reducible refine S_parX ?_ | with_reducible refine S_seq ?_ | with_reducible refine S_skip ?_ | with_reducible refine S_break ?_ | with_reducible refine S_cont ?_ | with_reducible refine S_raise ?_ | with_reducible refine S_retN ?_ | with_reducible refine S_if ?_ | with_reducible refine S_drop ?_ | with_reducible refine S_ret ?_ | with_reducible refine S_set ?_ | with_reducible refine S_setO ?_ | with_reducible refine S_setG ?_ | with_reducible refine S_par2 ?_ | with_reducible refine S_par3 ?_ | with_reducible refine S_setIx ?_ | with_reducible refine S_aug ?_ | with_reducible refine S_augIx ?_ | with_reducible refine S_for ?_ | ((with_reducible apply V_val); focus exact rfl) | ((with_reducible apply V_own); focus exact rfl) | ((with_reducible apply V_scr); focus exact rfl) | ((with_reducible apply Own_own); focus exact rfl) | ((with_reducible apply O_some); focus exact rfl) | ((with_reducible apply B_some); focus exact rfl) | ((with_reducible apply P_some); focus exact rfl) | ((with_reducible apply ite_t); focus exact rfl) | ((with_reducible apply ite_f); focus exact rfl) | ((with_reducible apply O_some); focus (first | exact mul_ok (by decide) | exact mod_ok (by omega) | exact div_ok (by omega))) | ((with_reducible refine And.intro ?_ ?_); focus (first | exact rfl | decide | (simp only [List.length_cons, List.length_nil]; first | done | decide))))

def leafOk (B : Nat) : PyData → Prop
  | .none => True
  | .bool _ => True
  | .int i => i.natAbs ≤ B
  | .str x => x.length ≤ B ∧ (PyData.str x).canLay0 = true
  | _ => False
/-- no deeper than n; lengths, sizes of numbers at most B -/
def Sd (B : Nat) : Nat → PyData → Prop
  | 0, d => leafOk B d
  | n + 1, .tuple xs => xs.length ≤ B ∧ ∀ x ∈ xs, Sd B n x
  | n + 1, .list xs => xs.length ≤ B ∧ ∀ x ∈ xs, Sd B n x
  | _ + 1, d => leafOk B d
theorem Sd_tup {B n : Nat} {xs : List PyData} : Sd B (n + 1) (.tuple xs) ↔ xs.length ≤ B ∧ ∀ x ∈ xs, Sd B n x := by simp [Sd]
theorem Sd_lst {B n : Nat} {xs : List PyData} : Sd B (n + 1) (.list xs) ↔ xs.length ≤ B ∧ ∀ x ∈ xs, Sd B n x := by simp [Sd]
theorem Sd_leaf {B : Nat} {d : PyData} (h : leafOk B d) : ∀ n, Sd B n d
  | 0 => by simpa [Sd] using h
  | n + 1 => by cases d <;> first | simpa [Sd] using h | exact h.elim
theorem Sd_int {B n : Nat} {i : Int} : Sd B n (.int i) ↔ i.natAbs ≤ B := by
  constructor
  · intro h
    cases n <;> simpa [Sd, leafOk] using h
  · intro h
    exact Sd_leaf (d := .int i) h n
theorem Sd_str {B n : Nat} {x : Str} : Sd B n (.str x) ↔ x.length ≤ B ∧ (PyData.str x).canLay0 = true := by
  constructor
  · intro h
    cases n <;> simpa [Sd, leafOk] using h
  · intro h
    exact Sd_leaf (d := .str x) h n
theorem Sd_non {B n : Nat} : Sd B n .none := Sd_leaf (d := .none) trivial n
theorem Sd_bool {B n : Nat} {b : Bool} : Sd B n (.bool b) := Sd_leaf (d := .bool b) trivial n
theorem Sd_dict {B n : Nat} {l : List (PyData × PyData)} : ¬ Sd B n (.dict l) := by
  cases n <;> simp [Sd, leafOk]
theorem Sd_tup0 {B : Nat} {l : List PyData} : ¬ Sd B 0 (.tuple l) := by simp [Sd, leafOk]
theorem Sd_lst0 {B : Nat} {l : List PyData} : ¬ Sd B 0 (.list l) := by simp [Sd, leafOk]
theorem leafOk.mono {B B' : Nat} (h : B ≤ B') {d : PyData} (q : leafOk B d) : leafOk B' d := by
  cases d with
  | int i => exact Nat.le_trans q h
  | str x => exact ⟨Nat.le_trans q.1 h, q.2⟩
  | none => trivial
  | bool b => trivial
  | _ => exact q.elim
theorem Sd.mono {B B' : Nat} (h : B ≤ B') : ∀ {n n' : Nat} {d : PyData}, n ≤ n' → Sd B n d → Sd B' n' d
  | 0, n', d, _, q => Sd_leaf (leafOk.mono h (by simpa [Sd] using q)) n'
  | n + 1, 0, d, hn, q => absurd hn (by omega)
  | n + 1, n' + 1, d, hn, q => by
    cases d with
    | tuple xs =>
      rw [Sd_tup] at q ⊢
      exact ⟨Nat.le_trans q.1 h, fun x hx => Sd.mono h (by omega) (q.2 x hx)⟩
    | list xs =>
      rw [Sd_lst] at q ⊢
      exact ⟨Nat.le_trans q.1 h, fun x hx => Sd.mono h (by omega) (q.2 x hx)⟩
    | dict l => exact absurd q Sd_dict
    | none => exact Sd_non
    | bool b => exact Sd_bool
    | int i => exact Sd_int.mpr (Nat.le_trans (Sd_int.mp q) h)
    | str x => exact Sd_str.mpr ⟨Nat.le_trans (Sd_str.mp q).1 h, (Sd_str.mp q).2⟩
theorem depthAll_le {xs : List PyData} {n : Nat} (h : ∀ x ∈ xs, x.depth ≤ n) : PyData.depthAll xs ≤ n := by
  induction xs with
  | nil => simp [PyData.depthAll]
  | cons x xs ih =>
    simp only [PyData.depthAll]
    have h1 := h x List.mem_cons_self
    have h2 := ih fun y hy => h y (List.mem_cons_of_mem _ hy)
    omega
theorem Sd.depth {B : Nat} : ∀ {n : Nat} {d : PyData}, Sd B n d → d.depth ≤ n
  | 0, d, q => by cases d <;> simp [Sd, leafOk, PyData.depth] at q ⊢
  | n + 1, d, q => by
    cases d with
    | tuple xs =>
      rw [Sd_tup] at q
      have := depthAll_le fun x hx => Sd.depth (q.2 x hx)
      simp only [PyData.depth]
      omega
    | list xs =>
      rw [Sd_lst] at q
      have := depthAll_le fun x hx => Sd.depth (q.2 x hx)
      simp only [PyData.depth]
      omega
    | dict l => exact absurd q Sd_dict
    | _ => simp [PyData.depth]
theorem Sd.good {B : Nat} (hB : B ≤ LINE) : ∀ {n : Nat} {d : PyData}, Sd B n d → good d = true
  | n, .none, _ => rfl
  | n, .bool _, _ => rfl
  | n, .int _, _ => rfl
  | n, .str x, q => by
    have q := Sd_str.mp q
    simp only [Sh.good, Bool.and_eq_true, decide_eq_true_eq]
    exact ⟨q.2, Nat.le_trans q.1 hB⟩
  | n, .dict l, q => absurd q Sd_dict
  | 0, .tuple xs, q => absurd q Sd_tup0
  | 0, .list xs, q => absurd q Sd_lst0
  | n + 1, .tuple xs, q => by
    rw [Sd_tup] at q
    simp only [Sh.good, Bool.and_eq_true, decide_eq_true_eq]
    exact ⟨Nat.le_trans q.1 hB, goods_iff.mpr fun x hx => Sd.good hB (q.2 x hx)⟩
  | n + 1, .list xs, q => by
    rw [Sd_lst] at q
    simp only [Sh.good, Bool.and_eq_true, decide_eq_true_eq]
    exact ⟨Nat.le_trans q.1 hB, goods_iff.mpr fun x hx => Sd.good hB (q.2 x hx)⟩
theorem Sd.okD {B n : Nat} (hB : B ≤ LINE) (hn : n ≤ 64) {d : PyData} (h : Sd B n d) : okD d = true := okD_good (h.good hB) (Nat.le_trans h.depth hn)
theorem lay_str {x : Str} : (PyData.str x).canLay0 = true ↔ ∀ c ∈ x.cps.toList, c < 1114112 := by
  have e : (PyData.str x).canLay0 = x.cps.all fun c => decide (c < 1114112) := by
    simp [PyData.canLay0]
    rfl
  rw [e, ← Array.all_toList, List.all_eq_true]
  simp
theorem lay_app {x y : Str} (h1 : (PyData.str x).canLay0 = true) (h2 : (PyData.str y).canLay0 = true) : (PyData.str (x ++ y)).canLay0 = true := by
  rw [lay_str] at *
  intro c hc
  have e : (x ++ y).cps.toList = x.cps.toList ++ y.cps.toList := by
    show (x.cps ++ y.cps).toList = _
    rw [Array.toList_append]
  rw [e] at hc
  exact (List.mem_append.mp hc).elim (h1 c) (h2 c)
theorem len_app {x y : Str} : (x ++ y).length = x.length + y.length := by
  show (x.cps ++ y.cps).size = _
  rw [Array.size_append]
  rfl
theorem lay_cut {x : Str} {lo hi : Option Int} (h : (PyData.str x).canLay0 = true) : (PyData.str (cutS x lo hi)).canLay0 = true := by
  rw [lay_str] at *
  intro c hc
  unfold cutS at hc
  exact h c (List.mem_of_mem_drop (List.mem_of_mem_take (by simpa using hc)))
theorem lay_rev {x : Str} (h : (PyData.str x).canLay0 = true) : (PyData.str ⟨x.cps.toList.reverse.toArray⟩).canLay0 = true := by
  rw [lay_str] at *
  intro c hc
  exact h c (by simpa using hc)
theorem len_rev {x : Str} : (⟨x.cps.toList.reverse.toArray⟩ : Str).length = x.length := by
  show x.cps.toList.reverse.toArray.size = x.cps.size
  simp
theorem lay_of (s : String) : (PyData.str (Str.ofString s)).canLay0 = true := by
  rw [lay_str, Str.ofString_eq_toList]
  intro c hc
  have hc : c ∈ s.toList.map Char.toNat := by simpa using hc
  obtain ⟨a, _, rfl⟩ := List.mem_map.mp hc
  have := a.valid
  have h2 : a.toNat.isValidChar := this
  rcases h2 with h | ⟨_, h⟩ <;> omega
theorem sIx_nn {n d : Nat} {v : Int} (h : 0 ≤ v) : HT.sIx n d (some v) = min v.toNat n := by
  show (if v < 0 then (v + n).toNat else min v.toNat n) = _
  rw [if_neg (by omega)]
theorem cut_mem {ds : List PyData} {lo hi : Option Int} {x : PyData} (h : x ∈ cutD ds lo hi) : x ∈ ds := List.mem_of_mem_drop (List.mem_of_mem_take h)
theorem cut_len {ds : List PyData} {lo hi : Option Int} : (cutD ds lo hi).length ≤ ds.length := by
  unfold Pv.cutD
  rw [List.length_take, List.length_drop]
  omega
/-- ds[:k] -/
theorem cut_to {ds : List PyData} {k : Int} (h : 0 ≤ k) : cutD ds none (some k) = ds.take k.toNat := by
  unfold Pv.cutD
  rw [sIx_nn h]
  show (ds.drop 0).take (min k.toNat ds.length - 0) = _
  rw [List.drop_zero, Nat.sub_zero]
  by_cases hk : k.toNat ≤ ds.length
  · rw [Nat.min_eq_left hk]
  · rw [Nat.min_eq_right (by omega), List.take_length, List.take_of_length_le (by omega)]
/-- ds[k:] -/
theorem cut_from {ds : List PyData} {k : Int} (h : 0 ≤ k) : cutD ds (some k) none = ds.drop k.toNat := by
  unfold Pv.cutD
  rw [sIx_nn h]
  show (ds.drop (min k.toNat ds.length)).take (ds.length - min k.toNat ds.length) = _
  by_cases hk : k.toNat ≤ ds.length
  · rw [Nat.min_eq_left hk, List.take_of_length_le (by rw [List.length_drop]; omega)]
  · rw [Nat.min_eq_right (by omega), List.drop_length, List.drop_of_length_le (by omega)]
    simp
/-- ds[j:k] -/
theorem cut_mid {ds : List PyData} {j k : Int} (hj : 0 ≤ j) (hk : 0 ≤ k) : cutD ds (some j) (some k) = (ds.drop j.toNat).take (k.toNat - j.toNat) := by
  unfold Pv.cutD
  rw [sIx_nn hj, sIx_nn hk]
  by_cases h1 : j.toNat ≤ ds.length
  · rw [Nat.min_eq_left h1]
    by_cases h2 : k.toNat ≤ ds.length
    · rw [Nat.min_eq_left h2]
    · rw [Nat.min_eq_right (by omega), List.take_of_length_le (by rw [List.length_drop]; omega), List.take_of_length_le (by rw [List.length_drop]; omega)]
  · have hm : min j.toNat ds.length = ds.length := Nat.min_eq_right (by omega)
    rw [hm, List.drop_length, List.drop_of_length_le (by omega)]
    simp
theorem atI_mem {xs : List PyData} {v : Int} (h0 : 0 ≤ v) (h1 : v < xs.length) : ∃ x, L2.atI xs v = some x ∧ x ∈ xs ∧ xs[v.toNat]? = some x := by
  have hl : v.toNat < xs.length := by omega
  refine ⟨xs[v.toNat], ?_, List.getElem_mem hl, List.getElem?_eq_getElem hl⟩
  rw [atI_nn h0 h1, List.getElem?_eq_getElem hl]
theorem addT {a b : List PyData} (h : a.length + b.length ≤ LINE) : fAdd (.tuple a) (.tuple b) = some (.tuple (a ++ b)) := if_pos h
theorem addL {a b : List PyData} (h : a.length + b.length ≤ LINE) : fAdd (.list a) (.list b) = some (.list (a ++ b)) := if_pos h
theorem addS {a b : Str} (h : a.length + b.length ≤ LINE) : fAdd (.str a) (.str b) = some (.str (a ++ b)) := if_pos h
theorem slS {z : Str} {lo hi : Option Int} (h : z.length ≤ LINE) : fSl (.str z) lo hi = some (.str (cutS z lo hi)) := if_pos h
theorem revS {z : Str} (h : z.length ≤ LINE) : fRev (.str z) = some (.str ⟨z.cps.toList.reverse.toArray⟩) := if_pos h
theorem strI {i : Int} (h : i.natAbs < 10000000000) : fStr [.int i] = some (.str (toString i)) := if_pos h
theorem mulI2 {i : Int} : fMul (.int 2) (.int i) = some (.int (2 * i)) := by
  unfold fMul
  exact if_pos (Or.inl ⟨by decide, by decide⟩)
def NextAt (T : Tab) : Prop := ∀ (st : PyData) (n : Int), St st → 0 < n → n < 1073741824 → wF (T.fn "_law_next" [st, .int n]) (fun d io => ∃ v st', d = .int v ∧ 0 ≤ v ∧ v < n ∧ io = [st'] ∧ St st') (fun _ => False)
theorem next_at {prog : List (Str × FnI)} {wh : Nat} (hp : prog.lookup ("_law_next" : Str) = some ⟨2, true, 4, g__law_next⟩) (k : Nat) : NextAt (tabOf prog wh (k + 1)) := by
  intro st n h h0 h1
  show wF (match prog.lookup ("_law_next" : Str) with | some i => fnRes i.n i.io i.tot i.body (tabOf prog wh k) [st, .int n] | none => .bad) _ _
  rw [hp]
  exact next_ok _ h h0 h1
/-- a drawn number -/
theorem draw {T : Tab} (NX : NextAt T) {st : PyData} {n : Int} (h : St st) (h0 : 0 < n) (h1 : n < 1073741824) {Q : PyData → List PyData → Prop} (k : ∀ (v : Int) (st' : PyData), 0 ≤ v → v < n → St st' → Q (.int v) [st']) : wF (T.fn "_law_next" [st, .int n]) Q (fun _ => False) :=
  wF_mono (NX st n h h0 h1) (fun d io z => by
    obtain ⟨v, st', rfl, a, b, rfl, c⟩ := z
    exact k v st' a b c) fun _ z => z
end Sh
end
section
set_option Elab.async false
set_option linter.all false
set_option maxRecDepth 100000
set_option maxHeartbeats 1000000
set_option autoImplicit false
namespace Sh
open PySem PySem.Spec PyProof.Rows L2 Pv
local macro_rules | `(tactic| walk_at "pv") => `(tactic| first | ((with_reducible apply S_env); focus (dsimp only [List.set_cons_zero, List.set_cons_succ]; first | done | exact rfl)) | ((with_reducible apply E_env); focus (dsimp only [List.set_cons_zero, List.set_cons_succ]; first | done | exact rfl)) | ((with_reducible apply P_some); focus (dsimp only [takes_cons, takes_nil, takeW_d, Option.bind_some, Option.map_some]; first | done | exact rfl)) | ((with_reducible apply O_some); focus (dsimp only [derefs_cons, derefs_nil, deref_d, Option.bind_some, Option.map_some]; first | done | exact rfl)) | with_reducible refine E_bin ?_ | with_reducible refine E_cmp ?_ | with_reducible refine E_chain ?_ | with_reducible refine E_tru ?_ | with_reducible refine E_ofT ?_ | with_reducible refine E_notT ?_ | with_reducible refine E_isN ?_ | with_reducible refine E_and ?_ | with_reducible refine E_or ?_ | with_reducible refine E_andT ?_ | with_reducible refine E_orT ?_ | with_reducible refine E_if ?_ | with_reducible refine E_nil ?_ | with_reducible refine E_cons ?_ | with_reducible refine E_call ?_ | with_reducible refine E_fz ?_ | with_reducible refine E_tup ?_ | with_reducible refine E_lst ?_ | with_reducible refine E_emptyD ?_ | with_reducible refine E_src ?_ | with_reducible refine E_range1 ?_ | with_reducible refine E_range2 ?_ | with_reducible refine E_isi ?_ | with_reducible refine E_listOf ?_ | with_reducible refine E_noP ?_ | with_reducible refine E_part ?_ | with_reducible refine E_sl ?_ | with_reducible refine E_rev ?_ | with_reducible refine E_neg ?_ | with_reducible refine E_lenSet ?_ | with_reducible refine E_tupRg1 ?_ | with_reducible refine E_tupRg2 ?_ | with_reducible refine E_callF ?_ | with_reducible refine E_callIo ?_ | with_reducible refine E_lit ?_ | with_reducible refine E_var ?_ | with_reducible refine E_meth ?_ | with_reducible refine E_repF ?_ | with_reducible refine E_lstRg1 ?_ | with_reducible refine E_yes ?_ | with_reducible refine E_sorted ?_ | with_reducible refine E_lenSetT ?_ | with_reducible refine E_index ?_ | with_reducible refine E_getLit ?_ | with_reducible refine E_enum ?_ | with_reducible refine E_zip ?_ | with_reducible refine E_join ?_ | with_reducible refine E_split ?_ | with_reducible refine E_fresh ?_ | with_reducible refine E_valK ?_ | with_reducible refine Src_dl ?_ | with_reducible refine Src_dt ?_ | with_reducible refine Io_sl ?_ | with_reducible refine L2_2 ?_ | with_reducible refine L3_3 ?_ | with_reducible refine S_parX ?_ | with_reducible refine S_seq ?_ | with_reducible refine S_skip ?_ | with_reducible refine S_break ?_ | with_reducible refine S_cont ?_ | with_reducible refine S_raise ?_ | with_reducible refine S_retN ?_ | with_reducible refine S_if ?_ | with_reducible refine S_drop ?_ | with_reducible refine S_ret ?_ | with_reducible refine S_set ?_ | with_reducible refine S_setO ?_ | with_reducible refine S_setG ?_ | with_reducible refine S_par2 ?_ | with_reducible refine S_par3 ?_ | with_reducible refine S_setIx ?_ | with_reducible refine S_aug ?_ | with_reducible refine S_augIx ?_ | with_reducible refine S_for ?_ | ((with_reducible apply V_val); focus exact rfl) | ((with_reducible apply V_own); focus exact rfl) | ((with_reducible apply V_scr); focus exact rfl) | ((with_reducible apply Own_own); focus exact rfl) | ((with_reducible apply O_some); focus exact rfl) | ((with_reducible apply B_some); focus exact rfl) | ((with_reducible apply P_some); focus exact rfl) | ((with_reducible apply ite_t); focus exact rfl) | ((with_reducible apply ite_f); focus exact rfl) | ((with_reducible apply O_some); focus (first | exact mul_ok (by decide) | exact mod_ok (by omega) | exact div_ok (by omega))) | ((with_reducible refine And.intro ?_ ?_); focus (first | exact rfl | decide | (simp only [List.length_cons, List.length_nil]; first | done | decide))))

theorem pick {xs : List PyData} {v : Int} {P : PyData → Prop} (h0 : 0 ≤ v) (h1 : v < xs.length) (h : ∀ x ∈ xs, P x) : ∃ x, fIx (.list xs) (.int v) = some x ∧ P x := by
  obtain ⟨x, e, m, _⟩ := atI_mem h0 h1
  exact ⟨x, e, h x m⟩
end Sh
end
section
set_option Elab.async false
set_option linter.all false
set_option maxRecDepth 100000
set_option maxHeartbeats 1000000
set_option autoImplicit false
namespace Sh
open PySem PySem.Spec PyProof.Rows L2 Pv
local macro_rules | `(tactic| walk_at "pv") => `(tactic| first | ((with_reducible apply S_env); focus (dsimp only [List.set_cons_zero, List.set_cons_succ]; first | done | exact rfl)) | ((with_reducible apply E_env); focus (dsimp only [List.set_cons_zero, List.set_cons_succ]; first | done | exact rfl)) | ((with_reducible apply P_some); focus (dsimp only [takes_cons, takes_nil, takeW_d, Option.bind_some, Option.map_some]; first | done | exact rfl)) | ((with_reducible apply O_some); focus (dsimp only [derefs_cons, derefs_nil, deref_d, Option.bind_some, Option.map_some]; first | done | exact rfl)) | with_reducible refine E_bin ?_ | with_reducible refine E_cmp ?_ | with_reducible refine E_chain ?_ | with_reducible refine E_tru ?_ | with_reducible refine E_ofT ?_ | with_reducible refine E_notT ?_ | with_reducible refine E_isN ?_ | with_reducible refine E_and ?_ | with_reducible refine E_or ?_ | with_reducible refine E_andT ?_ | with_reducible refine E_orT ?_ | with_reducible refine E_if ?_ | with_reducible refine E_nil ?_ | with_reducible refine E_cons ?_ | with_reducible refine E_call ?_ | with_reducible refine E_fz ?_ | with_reducible refine E_tup ?_ | with_reducible refine E_lst ?_ | with_reducible refine E_emptyD ?_ | with_reducible refine E_src ?_ | with_reducible refine E_range1 ?_ | with_reducible refine E_range2 ?_ | with_reducible refine E_isi ?_ | with_reducible refine E_listOf ?_ | with_reducible refine E_noP ?_ | with_reducible refine E_part ?_ | with_reducible refine E_sl ?_ | with_reducible refine E_rev ?_ | with_reducible refine E_neg ?_ | with_reducible refine E_lenSet ?_ | with_reducible refine E_tupRg1 ?_ | with_reducible refine E_tupRg2 ?_ | with_reducible refine E_callF ?_ | with_reducible refine E_callIo ?_ | with_reducible refine E_lit ?_ | with_reducible refine E_var ?_ | with_reducible refine E_meth ?_ | with_reducible refine E_repF ?_ | with_reducible refine E_lstRg1 ?_ | with_reducible refine E_yes ?_ | with_reducible refine E_sorted ?_ | with_reducible refine E_lenSetT ?_ | with_reducible refine E_index ?_ | with_reducible refine E_getLit ?_ | with_reducible refine E_enum ?_ | with_reducible refine E_zip ?_ | with_reducible refine E_join ?_ | with_reducible refine E_split ?_ | with_reducible refine E_fresh ?_ | with_reducible refine E_valK ?_ | with_reducible refine Src_dl ?_ | with_reducible refine Src_dt ?_ | with_reducible refine Io_sl ?_ | with_reducible refine L2_2 ?_ | with_reducible refine L3_3 ?_ | with_reducible refine S_parX ?_ | with_reducible refine S_seq ?_ | with_reducible refine S_skip ?_ | with_reducible refine S_break ?_ | with_reducible refine S_cont ?_ | with_reducible refine S_raise ?_ | with_reducible refine S_retN ?_ | with_reducible refine S_if ?_ | with_reducible refine S_drop ?_ | with_reducible refine S_ret ?_ | with_reducible refine S_set ?_ | with_reducible refine S_setO ?_ | with_reducible refine S_setG ?_ | with_reducible refine S_par2 ?_ | with_reducible refine S_par3 ?_ | with_reducible refine S_setIx ?_ | with_reducible refine S_aug ?_ | with_reducible refine S_augIx ?_ | with_reducible refine S_for ?_ | ((with_reducible apply V_val); focus exact rfl) | ((with_reducible apply V_own); focus exact rfl) | ((with_reducible apply V_scr); focus exact rfl) | ((with_reducible apply Own_own); focus exact rfl) | ((with_reducible apply O_some); focus exact rfl) | ((with_reducible apply B_some); focus exact rfl) | ((with_reducible apply P_some); focus exact rfl) | ((with_reducible apply ite_t); focus exact rfl) | ((with_reducible apply ite_f); focus exact rfl) | ((with_reducible apply O_some); focus (first | exact mul_ok (by decide) | exact mod_ok (by omega) | exact div_ok (by omega))) | ((with_reducible refine And.intro ?_ ?_); focus (first | exact rfl | decide | (simp only [List.length_cons, List.length_nil]; first | done | decide))))

section
variable {T : Tab} {env : Pv.Env} {X : Str → Prop} {QL : List PyData → Pv.Env → Prop}
theorem lc_inv {src : Ix} {vs : List Nat} {tgt : Gx} {tst : Tx} {elt : Ex} {ds : List PyData} {e0 : Pv.Env} (I : Nat → List PyData → Pv.Env → Prop) (h1 : wE (src T env) (fun ds' e' => ds' = ds ∧ e' = e0) X) (h2 : plainAt e0 vs = true)
    (h3 : ∀ i d acc e, ds[i]? = some d → I i acc e → ∃ e1, tgt d e = some e1 ∧ wE (tst T e1) (fun k e2 => if k = true then wE (elt T e2) (fun w e3 => wP (takeW e3 w) fun x e4 => acc.length < LINE ∧ I (i + 1) (acc ++ [x]) (wipeE e4 vs)) (fun _ => False) else I (i + 1) acc (wipeE e2 vs)) (fun _ => False))
    (h0 : I 0 [] (wipeE e0 vs)) (hq : ∀ acc e, I ds.length acc e → QL acc (restore e0 vs e)) : wE (dLc src vs tgt tst elt T env) QL X := by
  unfold dLc dLcB
  rw [wE_bind]
  refine wE_mono h1 (fun ds' e' z => ?_) (fun c z => z)
  obtain ⟨rfl, rfl⟩ := z
  rw [if_pos h2]
  obtain ⟨acc', e2, ht, hQ⟩ := turn_inv (T := T) (vs := vs) (tgt := tgt) (tst := tst) (body := eltB T elt) (Q := fun acc e => QL acc (restore e' vs e)) I ds' (fun i d acc e hd hI => by
    obtain ⟨e1, t1, w1⟩ := h3 i d acc e hd hI
    refine ⟨e1, t1, wE_mono w1 (fun k e2 z => ?_) (fun c z => z)⟩
    cases k with
    | false => exact z
    | true =>
      rw [if_pos rfl] at z ⊢
      unfold eltB
      cases ee : elt T e2 with
      | ok w e3 =>
        rw [ee] at z
        have z : wP (takeW e3 w) fun x e4 => acc.length < LINE ∧ I (i + 1) (acc ++ [x]) (wipeE e4 vs) := z
        cases et : takeW e3 w with
        | none => rw [et] at z; exact z.elim
        | some p =>
          rw [et] at z
          have z : acc.length < LINE ∧ I (i + 1) (acc ++ [p.1]) (wipeE p.2 vs) := z
          dsimp only
          rw [et]
          dsimp only
          rw [if_pos z.1]
          exact z.2
      | exc _ _ => rw [ee] at z; exact z.elim
      | bad => rw [ee] at z; exact z.elim) hq h0
  rw [ht]
  exact hQ
end
theorem wF_det {r : FnRes} {P : PyData → Prop} (h : wF r (fun d io => io = [] ∧ P d) fun _ => False) : ∃ d, r = .ok d [] ∧ P d := by
  cases r with
  | ok d io =>
    obtain ⟨rfl, p⟩ := (show io = [] ∧ P d from h)
    exact ⟨d, rfl, p⟩
  | exc c => exact h.elim
  | bad => exact h.elim
def valOf : FnRes → PyData
  | .ok d _ => d
  | _ => .none
theorem okD_ints (ns : List Int) : okD (.list (ns.map .int)) = true := by
  have h1 : PyData.canLayAll0 (ns.map PyData.int) = true := by
    induction ns with
    | nil => rfl
    | cons a l ih => simpa [PyData.canLayAll0, PyData.canLay0] using ih
  have h2 : PyData.depthAll (ns.map PyData.int) ≤ 0 := depthAll_le fun x hx => by
    obtain ⟨y, _, rfl⟩ := List.mem_map.mp hx
    simp [PyData.depth]
  show ((PyData.list (ns.map .int)).canLay0 && decide ((PyData.list (ns.map .int)).depth ≤ 64)) = true
  rw [show (PyData.list (ns.map PyData.int)).canLay0 = true by simpa [PyData.canLay0] using h1, decide_eq_true (by simp only [PyData.depth]; omega)]
  rfl
theorem nodup_le : ∀ (N : Nat) (l : List Int), l.Nodup → (∀ x ∈ l, 0 ≤ x ∧ x < (N : Int)) → l.length ≤ N
  | 0, l, _, h => by
    cases l with
    | nil => simp
    | cons a l =>
      have := h a List.mem_cons_self
      omega
  | N + 1, l, nd, h => by
    by_cases hm : (N : Int) ∈ l
    · have h1 := nodup_le N (l.erase N) (nd.erase _) fun x hx => by
        have h2 := List.mem_of_mem_erase hx
        have h3 := h x h2
        have h4 : x ≠ (N : Int) := fun z => by
          subst z
          exact (nd.not_mem_erase) hx
        omega
      rw [List.length_erase_of_mem hm] at h1
      omega
    · exact Nat.le_succ_of_le (nodup_le N l nd fun x hx => by
        have h3 := h x hx
        have h4 : x ≠ (N : Int) := fun z => hm (by rw [← z]; exact hx)
        omega)
theorem nodup_len {B : Nat} {l : List Int} (nd : l.Nodup) (h : ∀ x ∈ l, x.natAbs ≤ B) : l.length ≤ 2 * B + 1 := by
  have h1 := nodup_le (2 * B + 1) (l.map (· + (B : Int))) (by
    refine List.Pairwise.map _ (fun a b hab z => hab (by omega)) nd) (fun x hx => by
    obtain ⟨y, hy, rfl⟩ := List.mem_map.mp hx
    have := h y hy
    omega)
  rwa [List.length_map] at h1
end Sh
end
section
set_option Elab.async false
set_option linter.all false
set_option maxRecDepth 100000
set_option maxHeartbeats 1000000
set_option autoImplicit false
namespace Sh
open PySem PySem.Spec PyProof.Rows L2 Pv
local macro_rules | `(tactic| walk_at "pv") => `(tactic| first | ((with_reducible apply S_env); focus (dsimp only [List.set_cons_zero, List.set_cons_succ]; first | done | exact rfl)) | ((with_reducible apply E_env); focus (dsimp only [List.set_cons_zero, List.set_cons_succ]; first | done | exact rfl)) | ((with_reducible apply P_some); focus (dsimp only [takes_cons, takes_nil, takeW_d, Option.bind_some, Option.map_some]; first | done | exact rfl)) | ((with_reducible apply O_some); focus (dsimp only [derefs_cons, derefs_nil, deref_d, Option.bind_some, Option.map_some]; first | done | exact rfl)) | with_reducible refine E_bin ?_ | with_reducible refine E_cmp ?_ | with_reducible refine E_chain ?_ | with_reducible refine E_tru ?_ | with_reducible refine E_ofT ?_ | with_reducible refine E_notT ?_ | with_reducible refine E_isN ?_ | with_reducible refine E_and ?_ | with_reducible refine E_or ?_ | with_reducible refine E_andT ?_ | with_reducible refine E_orT ?_ | with_reducible refine E_if ?_ | with_reducible refine E_nil ?_ | with_reducible refine E_cons ?_ | with_reducible refine E_call ?_ | with_reducible refine E_fz ?_ | with_reducible refine E_tup ?_ | with_reducible refine E_lst ?_ | with_reducible refine E_emptyD ?_ | with_reducible refine E_src ?_ | with_reducible refine E_range1 ?_ | with_reducible refine E_range2 ?_ | with_reducible refine E_isi ?_ | with_reducible refine E_listOf ?_ | with_reducible refine E_noP ?_ | with_reducible refine E_part ?_ | with_reducible refine E_sl ?_ | with_reducible refine E_rev ?_ | with_reducible refine E_neg ?_ | with_reducible refine E_lenSet ?_ | with_reducible refine E_tupRg1 ?_ | with_reducible refine E_tupRg2 ?_ | with_reducible refine E_callF ?_ | with_reducible refine E_callIo ?_ | with_reducible refine E_lit ?_ | with_reducible refine E_var ?_ | with_reducible refine E_meth ?_ | with_reducible refine E_repF ?_ | with_reducible refine E_lstRg1 ?_ | with_reducible refine E_yes ?_ | with_reducible refine E_sorted ?_ | with_reducible refine E_lenSetT ?_ | with_reducible refine E_index ?_ | with_reducible refine E_getLit ?_ | with_reducible refine E_enum ?_ | with_reducible refine E_zip ?_ | with_reducible refine E_join ?_ | with_reducible refine E_split ?_ | with_reducible refine E_fresh ?_ | with_reducible refine E_valK ?_ | with_reducible refine Src_dl ?_ | with_reducible refine Src_dt ?_ | with_reducible refine Io_sl ?_ | with_reducible refine L2_2 ?_ | with_reducible refine L3_3 ?_ | with_reducible refine S_parX ?_ | with_reducible refine S_seq ?_ | with_reducible refine S_skip ?_ | with_reducible refine S_break ?_ | with_reducible refine S_cont ?_ | with_reducible refine S_raise ?_ | with_reducible refine S_retN ?_ | with_reducible refine S_if ?_ | with_reducible refine S_drop ?_ | with_reducible refine S_ret ?_ | with_reducible refine S_set ?_ | with_reducible refine S_setO ?_ | with_reducible refine S_setG ?_ | with_reducible refine S_par2 ?_ | with_reducible refine S_par3 ?_ | with_reducible refine S_setIx ?_ | with_reducible refine S_aug ?_ | with_reducible refine S_augIx ?_ | with_reducible refine S_for ?_ | ((with_reducible apply V_val); focus exact rfl) | ((with_reducible apply V_own); focus exact rfl) | ((with_reducible apply V_scr); focus exact rfl) | ((with_reducible apply Own_own); focus exact rfl) | ((with_reducible apply O_some); focus exact rfl) | ((with_reducible apply B_some); focus exact rfl) | ((with_reducible apply P_some); focus exact rfl) | ((with_reducible apply ite_t); focus exact rfl) | ((with_reducible apply ite_f); focus exact rfl) | ((with_reducible apply O_some); focus (first | exact mul_ok (by decide) | exact mod_ok (by omega) | exact div_ok (by omega))) | ((with_reducible refine And.intro ?_ ?_); focus (first | exact rfl | decide | (simp only [List.length_cons, List.length_nil]; first | done | decide))))

def IntsQ (B : Nat) (d : PyData) : Prop := ∃ ns : List Int, d = .list (ns.map .int) ∧ ns.Nodup ∧ ∀ i ∈ ns, i.natAbs ≤ B
def IntsAt (T : Tab) (n : Nat) : Prop := ∀ (B : Nat) (v : PyData), B ≤ 1000000 → Sd B n v → ∃ d, T.fn "_law_ints" [v] = .ok d [] ∧ IntsQ B d
theorem inF {i : Int} {ns : List Int} : fIn true (.int i) (.list (ns.map .int)) = some (.bool (!((ns.map PyData.int).any fun z => PyData.eqv z (.int i)))) := by
  show (if _ ∧ _ then _ else _) = _
  rw [if_pos ⟨rfl, okD_ints ns⟩]
  rfl
theorem any_int {i : Int} {ns : List Int} : ((ns.map PyData.int).any fun z => PyData.eqv z (.int i)) = true ↔ i ∈ ns := by
  rw [List.any_map, List.any_eq_true]
  constructor
  · rintro ⟨x, hx, h⟩
    have : x = i := by simpa [PyData.eqv] using h
    rw [← this]; exact hx
  · intro h
    exact ⟨i, h, by simp [PyData.eqv]⟩
theorem ints_step {T : Tab} {n : Nat} (IH : ∀ m, m < n → IntsAt T m) {B : Nat} {v : PyData} (hB : B ≤ 1000000) (hv : Sd B n v) : ∃ d, r__law_ints T [v] = .ok d [] ∧ IntsQ B d := by
  refine wF_det (F_run [.val v, .un, .un, .un] rfl rfl ?_)
  unfold g__law_ints
  have hL : LINE = 16777216 := rfl
  cases v with
  | none =>
    repeat walk_at "pv"
    exact ⟨[], rfl, List.nodup_nil, fun _ h => by cases h⟩
  | bool b =>
    repeat walk_at "pv"
    exact ⟨[], rfl, List.nodup_nil, fun _ h => by cases h⟩
  | str b =>
    repeat walk_at "pv"
    exact ⟨[], rfl, List.nodup_nil, fun _ h => by cases h⟩
  | list b =>
    repeat walk_at "pv"
    exact ⟨[], rfl, List.nodup_nil, fun _ h => by cases h⟩
  | dict b => exact absurd hv Sd_dict
  | int i =>
    repeat walk_at "pv"
    exact ⟨[i], rfl, by simp, fun j h => by rw [List.mem_singleton.mp h]; exact Sd_int.mp hv⟩
  | tuple xs =>
    cases n with
    | zero => exact absurd hv Sd_tup0
    | succ n =>
    obtain ⟨hl, hx⟩ := Sd_tup.mp hv
    repeat walk_at "pv"
    refine for_inv (I := fun i e => ∃ (ns : List Int) (c : SV), e = [.val (.tuple xs), .val (.list (ns.map .int)), c, .un] ∧ ns.Nodup ∧ ∀ i ∈ ns, i.natAbs ≤ B) _ (fun i d e hd hI => ?_) (fun e hI => ?_) ⟨[], _, rfl, List.nodup_nil, fun _ h => by cases h⟩
    · obtain ⟨ns, c, rfl, nd, hb⟩ := hI
      refine ⟨[.val (.tuple xs), .val (.list (ns.map .int)), .val d, .un], rfl, ?_⟩
      obtain ⟨d', e1, ms, rfl, md, hm⟩ := IH n (Nat.lt_succ_self n) B d hB (hx d (List.mem_of_getElem? hd))
      have l1 := nodup_len nd hb
      have l2 := nodup_len md hm
      let p : PyData → Bool := fun z => !((ns.map PyData.int).any fun w => PyData.eqv w z)
      have key : ((ms.map PyData.int).filter p).map (fun x => x) = ((ms.filter fun m => p (.int m)).map PyData.int) := by
        rw [List.map_id', List.filter_map]
        rfl
      have hlen : (ms.filter fun m => p (.int m)).length ≤ ms.length := List.length_filter_le _ _
      repeat walk_at "pv"
      refine lc_pure (p := p) (f := fun x => x) (ds := ms.map .int) (e0 := [.val (.tuple xs), .val (.list (ns.map .int)), .val d, .un]) ?_ rfl (by rw [List.length_map]; omega) ?_ rfl ?_
      · repeat walk_at "pv"
        rw [e1]
        refine ⟨rfl, .inl rfl, ?_⟩
        repeat walk_at "pv"
        first | done | rfl
      · intro x hx2
        obtain ⟨m, hm2, rfl⟩ := List.mem_map.mp hx2
        refine ⟨[.val (.tuple xs), .val (.list (ns.map .int)), .val d, .val (.int m)], rfl, rfl, ?_, fun _ => ?_⟩
        · repeat walk_at "pv"
          refine B_some inF ?_
          exact ⟨rfl, rfl⟩
        · repeat walk_at "pv"
          first | done | rfl
      · rw [key]
        repeat walk_at "pv"
        refine O_some (addL (by rw [List.length_map, List.length_map]; omega)) ?_
        repeat walk_at "pv"
        refine ⟨ns ++ ms.filter fun m => p (.int m), .val d, ?_, ?_, ?_⟩
        · rw [List.map_append]; rfl
        · refine List.nodup_append.mpr ⟨nd, md.filter _, fun a ha b hb2 z => ?_⟩
          subst z
          have h3 := (List.mem_filter.mp hb2).2
          have h4 := any_int.mpr ha
          have h5 : (!((ns.map PyData.int).any fun w => PyData.eqv w (.int a))) = true := h3
          rw [h4] at h5
          cases h5
        · intro j hj
          rcases List.mem_append.mp hj with hj | hj
          · exact hb j hj
          · exact hm j (List.mem_filter.mp hj).1
    · obtain ⟨ns, c, rfl, nd, hb⟩ := hI
      repeat walk_at "pv"
      exact ⟨ns, rfl, nd, hb⟩
theorem ints_at {prog : List (Str × FnI)} {wh : Nat} (hp : prog.lookup ("_law_ints" : Str) = some ⟨1, false, 4, g__law_ints⟩) : ∀ k n, n < k → IntsAt (tabOf prog wh k) n
  | 0, n, hn => absurd hn (Nat.not_lt_zero _)
  | k + 1, n, hn => fun B v hB hv => by
    show ∃ d, (match prog.lookup ("_law_ints" : Str) with | some i => fnRes i.n i.io i.tot i.body (tabOf prog wh k) [v] | none => .bad) = _ ∧ _
    rw [hp]
    exact ints_step (fun m hm => ints_at hp k m (by omega)) hB hv
end Sh
end
section
set_option Elab.async false
set_option linter.all false
set_option maxRecDepth 100000
set_option maxHeartbeats 1000000
set_option autoImplicit false
namespace Sh
open PySem PySem.Spec PyProof.Rows L2 Pv
local macro_rules | `(tactic| walk_at "pv") => `(tactic| first | ((with_reducible apply S_env); focus (dsimp only [List.set_cons_zero, List.set_cons_succ]; first | done | exact rfl)) | ((with_reducible apply E_env); focus (dsimp only [List.set_cons_zero, List.set_cons_succ]; first | done | exact rfl)) | ((with_reducible apply P_some); focus (dsimp only [takes_cons, takes_nil, takeW_d, Option.bind_some, Option.map_some]; first | done | exact rfl)) | ((with_reducible apply O_some); focus (dsimp only [derefs_cons, derefs_nil, deref_d, Option.bind_some, Option.map_some]; first | done | exact rfl)) | with_reducible refine E_bin ?_ | with_reducible refine E_cmp ?_ | with_reducible refine E_chain ?_ | with_reducible refine E_tru ?_ | with_reducible refine E_ofT ?_ | with_reducible refine E_notT ?_ | with_reducible refine E_isN ?_ | with_reducible refine E_and ?_ | with_reducible refine E_or ?_ | with_reducible refine E_andT ?_ | with_reducible refine E_orT ?_ | with_reducible refine E_if ?_ | with_reducible refine E_nil ?_ | with_reducible refine E_cons ?_ | with_reducible refine E_call ?_ | with_reducible refine E_fz ?_ | with_reducible refine E_tup ?_ | with_reducible refine E_lst ?_ | with_reducible refine E_emptyD ?_ | with_reducible refine E_src ?_ | with_reducible refine E_range1 ?_ | with_reducible refine E_range2 ?_ | with_reducible refine E_isi ?_ | with_reducible refine E_listOf ?_ | with_reducible refine E_noP ?_ | with_reducible refine E_part ?_ | with_reducible refine E_sl ?_ | with_reducible refine E_rev ?_ | with_reducible refine E_neg ?_ | with_reducible refine E_lenSet ?_ | with_reducible refine E_tupRg1 ?_ | with_reducible refine E_tupRg2 ?_ | with_reducible refine E_callF ?_ | with_reducible refine E_callIo ?_ | with_reducible refine E_lit ?_ | with_reducible refine E_var ?_ | with_reducible refine E_meth ?_ | with_reducible refine E_repF ?_ | with_reducible refine E_lstRg1 ?_ | with_reducible refine E_yes ?_ | with_reducible refine E_sorted ?_ | with_reducible refine E_lenSetT ?_ | with_reducible refine E_index ?_ | with_reducible refine E_getLit ?_ | with_reducible refine E_enum ?_ | with_reducible refine E_zip ?_ | with_reducible refine E_join ?_ | with_reducible refine E_split ?_ | with_reducible refine E_fresh ?_ | with_reducible refine E_valK ?_ | with_reducible refine Src_dl ?_ | with_reducible refine Src_dt ?_ | with_reducible refine Io_sl ?_ | with_reducible refine L2_2 ?_ | with_reducible refine L3_3 ?_ | with_reducible refine S_parX ?_ | with_reducible refine S_seq ?_ | with_reducible refine S_skip ?_ | with_reducible refine S_break ?_ | with_reducible refine S_cont ?_ | with_reducible refine S_raise ?_ | with_reducible refine S_retN ?_ | with_reducible refine S_if ?_ | with_reducible refine S_drop ?_ | with_reducible refine S_ret ?_ | with_reducible refine S_set ?_ | with_reducible refine S_setO ?_ | with_reducible refine S_setG ?_ | with_reducible refine S_par2 ?_ | with_reducible refine S_par3 ?_ | with_reducible refine S_setIx ?_ | with_reducible refine S_aug ?_ | with_reducible refine S_augIx ?_ | with_reducible refine S_for ?_ | ((with_reducible apply V_val); focus exact rfl) | ((with_reducible apply V_own); focus exact rfl) | ((with_reducible apply V_scr); focus exact rfl) | ((with_reducible apply Own_own); focus exact rfl) | ((with_reducible apply O_some); focus exact rfl) | ((with_reducible apply B_some); focus exact rfl) | ((with_reducible apply P_some); focus exact rfl) | ((with_reducible apply ite_t); focus exact rfl) | ((with_reducible apply ite_f); focus exact rfl) | ((with_reducible apply O_some); focus (first | exact mul_ok (by decide) | exact mod_ok (by omega) | exact div_ok (by omega))) | ((with_reducible refine And.intro ?_ ?_); focus (first | exact rfl | decide | (simp only [List.length_cons, List.length_nil]; first | done | decide))))

mutual
def noS : PyData → Bool
  | .str _ => false
  | .tuple xs => noSs xs
  | _ => true
def noSs : List PyData → Bool
  | [] => true
  | x :: xs => noS x && noSs xs
end
theorem noSs_iff : ∀ {xs : List PyData}, noSs xs = true ↔ ∀ x ∈ xs, noS x = true
  | [] => by simp [noSs]
  | x :: xs => by simp only [noSs, Bool.and_eq_true, noSs_iff (xs := xs), List.mem_cons, forall_eq_or_imp]
def CutQ (v d : PyData) (io : List PyData) : Prop := d = v ∧ ∃ st', io = [st'] ∧ St st'
def CutAt (T : Tab) (n : Nat) : Prop := ∀ (B : Nat) (st v : PyData), B ≤ 1000000 → St st → Sd B n v → noS v = true → wF (T.fn "_law_cut" [st, v]) (CutQ v) (fun _ => False)
theorem eqv_nilT {xs : List PyData} : PyData.eqv (.tuple xs) (.tuple []) = xs.isEmpty := by cases xs <;> rfl
theorem eqv_nilL {xs : List PyData} : PyData.eqv (.list xs) (.list []) = xs.isEmpty := by cases xs <;> rfl
theorem together {xs : List PyData} {k : Int} {x : PyData} (h0 : 0 ≤ k) (h : xs[k.toNat]? = some x) : Pv.cutD xs none (some k) ++ [x] ++ Pv.cutD xs (some (k + 1)) none = xs := by
  rw [cut_to h0, cut_from (by omega)]
  have e : (k + 1).toNat = k.toNat + 1 := by omega
  rw [e, List.append_assoc]
  have hl := (List.getElem?_eq_some_iff.mp h)
  obtain ⟨h1, h2⟩ := hl
  have h3 := List.take_append_drop k.toNat xs
  rw [List.drop_eq_getElem_cons h1, h2] at h3
  exact h3
theorem cut_step {T : Tab} {n : Nat} (NX : NextAt T) (IH : ∀ m, m < n → CutAt T m) {B : Nat} {st v : PyData} (h60 : n ≤ 60) (hB : B ≤ 1000000) (hst : St st) (hv : Sd B n v) (hs : noS v = true) : wF (r__law_cut T [st, v]) (CutQ v) (fun _ => False) := by
  refine F_run [.own true st, .val v, .un, .un, .un, .un] rfl rfl ?_
  unfold g__law_cut
  have hL : LINE = 16777216 := rfl
  cases v with
  | none =>
    repeat walk_at "pv"
    exact ⟨rfl, st, rfl, hst⟩
  | bool b =>
    repeat walk_at "pv"
    exact ⟨rfl, st, rfl, hst⟩
  | str b => cases hs
  | int b =>
    repeat walk_at "pv"
    exact ⟨rfl, st, rfl, hst⟩
  | list b =>
    repeat walk_at "pv"
    exact ⟨rfl, st, rfl, hst⟩
  | dict b => exact absurd hv Sd_dict
  | tuple xs =>
    cases n with
    | zero => exact absurd hv Sd_tup0
    | succ n =>
    obtain ⟨hl, hx⟩ := Sd_tup.mp hv
    have hsx := noSs_iff.mp (show noSs xs = true by simpa [noS] using hs)
    have okx : okD (.tuple xs) = true := hv.okD (by omega) (by omega)
    have okl : okD (.list xs) = true := (Sd_lst.mpr ⟨hl, hx⟩ : Sd B (n + 1) (.list xs)).okD (by omega) (by omega)
    have ok0 : okD (.tuple []) = true := rfl
    have ok1 : okD (.list []) = true := rfl
    repeat walk_at "pv"
    refine B_some (fEq_ok okx ok0) ?_
    rw [eqv_nilT]
    by_cases hxs : xs = []
    · subst hxs
      repeat walk_at "pv"
      exact ⟨rfl, st, rfl, hst⟩
    · have he : xs.isEmpty = false := by
        cases xs with
        | nil => exact absurd rfl hxs
        | cons a l => rfl
      have hpos : 0 < xs.length := List.length_pos_iff.mpr hxs
      rw [he]
      repeat walk_at "pv"
      unfold t__law_cut_1
      have fl : ((xs.filter fun x => !(isA .str x)).map fun x => x) = xs := by
        rw [List.map_id', List.filter_eq_self]
        intro x hx2
        have := hsx x hx2
        cases x <;> first | rfl | cases this
      repeat walk_at "pv"
      refine lc_pure (p := fun x => !(isA .str x)) (f := fun x => x) (ds := xs) (e0 := [.own true st, .val (.tuple xs), .un, .un, .un, .un]) ?_ rfl (by omega) ?_ rfl ?_
      · repeat walk_at "pv"
        first | done | rfl
      · intro x hx2
        refine ⟨[.own true st, .val (.tuple xs), .val x, .un, .un, .un], rfl, rfl, ?_, fun _ => ?_⟩
        · repeat walk_at "pv"
          cases x <;> (repeat walk_at "pv") <;> first | done | rfl | exact ⟨rfl, rfl⟩
        · repeat walk_at "pv"
          first | done | rfl | exact ⟨rfl, rfl⟩
      · rw [fl]
        repeat walk_at "pv"
        refine B_some (fNe_ok okl ok1) ?_
        rw [eqv_nilL, he]
        repeat walk_at "pv"
        refine draw NX hst (by show (0 : Int) < (xs.length : Int); omega) (by show (xs.length : Int) < _; omega) ?_
        intro k st2 h2 h3 hst2
        refine ⟨_, rfl, ?_⟩
        have h3 : k < (xs.length : Int) := h3
        repeat walk_at "pv"
        obtain ⟨y, ey, hy, hy2⟩ := atI_mem h2 h3
        refine O_some (show fIx (.tuple xs) (.int k) = some y from ey) ?_
        repeat walk_at "pv"
        refine wF_mono (IH n (Nat.lt_succ_self n) B st2 y hB hst2 (hx y hy) (hsx y hy)) ?_ (fun _ z => z)
        rintro d io ⟨rfl, st3, rfl, hst3⟩
        refine ⟨_, rfl, ?_⟩
        have c1 := @cut_len xs none (some k)
        have c2 := @cut_len xs (some (k + 1)) none
        repeat (first | walk_at "pv" | refine O_some (addT (by (try simp only [List.length_append, List.length_cons, List.length_nil]); omega)) ?_)
        exact ⟨by rw [together h2 hy2], st3, rfl, hst3⟩
theorem cut_at {prog : List (Str × FnI)} {wh : Nat} (h1 : prog.lookup ("_law_next" : Str) = some ⟨2, true, 4, g__law_next⟩) (hp : prog.lookup ("_law_cut" : Str) = some ⟨2, true, 6, g__law_cut⟩) : ∀ k n, n < k → n ≤ 60 → CutAt (tabOf prog wh (k + 1)) n
  | 0, n, hn, _ => absurd hn (Nat.not_lt_zero _)
  | k + 1, n, hn, h60 => fun B st v hB hst hv hs => by
    show wF (match prog.lookup ("_law_cut" : Str) with | some i => fnRes i.n i.io i.tot i.body (tabOf prog wh (k + 1)) [st, v] | none => .bad) _ _
    rw [hp]
    exact cut_step (next_at h1 k) (fun m hm => cut_at h1 hp k m (by omega) (by omega)) h60 hB hst hv hs
end Sh
end
section
set_option Elab.async false
set_option linter.all false
set_option maxRecDepth 100000
set_option maxHeartbeats 1000000
set_option autoImplicit false
namespace Sh
open PySem PySem.Spec PyProof.Rows L2 Pv
local macro_rules | `(tactic| walk_at "pv") => `(tactic| first | ((with_reducible apply S_env); focus (dsimp only [List.set_cons_zero, List.set_cons_succ]; first | done | exact rfl)) | ((with_reducible apply E_env); focus (dsimp only [List.set_cons_zero, List.set_cons_succ]; first | done | exact rfl)) | ((with_reducible apply P_some); focus (dsimp only [takes_cons, takes_nil, takeW_d, Option.bind_some, Option.map_some]; first | done | exact rfl)) | ((with_reducible apply O_some); focus (dsimp only [derefs_cons, derefs_nil, deref_d, Option.bind_some, Option.map_some]; first | done | exact rfl)) | with_reducible refine E_bin ?_ | with_reducible refine E_cmp ?_ | with_reducible refine E_chain ?_ | with_reducible refine E_tru ?_ | with_reducible refine E_ofT ?_ | with_reducible refine E_notT ?_ | with_reducible refine E_isN ?_ | with_reducible refine E_and ?_ | with_reducible refine E_or ?_ | with_reducible refine E_andT ?_ | with_reducible refine E_orT ?_ | with_reducible refine E_if ?_ | with_reducible refine E_nil ?_ | with_reducible refine E_cons ?_ | with_reducible refine E_call ?_ | with_reducible refine E_fz ?_ | with_reducible refine E_tup ?_ | with_reducible refine E_lst ?_ | with_reducible refine E_emptyD ?_ | with_reducible refine E_src ?_ | with_reducible refine E_range1 ?_ | with_reducible refine E_range2 ?_ | with_reducible refine E_isi ?_ | with_reducible refine E_listOf ?_ | with_reducible refine E_noP ?_ | with_reducible refine E_part ?_ | with_reducible refine E_sl ?_ | with_reducible refine E_rev ?_ | with_reducible refine E_neg ?_ | with_reducible refine E_lenSet ?_ | with_reducible refine E_tupRg1 ?_ | with_reducible refine E_tupRg2 ?_ | with_reducible refine E_callF ?_ | with_reducible refine E_callIo ?_ | with_reducible refine E_lit ?_ | with_reducible refine E_var ?_ | with_reducible refine E_meth ?_ | with_reducible refine E_repF ?_ | with_reducible refine E_lstRg1 ?_ | with_reducible refine E_yes ?_ | with_reducible refine E_sorted ?_ | with_reducible refine E_lenSetT ?_ | with_reducible refine E_index ?_ | with_reducible refine E_getLit ?_ | with_reducible refine E_enum ?_ | with_reducible refine E_zip ?_ | with_reducible refine E_join ?_ | with_reducible refine E_split ?_ | with_reducible refine E_fresh ?_ | with_reducible refine E_valK ?_ | with_reducible refine Src_dl ?_ | with_reducible refine Src_dt ?_ | with_reducible refine Io_sl ?_ | with_reducible refine L2_2 ?_ | with_reducible refine L3_3 ?_ | with_reducible refine S_parX ?_ | with_reducible refine S_seq ?_ | with_reducible refine S_skip ?_ | with_reducible refine S_break ?_ | with_reducible refine S_cont ?_ | with_reducible refine S_raise ?_ | with_reducible refine S_retN ?_ | with_reducible refine S_if ?_ | with_reducible refine S_drop ?_ | with_reducible refine S_ret ?_ | with_reducible refine S_set ?_ | with_reducible refine S_setO ?_ | with_reducible refine S_setG ?_ | with_reducible refine S_par2 ?_ | with_reducible refine S_par3 ?_ | with_reducible refine S_setIx ?_ | with_reducible refine S_aug ?_ | with_reducible refine S_augIx ?_ | with_reducible refine S_for ?_ | ((with_reducible apply V_val); focus exact rfl) | ((with_reducible apply V_own); focus exact rfl) | ((with_reducible apply V_scr); focus exact rfl) | ((with_reducible apply Own_own); focus exact rfl) | ((with_reducible apply O_some); focus exact rfl) | ((with_reducible apply B_some); focus exact rfl) | ((with_reducible apply P_some); focus exact rfl) | ((with_reducible apply ite_t); focus exact rfl) | ((with_reducible apply ite_f); focus exact rfl) | ((with_reducible apply O_some); focus (first | exact mul_ok (by decide) | exact mod_ok (by omega) | exact div_ok (by omega))) | ((with_reducible refine And.intro ?_ ?_); focus (first | exact rfl | decide | (simp only [List.length_cons, List.length_nil]; first | done | decide))))

/-- a told thing: a word and what has no texts -/
structure Told (B n : Nat) (xs : List PyData) : Prop where
  ne : 0 < xs.length
  sd : Sd B n (.tuple xs)
  ns : ∀ x ∈ xs.drop 1, noS x = true
theorem swap_len {xs : List PyData} {k j : Int} (h0 : 0 ≤ k) (h1 : 0 ≤ j) (hk : k < xs.length) : (Pv.cutD xs none (some k) ++ Pv.cutD xs (some j) (some (j + 1)) ++ Pv.cutD xs (some (k + 1)) none).length ≤ xs.length := by
  rw [cut_to h0, cut_from (by omega), cut_mid h1 (by omega)]
  simp only [List.length_append, List.length_take, List.length_drop]
  omega
theorem swap_mem {xs : List PyData} {k j : Int} {y : PyData} (h : y ∈ Pv.cutD xs none (some k) ++ Pv.cutD xs (some j) (some (j + 1)) ++ Pv.cutD xs (some (k + 1)) none) : y ∈ xs := by
  rcases List.mem_append.mp h with h | h
  · rcases List.mem_append.mp h with h | h <;> exact cut_mem h
  · exact cut_mem h
/-- what is asked -/
def Asked (B n : Nat) (d : PyData) : Prop := Sd B n d ∨ d = .dict []
end Sh
end
section
set_option Elab.async false
set_option linter.all false
set_option maxRecDepth 100000
set_option maxHeartbeats 1000000
set_option autoImplicit false
namespace Sh
open PySem PySem.Spec PyProof.Rows L2 Pv
local macro_rules | `(tactic| walk_at "pv") => `(tactic| first | ((with_reducible apply S_env); focus (dsimp only [List.set_cons_zero, List.set_cons_succ]; first | done | exact rfl)) | ((with_reducible apply E_env); focus (dsimp only [List.set_cons_zero, List.set_cons_succ]; first | done | exact rfl)) | ((with_reducible apply P_some); focus (dsimp only [takes_cons, takes_nil, takeW_d, Option.bind_some, Option.map_some]; first | done | exact rfl)) | ((with_reducible apply O_some); focus (dsimp only [derefs_cons, derefs_nil, deref_d, Option.bind_some, Option.map_some]; first | done | exact rfl)) | with_reducible refine E_bin ?_ | with_reducible refine E_cmp ?_ | with_reducible refine E_chain ?_ | with_reducible refine E_tru ?_ | with_reducible refine E_ofT ?_ | with_reducible refine E_notT ?_ | with_reducible refine E_isN ?_ | with_reducible refine E_and ?_ | with_reducible refine E_or ?_ | with_reducible refine E_andT ?_ | with_reducible refine E_orT ?_ | with_reducible refine E_if ?_ | with_reducible refine E_nil ?_ | with_reducible refine E_cons ?_ | with_reducible refine E_call ?_ | with_reducible refine E_fz ?_ | with_reducible refine E_tup ?_ | with_reducible refine E_lst ?_ | with_reducible refine E_emptyD ?_ | with_reducible refine E_src ?_ | with_reducible refine E_range1 ?_ | with_reducible refine E_range2 ?_ | with_reducible refine E_isi ?_ | with_reducible refine E_listOf ?_ | with_reducible refine E_noP ?_ | with_reducible refine E_part ?_ | with_reducible refine E_sl ?_ | with_reducible refine E_rev ?_ | with_reducible refine E_neg ?_ | with_reducible refine E_lenSet ?_ | with_reducible refine E_tupRg1 ?_ | with_reducible refine E_tupRg2 ?_ | with_reducible refine E_callF ?_ | with_reducible refine E_callIo ?_ | with_reducible refine E_lit ?_ | with_reducible refine E_var ?_ | with_reducible refine E_meth ?_ | with_reducible refine E_repF ?_ | with_reducible refine E_lstRg1 ?_ | with_reducible refine E_yes ?_ | with_reducible refine E_sorted ?_ | with_reducible refine E_lenSetT ?_ | with_reducible refine E_index ?_ | with_reducible refine E_getLit ?_ | with_reducible refine E_enum ?_ | with_reducible refine E_zip ?_ | with_reducible refine E_join ?_ | with_reducible refine E_split ?_ | with_reducible refine E_fresh ?_ | with_reducible refine E_valK ?_ | with_reducible refine Src_dl ?_ | with_reducible refine Src_dt ?_ | with_reducible refine Io_sl ?_ | with_reducible refine L2_2 ?_ | with_reducible refine L3_3 ?_ | with_reducible refine S_parX ?_ | with_reducible refine S_seq ?_ | with_reducible refine S_skip ?_ | with_reducible refine S_break ?_ | with_reducible refine S_cont ?_ | with_reducible refine S_raise ?_ | with_reducible refine S_retN ?_ | with_reducible refine S_if ?_ | with_reducible refine S_drop ?_ | with_reducible refine S_ret ?_ | with_reducible refine S_set ?_ | with_reducible refine S_setO ?_ | with_reducible refine S_setG ?_ | with_reducible refine S_par2 ?_ | with_reducible refine S_par3 ?_ | with_reducible refine S_setIx ?_ | with_reducible refine S_aug ?_ | with_reducible refine S_augIx ?_ | with_reducible refine S_for ?_ | ((with_reducible apply V_val); focus exact rfl) | ((with_reducible apply V_own); focus exact rfl) | ((with_reducible apply V_scr); focus exact rfl) | ((with_reducible apply Own_own); focus exact rfl) | ((with_reducible apply O_some); focus exact rfl) | ((with_reducible apply B_some); focus exact rfl) | ((with_reducible apply P_some); focus exact rfl) | ((with_reducible apply ite_t); focus exact rfl) | ((with_reducible apply ite_f); focus exact rfl) | ((with_reducible apply O_some); focus (first | exact mul_ok (by decide) | exact mod_ok (by omega) | exact div_ok (by omega))) | ((with_reducible refine And.intro ?_ ?_); focus (first | exact rfl | decide | (simp only [List.length_cons, List.length_nil]; first | done | decide))))

def wholeB : PyData → Bool
  | .int _ => true
  | _ => false
theorem whole_ok (T : Tab) (d : PyData) : r_is_whole T [d] = .ok (.bool (wholeB d)) [] := by
  refine wF_eq (F_run [.val d] rfl rfl ?_)
  unfold g_is_whole
  repeat walk_at "pv"
  cases d <;> (repeat walk_at "pv") <;> first | done | rfl | exact ⟨rfl, rfl⟩
def WholeAt (T : Tab) : Prop := ∀ d, T.fn "is_whole" [d] = .ok (.bool (wholeB d)) []
theorem whole_at {prog : List (Str × FnI)} {wh : Nat} (hp : prog.lookup ("is_whole" : Str) = some ⟨1, false, 1, g_is_whole⟩) (k : Nat) : WholeAt (tabOf prog wh (k + 1)) := fun d => by
  show (match prog.lookup ("is_whole" : Str) with | some i => fnRes i.n i.io i.tot i.body (tabOf prog wh k) [d] | none => .bad) = _
  rw [hp]
  exact whole_ok _ d
def toldB (w : Str) (c : Nat) : PyData → Bool
  | .tuple (.str s :: r) => decide (r.length + 1 = c) && (s == w)
  | _ => false
theorem Asked.cases' {B n : Nat} {d : PyData} (h : Asked B n d) : Gd d ∨ B > LINE := by
  by_cases hB : B ≤ LINE
  · exact .inl (h.elim (fun s => .inl (s.good hB)) fun z => .inr ⟨[], z⟩)
  · exact .inr (by omega)
theorem told_ok (T : Tab) {B n : Nat} {d : PyData} {w : Str} {c : Nat} (hB : B ≤ 1000000) (hn : n ≤ 60) (hd : Asked B n d) (hw : okD (.str w) = true) (hc : 0 < c) : r_is_told T [d, .str w, .int (c : Int)] = .ok (.bool (toldB w c d)) [] := by
  refine wF_eq (F_run [.val d, .val (.str w), .val (.int (c : Int))] rfl rfl ?_)
  unfold g_is_told
  have hL : LINE = 16777216 := rfl
  cases d with
  | tuple xs =>
    repeat walk_at "pv"
    refine ite_k (fun hk => ?_) fun hk => ?_
    · have hne : xs.length ≠ c := by
        intro z
        simp [PyData.eqv] at hk
        omega
      repeat walk_at "pv"
      have e : toldB w c (.tuple xs) = false := by
        cases xs with
        | nil => rfl
        | cons a r =>
          cases a <;> first | rfl | skip
          show (decide (r.length + 1 = c) && _) = false
          rw [decide_eq_false (by simpa using hne), Bool.false_and]
      rw [e]
      exact ⟨rfl, rfl⟩
    · have he : xs.length = c := by
        simp [PyData.eqv] at hk
        omega
      cases xs with
      | nil => simp at he; omega
      | cons a r =>
        have sd : Sd B n (.tuple (a :: r)) := hd.elim id fun z => by cases z
        cases n with
        | zero => exact absurd sd Sd_tup0
        | succ n =>
        have ha := (Sd_tup.mp sd).2 a List.mem_cons_self
        have oka : okD a = true := ha.okD (by omega) (by omega)
        have e0 : fIx (.tuple (a :: r)) (.int 0) = some a := atI_at (i := 0) rfl
        repeat (first | walk_at "pv" | refine O_some e0 ?_)
        cases a with
        | str s =>
          repeat (first | walk_at "pv" | refine O_some e0 ?_ | refine B_some (fEq_ok oka hw) ?_)
          refine ⟨?_, rfl⟩
          show PyData.bool (s == w) = .bool (decide (r.length + 1 = c) && (s == w))
          rw [decide_eq_true (by simpa using he), Bool.true_and]
        | _ => (repeat walk_at "pv") <;> first | done | rfl | exact ⟨rfl, rfl⟩
  | _ => (repeat walk_at "pv") <;> first | done | rfl | exact ⟨rfl, rfl⟩
def wholesB (c : Nat) : PyData → Bool
  | .tuple xs => decide (xs.length = c) && xs.all wholeB
  | _ => false
theorem okD_bools (bs : List Bool) : okD (.list (bs.map .bool)) = true := by
  have h1 : PyData.canLayAll0 (bs.map PyData.bool) = true := by
    induction bs with
    | nil => rfl
    | cons a l ih => simpa [PyData.canLayAll0, PyData.canLay0] using ih
  have h2 : PyData.depthAll (bs.map PyData.bool) ≤ 0 := depthAll_le fun x hx => by
    obtain ⟨y, _, rfl⟩ := List.mem_map.mp hx
    simp [PyData.depth]
  show ((PyData.list (bs.map .bool)).canLay0 && decide ((PyData.list (bs.map .bool)).depth ≤ 64)) = true
  rw [show (PyData.list (bs.map PyData.bool)).canLay0 = true by simpa [PyData.canLay0] using h1, decide_eq_true (by simp only [PyData.depth]; omega)]
  rfl
theorem any_bool {b : Bool} {bs : List Bool} : ((bs.map PyData.bool).any fun z => PyData.eqv z (.bool b)) = bs.any fun z => z == b := by
  rw [List.any_map]
  rfl
/-- b in a row of bools, b not in it -/
theorem inBool {neg b : Bool} {bs : List Bool} : fIn neg (.bool b) (.list (bs.map .bool)) = some (.bool (if neg then !(bs.any fun z => z == b) else bs.any fun z => z == b)) := by
  show (if _ ∧ _ then _ else _) = _
  rw [if_pos ⟨rfl, okD_bools bs⟩, any_bool]
theorem wholes_ok {T : Tab} (WH : WholeAt T) {d : PyData} {c : Nat} (hd : ∀ xs, d = .tuple xs → xs.length ≤ 1000000) : r_are_wholes T [d, .int (c : Int)] = .ok (.bool (wholesB c d)) [] := by
  refine wF_eq (F_run [.val d, .val (.int (c : Int)), .un] rfl rfl ?_)
  unfold g_are_wholes
  have hL : LINE = 16777216 := rfl
  cases d with
  | tuple xs =>
    have hxl := hd xs rfl
    repeat walk_at "pv"
    refine ite_k (fun hk => ?_) fun hk => ?_
    · have he : xs.length = c := by
        simp [PyData.eqv] at hk
        omega
      repeat walk_at "pv"
      refine lc_pure (p := fun _ => true) (f := fun x => .bool (wholeB x)) (ds := xs) (e0 := [.val (.tuple xs), .val (.int (c : Int)), .un]) ?_ rfl (by omega) ?_ rfl ?_
      · repeat walk_at "pv"
        first | done | rfl
      · intro x hx2
        refine ⟨[.val (.tuple xs), .val (.int (c : Int)), .val x], rfl, rfl, ⟨rfl, rfl⟩, fun _ => ?_⟩
        repeat walk_at "pv"
        rw [WH x]
        exact ⟨rfl, .inl rfl, rfl, rfl⟩
      · have e0 : ((xs.filter fun _ => true).map fun x => PyData.bool (wholeB x)) = (xs.map wholeB).map .bool := by
          rw [List.filter_eq_self.mpr fun _ _ => rfl, List.map_map]
          rfl
        rw [e0]
        repeat walk_at "pv"
        refine B_some inBool ?_
        repeat walk_at "pv"
        refine ⟨?_, rfl⟩
        show PyData.bool (!((xs.map wholeB).any fun z => z == false)) = .bool (decide (xs.length = c) && xs.all wholeB)
        rw [decide_eq_true he, Bool.true_and]
        congr 1
        clear hk e0 hxl he hd
        induction xs with
        | nil => rfl
        | cons a l ih =>
          rw [List.map_cons, List.any_cons, List.all_cons, ← ih]
          cases wholeB a <;> simp
    · have hne : xs.length ≠ c := by
        intro z
        simp [PyData.eqv] at hk
        omega
      repeat walk_at "pv"
      have e3 : PyData.eqv (.int (xs.length : Int)) (.int (c : Int)) = false := hk
      rw [e3]
      refine ⟨?_, rfl⟩
      show PyData.bool false = .bool (decide (xs.length = c) && xs.all wholeB)
      rw [decide_eq_false hne, Bool.false_and]
  | _ => (repeat walk_at "pv") <;> first | done | rfl | exact ⟨rfl, rfl⟩
abbrev intsT (ns : List Int) : PyData := .tuple (ns.map .int)
def NbQ (B m : Nat) (d : PyData) (io : List PyData) : Prop := ∃ st' ms, io = [st'] ∧ St st' ∧ d = intsT ms ∧ ms.length ≤ m ∧ ∀ i ∈ ms, i.natAbs ≤ B + 1
theorem nb_int {T : Tab} (NX : NextAt T) {st : PyData} (hst : St st) (i : Int) : wF (r__law_neighbour T [st, .int i]) (fun d io => ∃ st' j, io = [st'] ∧ St st' ∧ d = .int j ∧ j.natAbs ≤ i.natAbs + 1) (fun _ => False) := by
  refine F_run [.own true st, .val (.int i), .un, .un] rfl rfl ?_
  unfold g__law_neighbour t__law_neighbour_1 t__law_neighbour_2
  repeat walk_at "pv"
  refine draw NX hst (by decide) (by decide) ?_
  intro w st1 h0 h1 hst1
  refine ⟨_, rfl, ?_⟩
  repeat walk_at "pv"
  obtain ⟨x, e, s, rfl, hs⟩ := pick (xs := [PyData.int 1, PyData.int (-1)]) (P := fun x => ∃ s : Int, x = .int s ∧ s.natAbs ≤ 1) h0 (by simpa using h1) (by
    intro x hx
    simp only [List.mem_cons, List.not_mem_nil, or_false] at hx
    rcases hx with rfl | rfl
    · exact ⟨1, rfl, by decide⟩
    · exact ⟨-1, rfl, by decide⟩)
  refine O_some e ?_
  repeat walk_at "pv"
  exact ⟨st1, i + s, rfl, hst1, rfl, by omega⟩
theorem ints_okD {ns : List Int} : okD (intsT ns) = true := by
  have h1 : PyData.canLayAll0 (ns.map PyData.int) = true := by
    induction ns with
    | nil => rfl
    | cons a l ih => simpa [PyData.canLayAll0, PyData.canLay0] using ih
  have h2 : PyData.depthAll (ns.map PyData.int) ≤ 0 := depthAll_le fun x hx => by
    obtain ⟨y, _, rfl⟩ := List.mem_map.mp hx
    simp [PyData.depth]
  show ((intsT ns).canLay0 && decide ((intsT ns).depth ≤ 64)) = true
  rw [show (intsT ns).canLay0 = true by simpa [PyData.canLay0] using h1, decide_eq_true (by simp only [PyData.depth]; omega)]
  rfl
theorem nb_row {T : Tab} (NX : NextAt T) (NB : ∀ (st : PyData) (i : Int), St st → wF (T.fn "_law_neighbour" [st, .int i]) (fun d io => ∃ st' j, io = [st'] ∧ St st' ∧ d = .int j ∧ j.natAbs ≤ i.natAbs + 1) (fun _ => False)) {B : Nat} {st : PyData} (hst : St st) {ns : List Int} (hl : ns.length ≤ 1000000) (hb : ∀ i ∈ ns, i.natAbs ≤ B) : wF (r__law_neighbour T [st, intsT ns]) (NbQ B ns.length) (fun _ => False) := by
  refine F_run [.own true st, .val (intsT ns), .un, .un] rfl rfl ?_
  have hL : LINE = 16777216 := rfl
  unfold g__law_neighbour t__law_neighbour_1 t__law_neighbour_2 t__law_neighbour_3
  repeat walk_at "pv"
  refine draw NX hst (by decide) (by decide) ?_
  intro w st1 h0 h1 hst1
  refine ⟨_, rfl, ?_⟩
  repeat walk_at "pv"
  obtain ⟨x, e, s, rfl, hs⟩ := pick (xs := [PyData.int 1, PyData.int (-1)]) (P := fun x => ∃ s : Int, x = .int s ∧ s.natAbs ≤ 1) h0 (by simpa using h1) (by
    intro x hx
    simp only [List.mem_cons, List.not_mem_nil, or_false] at hx
    rcases hx with rfl | rfl
    · exact ⟨1, rfl, by decide⟩
    · exact ⟨-1, rfl, by decide⟩)
  refine O_some e ?_
  repeat walk_at "pv"
  refine B_some (fEq_ok ints_okD rfl) ?_
  rw [eqv_nilT]
  cases ns with
  | nil =>
    repeat walk_at "pv"
    exact ⟨st1, [], rfl, hst1, rfl, Nat.le_refl _, fun _ h => by cases h⟩
  | cons a r =>
    have gl : ((a :: r).map PyData.int).length = r.length + 1 := by simp
    have e0 : fIx (intsT (a :: r)) (.int 0) = some (.int a) := atI_at (i := 0) rfl
    have okr : ∀ {n : Nat}, n ≤ r.length + 1 → (n : Int) < 1073741824 := fun h => by simp at hl; omega
    simp only [List.length_cons] at hl
    repeat walk_at "pv"
    unfold t__law_neighbour_4 t__law_neighbour_5 t__law_neighbour_6
    repeat (first | walk_at "pv" | refine O_some e0 ?_)
    refine draw NX hst1 (by rw [gl]; omega) (by rw [gl]; exact okr (Nat.le_refl _)) ?_
    intro k st2 k0 k1 hst2
    have k1 : k < (r.length : Int) + 1 := by rw [gl] at k1; omega
    refine ⟨_, rfl, ?_⟩
    repeat walk_at "pv"
    refine draw NX hst2 (by decide) (by decide) ?_
    intro q st3 q0 q1 hst3
    refine ⟨_, rfl, ?_⟩
    have mem : ∀ (lo hi : Option Int) (i : Int), i ∈ (((a :: r).drop (HT.sIx (a :: r).length 0 lo)).take (HT.sIx (a :: r).length (a :: r).length hi - HT.sIx (a :: r).length 0 lo)) → i.natAbs ≤ B := fun lo hi i h => hb i (List.mem_of_mem_drop (List.mem_of_mem_take h))
    have c1 := @cut_len ((a :: r).map PyData.int) none (some k)
    have c2 := @cut_len ((a :: r).map PyData.int) (some (k + 1)) none
    -- one taken out
    have whole : wS (t__law_neighbour_7 T [.own true st3, .val (intsT (a :: r)), .val (.int s), .val (.int k)])
        (fun e => wO (ioOut true e) fun l => NbQ B (r.length + 1) .none l) (fun d e => wO (ioOut true e) fun l => NbQ B (r.length + 1) d l) (fun c => true = false ∧ False) (fun _ => False) (fun _ => False) := by
      unfold t__law_neighbour_7
      have hk : k.toNat < (a :: r).length := by simp only [List.length_cons]; omega
      have e1 : fIx (intsT (a :: r)) (.int k) = some (.int ((a :: r)[k.toNat])) := by
        show L2.atI _ k = _
        rw [atI_nn k0 (by rw [gl]; omega), List.getElem?_map, List.getElem?_eq_getElem hk]
        rfl
      repeat walk_at "pv"
      refine O_some e1 ?_
      repeat walk_at "pv"
      refine wF_mono (NB st3 _ hst3) ?_ (fun _ z => z)
      rintro d io ⟨st4, j, rfl, hst4, rfl, hj⟩
      refine ⟨_, rfl, ?_⟩
      repeat (first | walk_at "pv" | refine O_some (addT (by (try simp only [List.length_append, List.length_cons, List.length_nil]); omega)) ?_)
      have hge := hb _ (List.getElem_mem hk)
      have ek : (k + 1).toNat = k.toNat + 1 := by omega
      refine ⟨st4, (a :: r).take k.toNat ++ [j] ++ (a :: r).drop (k.toNat + 1), rfl, hst4, ?_, ?_, fun i hi => ?_⟩
      · rw [cut_to k0, cut_from (by omega), ek]
        show PyData.tuple _ = PyData.tuple (List.map PyData.int _)
        rw [List.map_append, List.map_append, List.map_take, List.map_drop]
        rfl
      · simp only [List.length_append, List.length_take, List.length_drop, List.length_cons, List.length_nil]
        omega
      · rcases List.mem_append.mp hi with hi | hi
        · rcases List.mem_append.mp hi with hi | hi
          · have := hb i (List.mem_of_mem_take hi)
            omega
          · rw [List.mem_singleton.mp hi]
            omega
        · have := hb i (List.mem_of_mem_drop hi)
          omega
    repeat walk_at "pv"
    refine ite_k (fun hk => ?_) fun hk => ?_
    · repeat walk_at "pv"
      refine ite_k (fun hk2 => ?_) fun hk2 => ?_
      · repeat (first | walk_at "pv" | refine O_some (addT (by (try simp only [List.length_append, List.length_cons, List.length_nil]); omega)) ?_)
        have ek : (k + 1).toNat = k.toNat + 1 := by omega
        refine ⟨st3, (a :: r).take k.toNat ++ (a :: r).drop (k.toNat + 1), rfl, hst3, ?_, ?_, fun i hi => ?_⟩
        · rw [cut_to k0, cut_from (by omega), ek]
          show PyData.tuple _ = PyData.tuple (List.map PyData.int _)
          rw [List.map_append, List.map_take, List.map_drop]
        · simp only [List.length_append, List.length_take, List.length_drop, List.length_cons]
          omega
        · rcases List.mem_append.mp hi with hi | hi
          · have := hb i (List.mem_of_mem_take hi)
            omega
          · have := hb i (List.mem_of_mem_drop hi)
            omega
      · repeat walk_at "pv"
        exact whole
    · repeat walk_at "pv"
      exact whole
end Sh
end
section
set_option Elab.async false
set_option linter.all false
set_option maxRecDepth 100000
set_option maxHeartbeats 1000000
set_option autoImplicit false
namespace Sh
open PySem PySem.Spec PyProof.Rows L2 Pv
local macro_rules | `(tactic| walk_at "pv") => `(tactic| first | ((with_reducible apply S_env); focus (dsimp only [List.set_cons_zero, List.set_cons_succ]; first | done | exact rfl)) | ((with_reducible apply E_env); focus (dsimp only [List.set_cons_zero, List.set_cons_succ]; first | done | exact rfl)) | ((with_reducible apply P_some); focus (dsimp only [takes_cons, takes_nil, takeW_d, Option.bind_some, Option.map_some]; first | done | exact rfl)) | ((with_reducible apply O_some); focus (dsimp only [derefs_cons, derefs_nil, deref_d, Option.bind_some, Option.map_some]; first | done | exact rfl)) | with_reducible refine E_bin ?_ | with_reducible refine E_cmp ?_ | with_reducible refine E_chain ?_ | with_reducible refine E_tru ?_ | with_reducible refine E_ofT ?_ | with_reducible refine E_notT ?_ | with_reducible refine E_isN ?_ | with_reducible refine E_and ?_ | with_reducible refine E_or ?_ | with_reducible refine E_andT ?_ | with_reducible refine E_orT ?_ | with_reducible refine E_if ?_ | with_reducible refine E_nil ?_ | with_reducible refine E_cons ?_ | with_reducible refine E_call ?_ | with_reducible refine E_fz ?_ | with_reducible refine E_tup ?_ | with_reducible refine E_lst ?_ | with_reducible refine E_emptyD ?_ | with_reducible refine E_src ?_ | with_reducible refine E_range1 ?_ | with_reducible refine E_range2 ?_ | with_reducible refine E_isi ?_ | with_reducible refine E_listOf ?_ | with_reducible refine E_noP ?_ | with_reducible refine E_part ?_ | with_reducible refine E_sl ?_ | with_reducible refine E_rev ?_ | with_reducible refine E_neg ?_ | with_reducible refine E_lenSet ?_ | with_reducible refine E_tupRg1 ?_ | with_reducible refine E_tupRg2 ?_ | with_reducible refine E_callF ?_ | with_reducible refine E_callIo ?_ | with_reducible refine E_lit ?_ | with_reducible refine E_var ?_ | with_reducible refine E_meth ?_ | with_reducible refine E_repF ?_ | with_reducible refine E_lstRg1 ?_ | with_reducible refine E_yes ?_ | with_reducible refine E_sorted ?_ | with_reducible refine E_lenSetT ?_ | with_reducible refine E_index ?_ | with_reducible refine E_getLit ?_ | with_reducible refine E_enum ?_ | with_reducible refine E_zip ?_ | with_reducible refine E_join ?_ | with_reducible refine E_split ?_ | with_reducible refine E_fresh ?_ | with_reducible refine E_valK ?_ | with_reducible refine Src_dl ?_ | with_reducible refine Src_dt ?_ | with_reducible refine Io_sl ?_ | with_reducible refine L2_2 ?_ | with_reducible refine L3_3 ?_ | with_reducible refine S_parX ?_ | with_reducible refine S_seq ?_ | with_reducible refine S_skip ?_ | with_reducible refine S_break ?_ | with_reducible refine S_cont ?_ | with_reducible refine S_raise ?_ | with_reducible refine S_retN ?_ | with_reducible refine S_if ?_ | with_reducible refine S_drop ?_ | with_reducible refine S_ret ?_ | with_reducible refine S_set ?_ | with_reducible refine S_setO ?_ | with_reducible refine S_setG ?_ | with_reducible refine S_par2 ?_ | with_reducible refine S_par3 ?_ | with_reducible refine S_setIx ?_ | with_reducible refine S_aug ?_ | with_reducible refine S_augIx ?_ | with_reducible refine S_for ?_ | ((with_reducible apply V_val); focus exact rfl) | ((with_reducible apply V_own); focus exact rfl) | ((with_reducible apply V_scr); focus exact rfl) | ((with_reducible apply Own_own); focus exact rfl) | ((with_reducible apply O_some); focus exact rfl) | ((with_reducible apply B_some); focus exact rfl) | ((with_reducible apply P_some); focus exact rfl) | ((with_reducible apply ite_t); focus exact rfl) | ((with_reducible apply ite_f); focus exact rfl) | ((with_reducible apply O_some); focus (first | exact mul_ok (by decide) | exact mod_ok (by omega) | exact div_ok (by omega))) | ((with_reducible refine And.intro ?_ ?_); focus (first | exact rfl | decide | (simp only [List.length_cons, List.length_nil]; first | done | decide))))

theorem take_out {α : Type} : ∀ (l : List α) (i : Nat) (y : α), l[i]? = some y → (y :: l.eraseIdx i).Perm l
  | [], _, _, h => by simp at h
  | a :: l, 0, y, h => by
    simp at h
    subst h
    exact List.Perm.refl _
  | a :: l, i + 1, y, h => by
    have ih := take_out l i y (by simpa using h)
    show (y :: a :: l.eraseIdx i).Perm (a :: l)
    exact (List.Perm.swap a y _).trans (ih.cons a)
theorem popAt_ok {lf : List PyData} {v : Int} (h0 : 0 ≤ v) (h1 : v < lf.length) (hl : lf.length ≤ 1000000) : ∃ y, lf[v.toNat]? = some y ∧ fPopAt lf [.int v] = some (lf.eraseIdx v.toNat, y) := by
  have hk : v.toNat < lf.length := by omega
  refine ⟨lf[v.toNat], List.getElem?_eq_getElem hk, ?_⟩
  show (if -1000000000 < v ∧ v < 1000000000 then _ else _) = _
  rw [if_pos ⟨by omega, by omega⟩]
  have e : seqIndex? v lf.length = some v.toNat := (ixN_seq (show ixN lf.length v = some v.toNat by unfold ixN; rw [if_pos h0, if_pos h1])).1
  rw [e]
  dsimp only
  rw [List.getElem?_eq_getElem hk]
def MixQ (l : List PyData) (d : PyData) (io : List PyData) : Prop := ∃ st' acc, io = [st'] ∧ St st' ∧ d = .tuple acc ∧ acc.Perm l
theorem mixed_ok {T : Tab} (NX : NextAt T) {st : PyData} (hst : St st) {l : List PyData} (hl : l.length ≤ 1000000) : wF (r__law_mixed T [st, .tuple l]) (MixQ l) (fun _ => False) := by
  refine F_run [.own true st, .val (.tuple l), .un, .un] rfl rfl ?_
  unfold g__law_mixed
  have hL : LINE = 16777216 := rfl
  repeat walk_at "pv"
  refine lc_inv (I := fun i acc e => ∃ st2 lf, St st2 ∧ e = [.own true st2, .val (.tuple l), .own false (.list lf), .un] ∧ (acc ++ lf).Perm l ∧ acc.length = i) (ds := rgD 0 l.length) (e0 := [.own true st, .val (.tuple l), .own false (.list l), .un]) ?_ rfl (fun i d acc e hd hI => ?_) ⟨st, l, hst, rfl, by simp, rfl⟩ (fun acc e hI => ?_)
  · repeat walk_at "pv"
    refine ⟨⟨by omega, by omega⟩, ?_⟩
    first | exact ⟨rfl, rfl⟩ | rfl
  · obtain ⟨st2, lf, hst2, rfl, hp, rfl⟩ := hI
    obtain ⟨_, hi⟩ := rgD_get hd
    have hlen := hp.length_eq
    rw [List.length_append] at hlen
    refine ⟨[.own true st2, .val (.tuple l), .own false (.list lf), .val d], rfl, ?_⟩
    repeat walk_at "pv"
    refine draw NX hst2 (by show (0 : Int) < (lf.length : Int); omega) (by show (lf.length : Int) < _; omega) ?_
    intro v st3 v0 v1 hst3
    refine ⟨_, rfl, ?_⟩
    repeat walk_at "pv"
    obtain ⟨y, hy, hpop⟩ := popAt_ok (lf := lf) v0 v1 (by omega)
    refine P_some hpop ?_
    repeat walk_at "pv"
    refine ⟨by omega, st3, lf.eraseIdx v.toNat, hst3, rfl, ?_, by rw [List.length_append]; rfl⟩
    rw [List.append_assoc]
    exact ((take_out lf v.toNat y hy).append_left acc).trans hp
  · obtain ⟨st2, lf, hst2, rfl, hp, hlen⟩ := hI
    rw [rgD_length] at hlen
    have h2 := hp.length_eq
    rw [List.length_append] at h2
    have h3 : lf = [] := List.length_eq_zero_iff.mp (by omega)
    subst h3
    rw [List.append_nil] at hp
    repeat walk_at "pv"
    exact ⟨st2, acc, rfl, hst2, rfl, hp⟩
def MixedAt (T : Tab) : Prop := ∀ (st : PyData) (l : List PyData), St st → l.length ≤ 1000000 → wF (T.fn "_law_mixed" [st, .tuple l]) (MixQ l) (fun _ => False)
def getI : PyData → Int
  | .int i => i
  | _ => 0
theorem perm_ints {acc : List PyData} {ns : List Int} (h : acc.Perm (ns.map .int)) : ∃ ms : List Int, acc = ms.map .int ∧ ms.Perm ns := by
  refine ⟨acc.map getI, ?_, ?_⟩
  · rw [List.map_map]
    symm
    have : ∀ x ∈ acc, (PyData.int ∘ getI) x = x := fun x hx => by
      obtain ⟨i, _, rfl⟩ := List.mem_map.mp (h.mem_iff.mp hx)
      rfl
    rw [List.map_congr_left this, List.map_id']
  · have := h.map getI
    rw [List.map_map] at this
    have e : ns.map (getI ∘ PyData.int) = ns := by
      have : (getI ∘ PyData.int) = id := rfl
      rw [this, List.map_id]
    rwa [e] at this
def CardsQ (low high most : Nat) (d : PyData) (io : List PyData) : Prop := ∃ st' cs, io = [st'] ∧ St st' ∧ d = intsT cs ∧ cs.Nodup ∧ (∀ c ∈ cs, 0 ≤ c ∧ c < (most : Int)) ∧ cs.length ≤ high ∧ min low most ≤ cs.length
@[irreducible] def CardsR (T : Tab) (st : PyData) (low high most : Nat) : Prop := wF (r__law_cards T [st, .int (low : Int), .int (high : Int), .int (most : Int)]) (CardsQ low high most) (fun _ => False)
theorem cards_ok {T : Tab} (NX : NextAt T) (MX : MixedAt T) {st : PyData} (hst : St st) {low high most : Nat} (h1 : low ≤ high) (h2 : high ≤ 1000) (h3 : most ≤ 1000) : CardsR T st low high most := by
  unfold CardsR
  generalize hlo : (low : Int) = lo at *
  generalize hhi : (high : Int) = hi at *
  generalize hmo : (most : Int) = mo at *
  refine F_run [.own true st, .val (.int lo), .val (.int hi), .val (.int mo)] rfl rfl ?_
  unfold g__law_cards
  have hL : LINE = 16777216 := rfl
  obtain ⟨ns, hns⟩ : ∃ ns : List Int, ns = (List.range most).map fun (i : Nat) => (0 : Int) + (i : Int) := ⟨_, rfl⟩
  have rg : rgL 0 mo = ns.map .int := by
    rw [← hmo]
    unfold rgL
    rw [hns, List.map_map]
    rfl
  have nl : ns.length = most := by rw [hns]; simp
  have nd : ns.Nodup := by
    rw [hns]
    refine List.Pairwise.map _ (fun a b hab => ?_) (List.nodup_range (n := most))
    intro z
    exact hab (by omega)
  have nm : ∀ c ∈ ns, 0 ≤ c ∧ c < (most : Int) := fun c hc => by
    rw [hns] at hc
    obtain ⟨i, hi, rfl⟩ := List.mem_map.mp hc
    have := List.mem_range.mp hi
    omega
  repeat walk_at "pv"
  refine ⟨decide_eq_true ⟨by omega, by omega, by omega, by omega, by omega⟩, ?_⟩
  rw [rg]
  repeat walk_at "pv"
  refine wF_mono (MX st (ns.map .int) hst (by rw [List.length_map]; omega)) ?_ (fun _ z => z)
  rintro d io ⟨st1, acc, rfl, hst1, rfl, hp⟩
  obtain ⟨ms, rfl, hms⟩ := perm_ints hp
  refine ⟨_, rfl, ?_⟩
  repeat walk_at "pv"
  refine draw NX hst1 (by omega) (by omega) ?_
  intro v st2 v0 v1 hst2
  refine ⟨_, rfl, ?_⟩
  repeat walk_at "pv"
  have ml := hms.length_eq
  refine ⟨st2, ms.take (lo + v).toNat, rfl, hst2, ?_, (hms.nodup_iff.mpr nd).sublist (List.take_sublist _ _), fun c hc => nm c (hms.mem_iff.mp (List.mem_of_mem_take hc)), ?_, ?_⟩
  · rw [cut_to (by omega), ← List.map_take]
  · rw [List.length_take]
    omega
  · rw [List.length_take]
    omega
end Sh
end
section
set_option Elab.async false
set_option linter.all false
set_option maxRecDepth 100000
set_option maxHeartbeats 1000000
set_option autoImplicit false
namespace Sh
open PySem PySem.Spec PyProof.Rows L2 Pv
variable {prog : List (Str × FnI)} {wh : Nat}
theorem tab_fn {x : Str} {i : FnI} (hp : prog.lookup x = some i) (k : Nat) (ds : List PyData) : (tabOf prog wh (k + 1)).fn x ds = fnRes i.n i.io i.tot i.body (tabOf prog wh k) ds := by
  show (match prog.lookup x with | some i => fnRes i.n i.io i.tot i.body (tabOf prog wh k) ds | none => .bad) = _
  rw [hp]
theorem wF_cast {r s : FnRes} {Q : PyData → List PyData → Prop} {R : Str → Prop} (e : r = s) (h : wF s Q R) : wF r Q R := by rw [e]; exact h
def ToldAt (T : Tab) : Prop := ∀ (B n : Nat) (d : PyData) (w : Str) (c : Nat), B ≤ 1000000 → n ≤ 60 → Asked B n d → okD (.str w) = true → 0 < c → T.fn "is_told" [d, .str w, .int (c : Int)] = .ok (.bool (toldB w c d)) []
theorem told_at (hp : prog.lookup ("is_told" : Str) = some ⟨3, false, 3, g_is_told⟩) (k : Nat) : ToldAt (tabOf prog wh (k + 1)) := fun B n d w c hB hn hd hw hc => by
  refine (tab_fn hp k _).trans ?_
  exact told_ok _ hB hn hd hw hc
def WholesAt (T : Tab) : Prop := ∀ (d : PyData) (c : Nat), (∀ xs, d = .tuple xs → xs.length ≤ 1000000) → T.fn "are_wholes" [d, .int (c : Int)] = .ok (.bool (wholesB c d)) []
theorem wholes_at (h1 : prog.lookup ("is_whole" : Str) = some ⟨1, false, 1, g_is_whole⟩) (hp : prog.lookup ("are_wholes" : Str) = some ⟨2, false, 3, g_are_wholes⟩) (k : Nat) : WholesAt (tabOf prog wh (k + 2)) := fun d c h => by
  rw [tab_fn hp]
  exact wholes_ok (whole_at h1 k) h
theorem mixed_at (h1 : prog.lookup ("_law_next" : Str) = some ⟨2, true, 4, g__law_next⟩) (hp : prog.lookup ("_law_mixed" : Str) = some ⟨2, true, 4, g__law_mixed⟩) (k : Nat) : MixedAt (tabOf prog wh (k + 2)) := fun st l hst hl => by
  refine wF_cast (tab_fn hp (k + 1) _) ?_
  exact mixed_ok (next_at h1 k) hst hl
def CardsAt (T : Tab) : Prop := ∀ (st : PyData) (low high most : Nat), St st → low ≤ high → high ≤ 1000 → most ≤ 1000 → wF (T.fn "_law_cards" [st, .int (low : Int), .int (high : Int), .int (most : Int)]) (CardsQ low high most) (fun _ => False)
theorem cards_at (h1 : prog.lookup ("_law_next" : Str) = some ⟨2, true, 4, g__law_next⟩) (h2 : prog.lookup ("_law_mixed" : Str) = some ⟨2, true, 4, g__law_mixed⟩) (hp : prog.lookup ("_law_cards" : Str) = some ⟨4, true, 4, g__law_cards⟩) (k : Nat) : CardsAt (tabOf prog wh (k + 3)) := fun st low high most hst a b c => by
  have e := cards_ok (T := tabOf prog wh (k + 2)) (next_at h1 (k + 1)) (mixed_at h1 h2 k) hst a b c
  unfold CardsR at e
  refine wF_cast (tab_fn hp (k + 2) _) ?_
  dsimp only
  assumption
def NbIntAt (T : Tab) : Prop := ∀ (st : PyData) (i : Int), St st → wF (T.fn "_law_neighbour" [st, .int i]) (fun d io => ∃ st' j, io = [st'] ∧ St st' ∧ d = .int j ∧ j.natAbs ≤ i.natAbs + 1) (fun _ => False)
theorem nb_int_at (h1 : prog.lookup ("_law_next" : Str) = some ⟨2, true, 4, g__law_next⟩) (hp : prog.lookup ("_law_neighbour" : Str) = some ⟨2, true, 4, g__law_neighbour⟩) (k : Nat) : NbIntAt (tabOf prog wh (k + 2)) := fun st i hst => by
  rw [tab_fn hp]
  exact nb_int (next_at h1 k) hst i
def NbRowAt (T : Tab) : Prop := ∀ (B : Nat) (st : PyData) (ns : List Int), St st → ns.length ≤ 1000000 → (∀ i ∈ ns, i.natAbs ≤ B) → wF (T.fn "_law_neighbour" [st, intsT ns]) (NbQ B ns.length) (fun _ => False)
theorem nb_row_at (h1 : prog.lookup ("_law_next" : Str) = some ⟨2, true, 4, g__law_next⟩) (hp : prog.lookup ("_law_neighbour" : Str) = some ⟨2, true, 4, g__law_neighbour⟩) (k : Nat) : NbRowAt (tabOf prog wh (k + 3)) := fun B st ns hst hl hb => by
  rw [tab_fn hp]
  exact nb_row (next_at h1 (k + 1)) (nb_int_at h1 hp k) hst hl hb
end Sh
end
section
set_option Elab.async false
set_option linter.all false
set_option maxRecDepth 100000
set_option maxHeartbeats 1000000
set_option autoImplicit false
namespace Sh
open PySem PySem.Spec PyProof.Rows L2 Pv
local macro_rules | `(tactic| walk_at "pv") => `(tactic| first | ((with_reducible apply S_env); focus (dsimp only [List.set_cons_zero, List.set_cons_succ]; first | done | exact rfl)) | ((with_reducible apply E_env); focus (dsimp only [List.set_cons_zero, List.set_cons_succ]; first | done | exact rfl)) | ((with_reducible apply P_some); focus (dsimp only [takes_cons, takes_nil, takeW_d, Option.bind_some, Option.map_some]; first | done | exact rfl)) | ((with_reducible apply O_some); focus (dsimp only [derefs_cons, derefs_nil, deref_d, Option.bind_some, Option.map_some]; first | done | exact rfl)) | with_reducible refine E_bin ?_ | with_reducible refine E_cmp ?_ | with_reducible refine E_chain ?_ | with_reducible refine E_tru ?_ | with_reducible refine E_ofT ?_ | with_reducible refine E_notT ?_ | with_reducible refine E_isN ?_ | with_reducible refine E_and ?_ | with_reducible refine E_or ?_ | with_reducible refine E_andT ?_ | with_reducible refine E_orT ?_ | with_reducible refine E_if ?_ | with_reducible refine E_nil ?_ | with_reducible refine E_cons ?_ | with_reducible refine E_call ?_ | with_reducible refine E_fz ?_ | with_reducible refine E_tup ?_ | with_reducible refine E_lst ?_ | with_reducible refine E_emptyD ?_ | with_reducible refine E_src ?_ | with_reducible refine E_range1 ?_ | with_reducible refine E_range2 ?_ | with_reducible refine E_isi ?_ | with_reducible refine E_listOf ?_ | with_reducible refine E_noP ?_ | with_reducible refine E_part ?_ | with_reducible refine E_sl ?_ | with_reducible refine E_rev ?_ | with_reducible refine E_neg ?_ | with_reducible refine E_lenSet ?_ | with_reducible refine E_tupRg1 ?_ | with_reducible refine E_tupRg2 ?_ | with_reducible refine E_callF ?_ | with_reducible refine E_callIo ?_ | with_reducible refine E_lit ?_ | with_reducible refine E_var ?_ | with_reducible refine E_meth ?_ | with_reducible refine E_repF ?_ | with_reducible refine E_lstRg1 ?_ | with_reducible refine E_yes ?_ | with_reducible refine E_sorted ?_ | with_reducible refine E_lenSetT ?_ | with_reducible refine E_index ?_ | with_reducible refine E_getLit ?_ | with_reducible refine E_enum ?_ | with_reducible refine E_zip ?_ | with_reducible refine E_join ?_ | with_reducible refine E_split ?_ | with_reducible refine E_fresh ?_ | with_reducible refine E_valK ?_ | with_reducible refine Src_dl ?_ | with_reducible refine Src_dt ?_ | with_reducible refine Io_sl ?_ | with_reducible refine L2_2 ?_ | with_reducible refine L3_3 ?_ | with_reducible refine S_parX ?_ | with_reducible refine S_seq ?_ | with_reducible refine S_skip ?_ | with_reducible refine S_break ?_ | with_reducible refine S_cont ?_ | with_reducible refine S_raise ?_ | with_reducible refine S_retN ?_ | with_reducible refine S_if ?_ | with_reducible refine S_drop ?_ | with_reducible refine S_ret ?_ | with_reducible refine S_set ?_ | with_reducible refine S_setO ?_ | with_reducible refine S_setG ?_ | with_reducible refine S_par2 ?_ | with_reducible refine S_par3 ?_ | with_reducible refine S_setIx ?_ | with_reducible refine S_aug ?_ | with_reducible refine S_augIx ?_ | with_reducible refine S_for ?_ | ((with_reducible apply V_val); focus exact rfl) | ((with_reducible apply V_own); focus exact rfl) | ((with_reducible apply V_scr); focus exact rfl) | ((with_reducible apply Own_own); focus exact rfl) | ((with_reducible apply O_some); focus exact rfl) | ((with_reducible apply B_some); focus exact rfl) | ((with_reducible apply P_some); focus exact rfl) | ((with_reducible apply ite_t); focus exact rfl) | ((with_reducible apply ite_f); focus exact rfl) | ((with_reducible apply O_some); focus (first | exact mul_ok (by decide) | exact mod_ok (by omega) | exact div_ok (by omega))) | ((with_reducible refine And.intro ?_ ?_); focus (first | exact rfl | decide | (simp only [List.length_cons, List.length_nil]; first | done | decide))))

theorem call_exc {T : Tab} {x : Str} {g : Ax} {env e : Pv.Env} {ws : List W} {ds : List PyData} {c : Str} (h1 : g T env = .ok ws e) (h2 : derefs e ws = some ds) (h3 : T.fn x ds = .exc c) : dCallF x g T env = .exc c e := by
  unfold dCallF
  rw [h1]
  unfold Pv.R.bind
  dsimp only
  rw [h2]
  dsimp only
  rw [h3]
theorem call_ok {T : Tab} {x : Str} {g : Ax} {env e : Pv.Env} {ws : List W} {ds : List PyData} {d : PyData} (h1 : g T env = .ok ws e) (h2 : derefs e ws = some ds) (h4 : ws.any isSl = false) (h3 : T.fn x ds = .ok d []) : dCallF x g T env = .ok (.d d) e := by
  unfold dCallF
  rw [h1]
  unfold Pv.R.bind
  dsimp only
  rw [h2]
  dsimp only
  rw [h3]
  dsimp only
  rw [h4, if_neg (fun z => Bool.false_ne_true z.1)]
def tryOf (known : List Str) (isub : Str → Str → Bool) (hs : List (Str × Nat × Hk)) (r : Fl) : Fl := match r with
  | .exc c e => if known.contains c = true then hnd isub hs c e else .bad
  | r => r
theorem S_try {known : List Str} {isub : Str → Str → Bool} {T : Tab} {g : Sx} {hs : List (Str × Nat × Hk)} {env : Pv.Env} {r : Fl} {N : Pv.Env → Prop} {V : PyData → Pv.Env → Prop} {X : Str → Prop} {B C : Pv.Env → Prop} (h : g T env = r) (k : wS (tryOf known isub hs r) N V X B C) : wS (dTry known isub g hs T env) N V X B C := by
  unfold dTry
  rw [h]
  exact k
/-- the two errors are known, and caught -/
structure Kn (known : List Str) (isub : Str → Str → Bool) : Prop where
  u : known.contains ("UnfitCard" : Str) = true
  w : known.contains ("TooWide" : Str) = true
  uu : isub ("UnfitCard" : Str) ("UnfitCard" : Str) = true
  wu : isub ("TooWide" : Str) ("UnfitCard" : Str) = false
  ww : isub ("TooWide" : Str) ("TooWide" : Str) = true
/-- how a call ends -/
def Ends (T : Tab) (F : Str) (ds : List PyData) (n : Nat) : Prop := (∃ D, T.fn F ds = .ok D [] ∧ Sd 1000000 n D) ∨ T.fn F ds = .exc "UnfitCard" ∨ T.fn F ds = .exc "TooWide"
def NearQ (n : Nat) (d : PyData) (io : List PyData) : Prop := ∃ st', io = [st'] ∧ St st' ∧ Sd 1000000 n d
theorem unit_sd {n : Nat} : Sd 1000000 (n + 1) (.tuple []) := Sd_tup.mpr ⟨Nat.zero_le _, fun _ z => by cases z⟩
/-- a neighbour's law -/
def NbP (T : Tab) (a : PyData) (P : PyData → Prop) : Prop := ∀ st, St st → wF (T.fn "_law_neighbour" [st, a]) (fun d io => ∃ st', io = [st'] ∧ St st' ∧ P d) (fun _ => False)
theorem nbp_int {T : Tab} (NB : NbIntAt T) (i : Int) : NbP T (.int i) fun d => ∃ j, d = .int j ∧ j.natAbs ≤ i.natAbs + 1 := fun st hst => by
  refine wF_mono (NB st i hst) ?_ (fun _ z => z)
  rintro d io ⟨st', j, rfl, h, rfl, hj⟩
  exact ⟨st', rfl, h, j, rfl, hj⟩
/-- a told row's neighbour, with a bound -/
theorem nbp_rowB {T : Tab} (NB : NbRowAt T) {ns : List Int} {B : Nat} (hl : ns.length ≤ 1000000) (hB : ∀ i ∈ ns, i.natAbs ≤ B) : NbP T (intsT ns) fun d => ∃ ms, d = intsT ms ∧ ms.length ≤ ns.length ∧ ∀ i ∈ ms, i.natAbs ≤ B + 1 := fun st hst => by
  refine wF_mono (NB B st ns hst hl hB) ?_ (fun _ z => z)
  rintro d io ⟨st', ms, rfl, h, rfl, hl, hm⟩
  exact ⟨st', rfl, h, ms, rfl, hl, hm⟩
theorem hnd_u {known : List Str} {isub : Str → Str → Bool} (K : Kn known isub) (i j : Nat) (e : Pv.Env) (hi : i < e.length) : tryOf known isub [("UnfitCard", i, .empty), ("TooWide", j, .empty)] (.exc "UnfitCard" e) = .ret (.tuple []) (e.set i .un) := by
  show (if known.contains ("UnfitCard" : Str) = true then hnd isub _ _ e else .bad) = _
  rw [if_pos K.u]
  simp only [hnd, K.uu, if_true, if_pos hi, hndK]
theorem hnd_w {known : List Str} {isub : Str → Str → Bool} (K : Kn known isub) (i j : Nat) (e : Pv.Env) (hj : j < e.length) : tryOf known isub [("UnfitCard", i, .empty), ("TooWide", j, .empty)] (.exc "TooWide" e) = .ret (.tuple []) (e.set j .un) := by
  show (if known.contains ("TooWide" : Str) = true then hnd isub _ _ e else .bad) = _
  rw [if_pos K.w]
  simp only [hnd, K.wu, K.ww, if_true, Bool.false_eq_true, if_false, if_pos hj, hndK]
theorem hnd_p {known : List Str} {isub : Str → Str → Bool} (K : Kn known isub) (i : Nat) (e : Pv.Env) (hi : i < e.length) : tryOf known isub [("UnfitCard", i, .pass)] (.exc "UnfitCard" e) = .nx (e.set i .un) := by
  show (if known.contains ("UnfitCard" : Str) = true then hnd isub _ _ e else .bad) = _
  rw [if_pos K.u]
  simp only [hnd, K.uu, if_true, if_pos hi, hndK]
/-- slots: state, 1 things, things, pick, error -/
def gNear1 (known : List Str) (isub : Str → Str → Bool) (F : Str) : Sx :=
    (dSeq (dSetO 2 (dLst (dCons (dVar 1) dNil)))
    (dSeq (dSet 3 (dCallIo "_law_next" (dCons (dVar 0) (dCons (dLit (.int 1)) dNil))))
    (dSeq (dSetIx 2 (dVar 3) (dCallIo "_law_neighbour" (dCons (dVar 0) (dCons (dBin fIx (dVar 2) (dVar 3)) dNil))))
    (dTry known isub (dRet (dCallF F (dCons (dBin fIx (dVar 2) (dLit (.int 0))) dNil))) [("UnfitCard", 4, .empty), ("TooWide", 4, .empty)]))))
theorem near1 {known : List Str} {isub : Str → Str → Bool} (K : Kn known isub) {T : Tab} {F : Str} {m : Nat} (NX : NextAt T) {st : PyData} (hst : St st) {a0 : PyData} {P0 : PyData → Prop} (N0 : NbP T a0 P0) (E0 : ∀ d, P0 d → Ends T F [d] (m + 1)) : wF (fnRes 2 true 5 (gNear1 known isub F) T [st, a0]) (NearQ (m + 1)) (fun _ => False) := by
  refine F_run [.own true st, .val a0, .un, .un, .un] rfl rfl ?_
  unfold gNear1
  have hL : LINE = 16777216 := rfl
  have last : ∀ (b0 : PyData) (st2 : PyData) (c : SV), St st2 → Ends T F [b0] (m + 1) → wS (dTry known isub (dRet (dCallF F (dCons (dBin fIx (dVar 2) (dLit (.int 0))) dNil))) [("UnfitCard", 4, .empty), ("TooWide", 4, .empty)] T [.own true st2, .val a0, .own false (.list [b0]), c, .un]) (fun e => wO (ioOut true e) fun l => NearQ (m + 1) .none l) (fun d e => wO (ioOut true e) fun l => NearQ (m + 1) d l) (fun c => true = false ∧ False) (fun _ => False) fun _ => False := by
    intro b0 st2 c hst2 hE
    have ga : (dCons (dBin fIx (dVar 2) (dLit (.int 0))) dNil) T ([.own true st2, .val a0, .own false (.list [b0]), c, .un] : Pv.Env) = .ok [.d b0] [.own true st2, .val a0, .own false (.list [b0]), c, .un] := rfl
    rcases hE with ⟨D, hD, sD⟩ | hD | hD
    · refine S_try (r := .ret D _) (by
        unfold dRet
        rw [call_ok ga rfl rfl hD]
        rfl) ?_
      exact ⟨st2, rfl, hst2, sD⟩
    · refine S_try (r := .exc "UnfitCard" _) (by
        unfold dRet
        rw [call_exc ga rfl hD]
        rfl) ?_
      rw [hnd_u K _ _ _ (by simp only [List.length_cons, List.length_nil]; omega)]
      exact ⟨st2, rfl, hst2, unit_sd⟩
    · refine S_try (r := .exc "TooWide" _) (by
        unfold dRet
        rw [call_exc ga rfl hD]
        rfl) ?_
      rw [hnd_w K _ _ _ (by simp only [List.length_cons, List.length_nil]; omega)]
      exact ⟨st2, rfl, hst2, unit_sd⟩
  repeat walk_at "pv"
  refine draw NX hst (by decide) (by decide) ?_
  intro v st1 v0 v1 hst1
  refine ⟨_, rfl, ?_⟩
  repeat walk_at "pv"
  have vs : v = 0 := by omega
  rcases vs with rfl
  · have f0 : fIx (.list [a0]) (.int 0) = some a0 := atI_at (i := 0) rfl
    repeat (first | walk_at "pv" | refine O_some f0 ?_)
    refine wF_mono (N0 st1 hst1) ?_ (fun _ z => z)
    rintro d io ⟨st2, rfl, hst2, hd⟩
    refine ⟨_, rfl, ?_⟩
    repeat (first | exact last d st2 _ hst2 (E0 d hd) | walk_at "pv")
/-- slots: state, 2 things, things, pick, error -/
def gNear2 (known : List Str) (isub : Str → Str → Bool) (F : Str) : Sx :=
    (dSeq (dSetO 3 (dLst (dCons (dVar 1) (dCons (dVar 2) dNil))))
    (dSeq (dSet 4 (dCallIo "_law_next" (dCons (dVar 0) (dCons (dLit (.int 2)) dNil))))
    (dSeq (dSetIx 3 (dVar 4) (dCallIo "_law_neighbour" (dCons (dVar 0) (dCons (dBin fIx (dVar 3) (dVar 4)) dNil))))
    (dTry known isub (dRet (dCallF F (dCons (dBin fIx (dVar 3) (dLit (.int 0))) (dCons (dBin fIx (dVar 3) (dLit (.int 1))) dNil)))) [("UnfitCard", 5, .empty), ("TooWide", 5, .empty)]))))
theorem near2 {known : List Str} {isub : Str → Str → Bool} (K : Kn known isub) {T : Tab} {F : Str} {m : Nat} (NX : NextAt T) {st : PyData} (hst : St st) {a0 a1 : PyData} {P0 P1 : PyData → Prop} (N0 : NbP T a0 P0) (E0 : ∀ d, P0 d → Ends T F [d, a1] (m + 1)) (N1 : NbP T a1 P1) (E1 : ∀ d, P1 d → Ends T F [a0, d] (m + 1)) : wF (fnRes 3 true 6 (gNear2 known isub F) T [st, a0, a1]) (NearQ (m + 1)) (fun _ => False) := by
  refine F_run [.own true st, .val a0, .val a1, .un, .un, .un] rfl rfl ?_
  unfold gNear2
  have hL : LINE = 16777216 := rfl
  have last : ∀ (b0 b1 : PyData) (st2 : PyData) (c : SV), St st2 → Ends T F [b0, b1] (m + 1) → wS (dTry known isub (dRet (dCallF F (dCons (dBin fIx (dVar 3) (dLit (.int 0))) (dCons (dBin fIx (dVar 3) (dLit (.int 1))) dNil)))) [("UnfitCard", 5, .empty), ("TooWide", 5, .empty)] T [.own true st2, .val a0, .val a1, .own false (.list [b0, b1]), c, .un]) (fun e => wO (ioOut true e) fun l => NearQ (m + 1) .none l) (fun d e => wO (ioOut true e) fun l => NearQ (m + 1) d l) (fun c => true = false ∧ False) (fun _ => False) fun _ => False := by
    intro b0 b1 st2 c hst2 hE
    have ga : (dCons (dBin fIx (dVar 3) (dLit (.int 0))) (dCons (dBin fIx (dVar 3) (dLit (.int 1))) dNil)) T ([.own true st2, .val a0, .val a1, .own false (.list [b0, b1]), c, .un] : Pv.Env) = .ok [.d b0, .d b1] [.own true st2, .val a0, .val a1, .own false (.list [b0, b1]), c, .un] := rfl
    rcases hE with ⟨D, hD, sD⟩ | hD | hD
    · refine S_try (r := .ret D _) (by
        unfold dRet
        rw [call_ok ga rfl rfl hD]
        rfl) ?_
      exact ⟨st2, rfl, hst2, sD⟩
    · refine S_try (r := .exc "UnfitCard" _) (by
        unfold dRet
        rw [call_exc ga rfl hD]
        rfl) ?_
      rw [hnd_u K _ _ _ (by simp only [List.length_cons, List.length_nil]; omega)]
      exact ⟨st2, rfl, hst2, unit_sd⟩
    · refine S_try (r := .exc "TooWide" _) (by
        unfold dRet
        rw [call_exc ga rfl hD]
        rfl) ?_
      rw [hnd_w K _ _ _ (by simp only [List.length_cons, List.length_nil]; omega)]
      exact ⟨st2, rfl, hst2, unit_sd⟩
  repeat walk_at "pv"
  refine draw NX hst (by decide) (by decide) ?_
  intro v st1 v0 v1 hst1
  refine ⟨_, rfl, ?_⟩
  repeat walk_at "pv"
  have vs : v = 0 ∨ v = 1 := by omega
  rcases vs with rfl | rfl
  · have f0 : fIx (.list [a0, a1]) (.int 0) = some a0 := atI_at (i := 0) rfl
    repeat (first | walk_at "pv" | refine O_some f0 ?_)
    refine wF_mono (N0 st1 hst1) ?_ (fun _ z => z)
    rintro d io ⟨st2, rfl, hst2, hd⟩
    refine ⟨_, rfl, ?_⟩
    repeat (first | exact last d _ st2 _ hst2 (E0 d hd) | walk_at "pv")
  · have f1 : fIx (.list [a0, a1]) (.int 1) = some a1 := atI_at (i := 1) rfl
    repeat (first | walk_at "pv" | refine O_some f1 ?_)
    refine wF_mono (N1 st1 hst1) ?_ (fun _ z => z)
    rintro d io ⟨st2, rfl, hst2, hd⟩
    refine ⟨_, rfl, ?_⟩
    repeat (first | exact last _ d st2 _ hst2 (E1 d hd) | walk_at "pv")
/-- slots: state, 3 things, things, pick, error -/
def gNear3 (known : List Str) (isub : Str → Str → Bool) (F : Str) : Sx :=
    (dSeq (dSetO 4 (dLst (dCons (dVar 1) (dCons (dVar 2) (dCons (dVar 3) dNil)))))
    (dSeq (dSet 5 (dCallIo "_law_next" (dCons (dVar 0) (dCons (dLit (.int 3)) dNil))))
    (dSeq (dSetIx 4 (dVar 5) (dCallIo "_law_neighbour" (dCons (dVar 0) (dCons (dBin fIx (dVar 4) (dVar 5)) dNil))))
    (dTry known isub (dRet (dCallF F (dCons (dBin fIx (dVar 4) (dLit (.int 0))) (dCons (dBin fIx (dVar 4) (dLit (.int 1))) (dCons (dBin fIx (dVar 4) (dLit (.int 2))) dNil))))) [("UnfitCard", 6, .empty), ("TooWide", 6, .empty)]))))
def gUnfit2 (known : List Str) (isub : Str → Str → Bool) (F J : Str) : Sx :=
    (dSeq (dFor (dSrc (fz (dLst (dCons (dLit (.bool false)) (dCons (dLit (.bool true)) dNil))))) (gSlot 2) (dTry known isub (dSeq (dIfS (dTru (dVar 2)) (dDrop (dCallF J (dCons (dVar 0) (dCons (dVar 1) (dCons (dLit .none) dNil))))) (dDrop (dCallF F (dCons (dVar 0) (dCons (dVar 1) dNil)))))
    (dRet (dLit (.bool false)))) [("UnfitCard", 3, .pass)]))
    (dRet (dLit (.bool true))))
theorem unfit2 {known : List Str} {isub : Str → Str → Bool} (K : Kn known isub) {T : Tab} {F J : Str} {a0 a1 : PyData} (hF : T.fn F [a0, a1] = .exc "UnfitCard") (hJ : T.fn J [a0, a1, .none] = .exc "UnfitCard") : fnRes 2 false 4 (gUnfit2 known isub F J) T [a0, a1] = .ok (.bool true) [] := by
  refine wF_eq (F_run [.val a0, .val a1, .un, .un] rfl rfl ?_)
  unfold gUnfit2
  have hL : LINE = 16777216 := rfl
  repeat walk_at "pv"
  refine for_inv (I := fun _ e => ∃ c : SV, e = [.val a0, .val a1, c, .un]) _ (fun i d e hd hI => ?_) (fun e hI => ?_) ⟨_, rfl⟩
  · obtain ⟨c, rfl⟩ := hI
    have hd2 : d = .bool false ∨ d = .bool true := by
      have := List.mem_of_getElem? hd
      simpa using this
    refine ⟨[.val a0, .val a1, .val d, .un], rfl, ?_⟩
    rcases hd2 with rfl | rfl
    · refine S_try (r := .exc "UnfitCard" _) (by
        unfold dSeq
        rw [show dIfS (dTru (dVar 2)) (dDrop (dCallF J (dCons (dVar 0) (dCons (dVar 1) (dCons (dLit .none) dNil))))) (dDrop (dCallF F (dCons (dVar 0) (dCons (dVar 1) dNil)))) T [.val a0, .val a1, .val (.bool false), .un] = .exc "UnfitCard" [.val a0, .val a1, .val (.bool false), .un] from by
          show dDrop (dCallF F (dCons (dVar 0) (dCons (dVar 1) dNil))) T [.val a0, .val a1, .val (.bool false), .un] = _
          unfold dDrop
          rw [call_exc (ws := [.d a0, .d a1]) rfl rfl hF]
          rfl]) ?_
      rw [hnd_p K _ _ (by simp only [List.length_cons, List.length_nil]; omega)]
      exact ⟨_, rfl⟩
    · refine S_try (r := .exc "UnfitCard" _) (by
        unfold dSeq
        rw [show dIfS (dTru (dVar 2)) (dDrop (dCallF J (dCons (dVar 0) (dCons (dVar 1) (dCons (dLit .none) dNil))))) (dDrop (dCallF F (dCons (dVar 0) (dCons (dVar 1) dNil)))) T [.val a0, .val a1, .val (.bool true), .un] = .exc "UnfitCard" [.val a0, .val a1, .val (.bool true), .un] from by
          show dDrop (dCallF J (dCons (dVar 0) (dCons (dVar 1) (dCons (dLit .none) dNil)))) T [.val a0, .val a1, .val (.bool true), .un] = _
          unfold dDrop
          rw [call_exc (ws := [.d a0, .d a1, .d .none]) rfl rfl hJ]
          rfl]) ?_
      rw [hnd_p K _ _ (by simp only [List.length_cons, List.length_nil]; omega)]
      exact ⟨_, rfl⟩
  · obtain ⟨c, rfl⟩ := hI
    repeat walk_at "pv"
    first | done | rfl | exact ⟨rfl, rfl⟩
def gUnfit3 (known : List Str) (isub : Str → Str → Bool) (F J : Str) : Sx :=
    (dSeq (dFor (dSrc (fz (dLst (dCons (dLit (.bool false)) (dCons (dLit (.bool true)) dNil))))) (gSlot 3) (dTry known isub (dSeq (dIfS (dTru (dVar 3)) (dDrop (dCallF J (dCons (dVar 0) (dCons (dVar 1) (dCons (dVar 2) (dCons (dLit .none) dNil)))))) (dDrop (dCallF F (dCons (dVar 0) (dCons (dVar 1) (dCons (dVar 2) dNil))))))
    (dRet (dLit (.bool false)))) [("UnfitCard", 4, .pass)]))
    (dRet (dLit (.bool true))))
theorem unfit3 {known : List Str} {isub : Str → Str → Bool} (K : Kn known isub) {T : Tab} {F J : Str} {a0 a1 a2 : PyData} (hF : T.fn F [a0, a1, a2] = .exc "UnfitCard") (hJ : T.fn J [a0, a1, a2, .none] = .exc "UnfitCard") : fnRes 3 false 5 (gUnfit3 known isub F J) T [a0, a1, a2] = .ok (.bool true) [] := by
  refine wF_eq (F_run [.val a0, .val a1, .val a2, .un, .un] rfl rfl ?_)
  unfold gUnfit3
  have hL : LINE = 16777216 := rfl
  repeat walk_at "pv"
  refine for_inv (I := fun _ e => ∃ c : SV, e = [.val a0, .val a1, .val a2, c, .un]) _ (fun i d e hd hI => ?_) (fun e hI => ?_) ⟨_, rfl⟩
  · obtain ⟨c, rfl⟩ := hI
    have hd2 : d = .bool false ∨ d = .bool true := by
      have := List.mem_of_getElem? hd
      simpa using this
    refine ⟨[.val a0, .val a1, .val a2, .val d, .un], rfl, ?_⟩
    rcases hd2 with rfl | rfl
    · refine S_try (r := .exc "UnfitCard" _) (by
        unfold dSeq
        rw [show dIfS (dTru (dVar 3)) (dDrop (dCallF J (dCons (dVar 0) (dCons (dVar 1) (dCons (dVar 2) (dCons (dLit .none) dNil)))))) (dDrop (dCallF F (dCons (dVar 0) (dCons (dVar 1) (dCons (dVar 2) dNil))))) T [.val a0, .val a1, .val a2, .val (.bool false), .un] = .exc "UnfitCard" [.val a0, .val a1, .val a2, .val (.bool false), .un] from by
          show dDrop (dCallF F (dCons (dVar 0) (dCons (dVar 1) (dCons (dVar 2) dNil)))) T [.val a0, .val a1, .val a2, .val (.bool false), .un] = _
          unfold dDrop
          rw [call_exc (ws := [.d a0, .d a1, .d a2]) rfl rfl hF]
          rfl]) ?_
      rw [hnd_p K _ _ (by simp only [List.length_cons, List.length_nil]; omega)]
      exact ⟨_, rfl⟩
    · refine S_try (r := .exc "UnfitCard" _) (by
        unfold dSeq
        rw [show dIfS (dTru (dVar 3)) (dDrop (dCallF J (dCons (dVar 0) (dCons (dVar 1) (dCons (dVar 2) (dCons (dLit .none) dNil)))))) (dDrop (dCallF F (dCons (dVar 0) (dCons (dVar 1) (dCons (dVar 2) dNil))))) T [.val a0, .val a1, .val a2, .val (.bool true), .un] = .exc "UnfitCard" [.val a0, .val a1, .val a2, .val (.bool true), .un] from by
          show dDrop (dCallF J (dCons (dVar 0) (dCons (dVar 1) (dCons (dVar 2) (dCons (dLit .none) dNil))))) T [.val a0, .val a1, .val a2, .val (.bool true), .un] = _
          unfold dDrop
          rw [call_exc (ws := [.d a0, .d a1, .d a2, .d .none]) rfl rfl hJ]
          rfl]) ?_
      rw [hnd_p K _ _ (by simp only [List.length_cons, List.length_nil]; omega)]
      exact ⟨_, rfl⟩
  · obtain ⟨c, rfl⟩ := hI
    repeat walk_at "pv"
    first | done | rfl | exact ⟨rfl, rfl⟩
/-- what is asked in a law's turn; slots of the state, of what was told before, of what is told, of the turn, of what is asked -/
def gAsk (sS sN sT sK sA : Nat) (n : Int) (gJ gA : Ex) : Sx :=
    (dFor (dRange1 (dCons (dBin fAdd (dLit (.int n)) (dCall fLen (dCons (dVar sN) dNil))) dNil)) (gSlot sK) (dSeq (dSet sA (dIf (dCmp (fCmpI fun i j => decide (i < j)) (dVar sK) (dLit (.int n))) (dCallIo "_law_odd" (dCons (dVar sS) (dCons (dVar sT) dNil))) (dBin fIx (dVar sN) (dBin fSub (dVar sK) (dLit (.int n))))))
    (dIfS (dNotT (dTru (dCallF "_law_same" (dCons gJ (dCons gA dNil))))) (dRet (dLit (.bool false))) dSkip)))
/-- a frame by its state, its turn, and what is asked -/
structure Slots (E : PyData → SV → SV → Pv.Env) (sS sN sT sK sA : Nat) (seen : List PyData) (D : PyData) : Prop where
  k : ∀ st a b x, (E st a b).set sK x = E st x b
  a : ∀ st a b x, (E st a b).set sA x = E st a x
  s : ∀ st a b st', (E st a b).set sS (.own false st') = E st' a b
  gs : ∀ st a b, (E st a b)[sS]? = some (.own false st)
  gt : ∀ st a b, (E st a b)[sT]? = some (.val D)
  gk : ∀ st a b, (E st a b)[sK]? = some a
  gn : ∀ st a b, (E st a b)[sN]? = some (.val (.list seen))
/-- what was told before, and what is told now -/
def push (seen : List PyData) (D near : PyData) : List PyData := Pv.cutD seen (some (-3)) none ++ [D, near]
theorem push_len {seen : List PyData} {D near : PyData} : (push seen D near).length ≤ seen.length + 2 := by
  have := @cut_len seen (some (-3)) none
  unfold push
  rw [List.length_append]
  simp only [List.length_cons, List.length_nil]
  omega
theorem push_mem {seen : List PyData} {D near : PyData} {P : PyData → Prop} (h : ∀ d ∈ seen, P d) (h1 : P D) (h2 : P near) : ∀ d ∈ push seen D near, P d := fun x hx => by
  unfold push at hx
  rcases List.mem_append.mp hx with hx | hx
  · exact h x (cut_mem hx)
  · simp only [List.mem_cons, List.not_mem_nil, or_false] at hx
    rcases hx with rfl | rfl
    · exact h1
    · exact h2
theorem push_add {seen : List PyData} {D near : PyData} (h : seen.length ≤ 1000) : fAdd (.list (Pv.cutD seen (some (-3)) none)) (.list [D, near]) = some (.list (push seen D near)) := by
  have := @cut_len seen (some (-3)) none
  exact addL (by simp only [List.length_cons, List.length_nil]; have hL : LINE = 16777216 := rfl; omega)
theorem if_eq {r : FnRes} {k : Bool} {d : PyData} {c : Str} (key : wF r (fun d' io => k = true ∧ d' = d ∧ io = []) (fun c' => k = false ∧ c' = c)) : r = if k = true then .ok d [] else .exc c := by
  cases r with
  | ok d' io =>
    obtain ⟨h, rfl, rfl⟩ := (show k = true ∧ d' = d ∧ io = [] from key)
    rw [if_pos h]
  | exc c' =>
    obtain ⟨h, rfl⟩ := (show k = false ∧ c' = c from key)
    rw [if_neg (by rw [h]; exact Bool.false_ne_true)]
  | bad => exact key.elim
theorem sameB_no {p : PyData → Bool} {d due : PyData} (h : p due = true) (hd : p d = false) : sameB d due = false := by
  by_cases z : sameB d due = true
  · rw [sameB_eq z] at hd
    rw [hd] at h
    cases h
  · simpa using z
theorem ints_of (ns : List Int) : intsOf (ns.map .int) = some ns := by
  induction ns with
  | nil => rfl
  | cons a l ih =>
    show (intsOf (l.map .int)).map (a :: ·) = _
    rw [ih]
    rfl
theorem all_whole (cs : List Int) : (cs.map PyData.int).all wholeB = true := by
  induction cs with
  | nil => rfl
  | cons a l ih =>
    rw [List.map_cons, List.all_cons, ih]
    rfl
theorem told_word {w : Str} {c : Nat} {d : PyData} (h : toldB w c d = true) : ∃ r, d = .tuple (.str w :: r) ∧ r.length + 1 = c := by
  unfold toldB at h
  split at h
  · rename_i s r
    rw [Bool.and_eq_true, decide_eq_true_eq] at h
    exact ⟨r, by rw [eq_of_beq h.2], h.1⟩
  · cases h
/-- the end of a law -/
@[irreducible] def LawR (g : Sx) (T : Tab) (e0 : Pv.Env) : Prop := wS (g T e0) (fun _ => False) (fun d _ => d = .bool true) (fun _ => False) (fun _ => False) (fun _ => False)
theorem law_end {g : Sx} {T : Tab} {e0 : Pv.Env} (h : LawR g T e0) : ∃ e, g T e0 = .ret (.bool true) e := by
  unfold LawR at h
  cases q : g T e0 with
  | ret d e =>
    rw [q] at h
    have h : d = .bool true := h
    exact ⟨e, by rw [h]⟩
  | nx e => rw [q] at h; exact h.elim
  | exc c e => rw [q] at h; exact h.elim
  | bk e => rw [q] at h; exact h.elim
  | ct e => rw [q] at h; exact h.elim
  | bad => rw [q] at h; exact h.elim
end Sh
end
section
set_option Elab.async false
set_option linter.all false
set_option maxRecDepth 100000
set_option maxHeartbeats 1000000
set_option autoImplicit false
namespace Sh
open PySem PySem.Spec PyProof.Rows L2 Pv
local macro_rules | `(tactic| walk_at "pv") => `(tactic| first | ((with_reducible apply S_env); focus (dsimp only [List.set_cons_zero, List.set_cons_succ]; first | done | exact rfl)) | ((with_reducible apply E_env); focus (dsimp only [List.set_cons_zero, List.set_cons_succ]; first | done | exact rfl)) | ((with_reducible apply P_some); focus (dsimp only [takes_cons, takes_nil, takeW_d, Option.bind_some, Option.map_some]; first | done | exact rfl)) | ((with_reducible apply O_some); focus (dsimp only [derefs_cons, derefs_nil, deref_d, Option.bind_some, Option.map_some]; first | done | exact rfl)) | with_reducible refine E_bin ?_ | with_reducible refine E_cmp ?_ | with_reducible refine E_chain ?_ | with_reducible refine E_tru ?_ | with_reducible refine E_ofT ?_ | with_reducible refine E_notT ?_ | with_reducible refine E_isN ?_ | with_reducible refine E_and ?_ | with_reducible refine E_or ?_ | with_reducible refine E_andT ?_ | with_reducible refine E_orT ?_ | with_reducible refine E_if ?_ | with_reducible refine E_nil ?_ | with_reducible refine E_cons ?_ | with_reducible refine E_call ?_ | with_reducible refine E_fz ?_ | with_reducible refine E_tup ?_ | with_reducible refine E_lst ?_ | with_reducible refine E_emptyD ?_ | with_reducible refine E_src ?_ | with_reducible refine E_range1 ?_ | with_reducible refine E_range2 ?_ | with_reducible refine E_isi ?_ | with_reducible refine E_listOf ?_ | with_reducible refine E_noP ?_ | with_reducible refine E_part ?_ | with_reducible refine E_sl ?_ | with_reducible refine E_rev ?_ | with_reducible refine E_neg ?_ | with_reducible refine E_lenSet ?_ | with_reducible refine E_tupRg1 ?_ | with_reducible refine E_tupRg2 ?_ | with_reducible refine E_callF ?_ | with_reducible refine E_callIo ?_ | with_reducible refine E_lit ?_ | with_reducible refine E_var ?_ | with_reducible refine E_meth ?_ | with_reducible refine E_repF ?_ | with_reducible refine E_lstRg1 ?_ | with_reducible refine E_yes ?_ | with_reducible refine E_sorted ?_ | with_reducible refine E_lenSetT ?_ | with_reducible refine E_index ?_ | with_reducible refine E_getLit ?_ | with_reducible refine E_enum ?_ | with_reducible refine E_zip ?_ | with_reducible refine E_join ?_ | with_reducible refine E_split ?_ | with_reducible refine E_fresh ?_ | with_reducible refine E_valK ?_ | with_reducible refine Src_dl ?_ | with_reducible refine Src_dt ?_ | with_reducible refine Io_sl ?_ | with_reducible refine L2_2 ?_ | with_reducible refine L3_3 ?_ | with_reducible refine S_parX ?_ | with_reducible refine S_seq ?_ | with_reducible refine S_skip ?_ | with_reducible refine S_break ?_ | with_reducible refine S_cont ?_ | with_reducible refine S_raise ?_ | with_reducible refine S_retN ?_ | with_reducible refine S_if ?_ | with_reducible refine S_drop ?_ | with_reducible refine S_ret ?_ | with_reducible refine S_set ?_ | with_reducible refine S_setO ?_ | with_reducible refine S_setG ?_ | with_reducible refine S_par2 ?_ | with_reducible refine S_par3 ?_ | with_reducible refine S_setIx ?_ | with_reducible refine S_aug ?_ | with_reducible refine S_augIx ?_ | with_reducible refine S_for ?_ | ((with_reducible apply V_val); focus exact rfl) | ((with_reducible apply V_own); focus exact rfl) | ((with_reducible apply V_scr); focus exact rfl) | ((with_reducible apply Own_own); focus exact rfl) | ((with_reducible apply O_some); focus exact rfl) | ((with_reducible apply B_some); focus exact rfl) | ((with_reducible apply P_some); focus exact rfl) | ((with_reducible apply ite_t); focus exact rfl) | ((with_reducible apply ite_f); focus exact rfl) | ((with_reducible apply O_some); focus (first | exact mul_ok (by decide) | exact mod_ok (by omega) | exact div_ok (by omega))) | ((with_reducible refine And.intro ?_ ?_); focus (first | exact rfl | decide | (simp only [List.length_cons, List.length_nil]; first | done | decide))))

theorem step_any {acc : List Int} {a : Int} : step_dedup acc a = if a ∈ acc then acc else acc ++ [a] := by
  unfold step_dedup
  by_cases h : a ∈ acc
  · rw [if_pos h, if_pos (List.any_eq_true.mpr ⟨a, h, by simp⟩)]
  · rw [if_neg h, if_neg]
    intro z
    obtain ⟨b, hb, e⟩ := List.any_eq_true.mp z
    have : b = a := by simpa using e
    exact h (this ▸ hb)
theorem fold_len : ∀ (l acc : List Int), (l.foldl step_dedup acc).length ≤ acc.length + l.length ∧ ((l.foldl step_dedup acc).length = acc.length + l.length → acc.Nodup → (acc ++ l).Nodup) ∧ ((acc ++ l).Nodup → l.foldl step_dedup acc = acc ++ l)
  | [], acc => ⟨by simp, fun _ h => by simpa using h, fun _ => by simp⟩
  | a :: l, acc => by
    rw [List.foldl_cons, step_any]
    by_cases h : a ∈ acc
    · rw [if_pos h]
      obtain ⟨h1, _, _⟩ := fold_len l acc
      refine ⟨by rw [List.length_cons]; omega, fun e => ?_, fun nd => ?_⟩
      · rw [List.length_cons] at e
        omega
      · exact absurd rfl ((List.nodup_append.mp nd).2.2 a h a List.mem_cons_self)
    · rw [if_neg h]
      obtain ⟨h1, h2, h3⟩ := fold_len l (acc ++ [a])
      rw [List.length_append] at h1 h2
      refine ⟨by simp only [List.length_cons, List.length_nil] at *; omega, fun e nd => ?_, fun nd => ?_⟩
      · have := h2 (by simp only [List.length_cons, List.length_nil] at *; omega) (List.nodup_append.mpr ⟨nd, by simp, fun x hx y hy z => h (by
          have : y = a := by simpa using hy
          rw [← this, ← z]; exact hx)⟩)
        rwa [List.append_assoc] at this
      · have := h3 (by rw [List.append_assoc]; exact nd)
        rwa [List.append_assoc] at this
theorem distinct_fold (ns : List Int) : distinct ns = ns.foldl step_dedup [] := by
  unfold distinct firstMet
  congr 1
  apply List.ext_getElem
  · simp
  · intro i h1 h2
    simp [h2]
theorem distinct_lt (ns : List Int) : decide (((distinct ns).length : Int) < (ns.length : Int)) = !decide ns.Nodup := by
  rw [distinct_fold]
  obtain ⟨h1, h2, h3⟩ := fold_len ns []
  simp only [List.length_nil, Nat.zero_add, List.nil_append] at h1 h2 h3
  by_cases nd : ns.Nodup
  · rw [h3 nd, decide_eq_true nd]
    simp
  · rw [decide_eq_false nd]
    have : (ns.foldl step_dedup []).length ≠ ns.length := fun z => nd (h2 z List.nodup_nil)
    simp
    omega
theorem row_at {os : List Int} {i : Nat} (h : i < os.length) : fIx (intsT os) (.int (i : Int)) = some (.int (os.getD i 0)) := by
  refine atI_at ?_
  rw [List.getElem?_map, List.getElem?_eq_getElem h, List.getD_eq_getElem?_getD, List.getElem?_eq_getElem h]
  rfl
end Sh
end
section
set_option Elab.async false
set_option linter.all false
set_option maxRecDepth 100000
set_option maxHeartbeats 1000000
set_option autoImplicit false
namespace Sh
open PySem PySem.Spec PyProof.Rows L2 Pv
local macro_rules | `(tactic| walk_at "pv") => `(tactic| first | ((with_reducible apply S_env); focus (dsimp only [List.set_cons_zero, List.set_cons_succ]; first | done | exact rfl)) | ((with_reducible apply E_env); focus (dsimp only [List.set_cons_zero, List.set_cons_succ]; first | done | exact rfl)) | ((with_reducible apply P_some); focus (dsimp only [takes_cons, takes_nil, takeW_d, Option.bind_some, Option.map_some]; first | done | exact rfl)) | ((with_reducible apply O_some); focus (dsimp only [derefs_cons, derefs_nil, deref_d, Option.bind_some, Option.map_some]; first | done | exact rfl)) | with_reducible refine E_bin ?_ | with_reducible refine E_cmp ?_ | with_reducible refine E_chain ?_ | with_reducible refine E_tru ?_ | with_reducible refine E_ofT ?_ | with_reducible refine E_notT ?_ | with_reducible refine E_isN ?_ | with_reducible refine E_and ?_ | with_reducible refine E_or ?_ | with_reducible refine E_andT ?_ | with_reducible refine E_orT ?_ | with_reducible refine E_if ?_ | with_reducible refine E_nil ?_ | with_reducible refine E_cons ?_ | with_reducible refine E_call ?_ | with_reducible refine E_fz ?_ | with_reducible refine E_tup ?_ | with_reducible refine E_lst ?_ | with_reducible refine E_emptyD ?_ | with_reducible refine E_src ?_ | with_reducible refine E_range1 ?_ | with_reducible refine E_range2 ?_ | with_reducible refine E_isi ?_ | with_reducible refine E_listOf ?_ | with_reducible refine E_noP ?_ | with_reducible refine E_part ?_ | with_reducible refine E_sl ?_ | with_reducible refine E_rev ?_ | with_reducible refine E_neg ?_ | with_reducible refine E_lenSet ?_ | with_reducible refine E_tupRg1 ?_ | with_reducible refine E_tupRg2 ?_ | with_reducible refine E_callF ?_ | with_reducible refine E_callIo ?_ | with_reducible refine E_lit ?_ | with_reducible refine E_var ?_ | with_reducible refine E_meth ?_ | with_reducible refine E_repF ?_ | with_reducible refine E_lstRg1 ?_ | with_reducible refine E_yes ?_ | with_reducible refine E_sorted ?_ | with_reducible refine E_lenSetT ?_ | with_reducible refine E_index ?_ | with_reducible refine E_getLit ?_ | with_reducible refine E_enum ?_ | with_reducible refine E_zip ?_ | with_reducible refine E_join ?_ | with_reducible refine E_split ?_ | with_reducible refine E_fresh ?_ | with_reducible refine E_valK ?_ | with_reducible refine Src_dl ?_ | with_reducible refine Src_dt ?_ | with_reducible refine Io_sl ?_ | with_reducible refine L2_2 ?_ | with_reducible refine L3_3 ?_ | with_reducible refine S_parX ?_ | with_reducible refine S_seq ?_ | with_reducible refine S_skip ?_ | with_reducible refine S_break ?_ | with_reducible refine S_cont ?_ | with_reducible refine S_raise ?_ | with_reducible refine S_retN ?_ | with_reducible refine S_if ?_ | with_reducible refine S_drop ?_ | with_reducible refine S_ret ?_ | with_reducible refine S_set ?_ | with_reducible refine S_setO ?_ | with_reducible refine S_setG ?_ | with_reducible refine S_par2 ?_ | with_reducible refine S_par3 ?_ | with_reducible refine S_setIx ?_ | with_reducible refine S_aug ?_ | with_reducible refine S_augIx ?_ | with_reducible refine S_for ?_ | ((with_reducible apply V_val); focus exact rfl) | ((with_reducible apply V_own); focus exact rfl) | ((with_reducible apply V_scr); focus exact rfl) | ((with_reducible apply Own_own); focus exact rfl) | ((with_reducible apply O_some); focus exact rfl) | ((with_reducible apply B_some); focus exact rfl) | ((with_reducible apply P_some); focus exact rfl) | ((with_reducible apply ite_t); focus exact rfl) | ((with_reducible apply ite_f); focus exact rfl) | ((with_reducible apply O_some); focus (first | exact mul_ok (by decide) | exact mod_ok (by omega) | exact div_ok (by omega))) | ((with_reducible refine And.intro ?_ ?_); focus (first | exact rfl | decide | (simp only [List.length_cons, List.length_nil]; first | done | decide))))

theorem set_set {α : Type} (l : List α) (i : Nat) (a b : α) : (l.set i a).set i b = l.set i b := by
  rw [List.set_set]
section
variable {T : Tab} {env : Pv.Env} {QL : List PyData → Pv.Env → Prop} {X : Str → Prop}
theorem lc1 {src : Ix} {s : Nat} {tst : Tx} {elt : Ex} (ds : List PyData) (p : PyData → Bool) (f : PyData → PyData) (h1 : wE (src T env) (fun ds' e' => ds' = ds ∧ e' = env) X) (h2 : plainAt env [s] = true) (hlen : ds.length ≤ 1000000)
    (h3 : ∀ d ∈ ds, wE (tst T (env.set s (.val d))) (fun k e2 => k = p d ∧ e2 = env.set s (.val d)) (fun _ => False) ∧ (p d = true → wE (elt T (env.set s (.val d))) (fun w e2 => w = .d (f d) ∧ e2 = env.set s (.val d)) fun _ => False))
    (hr : restore env [s] (wipeE env [s]) = env) (q : QL ((ds.filter p).map f) env) : wE (dLc src [s] (gSlot s) tst elt T env) QL X := by
  have hL : LINE = 16777216 := rfl
  refine lc_pure (p := p) (f := f) (ds := ds) (e0 := env) h1 h2 (by omega) (fun d hd => ?_) hr q
  obtain ⟨a, b⟩ := h3 d hd
  refine ⟨env.set s (.val d), ?_, ?_, a, b⟩
  · show some ((env.set s .un).set s (.val d)) = _
    rw [set_set]
  · show (env.set s (.val d)).set s .un = env.set s .un
    rw [set_set]
/-- over whole numbers -/
theorem lc1i {src : Ix} {s : Nat} {tst : Tx} {elt : Ex} (ns : List Int) (p : Int → Bool) (f : Int → PyData) (h1 : wE (src T env) (fun ds' e' => ds' = ns.map .int ∧ e' = env) X) (h2 : plainAt env [s] = true) (hlen : ns.length ≤ 1000000)
    (h3 : ∀ c ∈ ns, wE (tst T (env.set s (.val (.int c)))) (fun k e2 => k = p c ∧ e2 = env.set s (.val (.int c))) (fun _ => False) ∧ (p c = true → wE (elt T (env.set s (.val (.int c)))) (fun w e2 => w = .d (f c) ∧ e2 = env.set s (.val (.int c))) fun _ => False))
    (hr : restore env [s] (wipeE env [s]) = env) (q : QL ((ns.filter p).map f) env) : wE (dLc src [s] (gSlot s) tst elt T env) QL X := by
  refine lc1 (ns.map .int) (fun d => p (getI d)) (fun d => f (getI d)) h1 h2 (by rw [List.length_map]; exact hlen) (fun d hd => ?_) hr ?_
  · obtain ⟨c, hc, rfl⟩ := List.mem_map.mp hd
    exact h3 c hc
  · have e : ((ns.map PyData.int).filter fun d => p (getI d)).map (fun d => f (getI d)) = (ns.filter p).map f := by
      rw [List.filter_map, List.map_map]
      rfl
    rw [e]
    exact q
end
/-- all of them -/
theorem filt_all {α : Type} (l : List α) : l.filter (fun _ => true) = l := List.filter_eq_self.mpr fun _ _ => rfl
/-- a number in a row, not in it -/
theorem any_mem {i : Int} {ns : List Int} : ((ns.map PyData.int).any fun z => PyData.eqv z (.int i)) = decide (i ∈ ns) := by
  by_cases h : i ∈ ns
  · rw [any_int.mpr h, decide_eq_true h]
  · rw [decide_eq_false h]
    by_cases q : ((ns.map PyData.int).any fun z => PyData.eqv z (.int i)) = true
    · exact absurd (any_int.mp q) h
    · simpa using q
theorem flat_ints (ns : List Int) : (ns.map PyData.int).all flatD = true := by
  rw [List.all_map, List.all_eq_true]
  intro x _
  rfl
theorem not_row {i : Int} {ns : List Int} : fIn true (.int i) (intsT ns) = some (.bool (!decide (i ∈ ns))) := by
  show (if _ ∧ _ then _ else _) = _
  rw [if_pos ⟨rfl, flat_ints ns⟩, any_mem]
  rfl
theorem not_list {i : Int} {ns : List Int} : fIn true (.int i) (.list (ns.map .int)) = some (.bool (!decide (i ∈ ns))) := by
  show (if _ ∧ _ then _ else _) = _
  rw [if_pos ⟨rfl, okD_ints ns⟩, any_mem]
  rfl
theorem Sd_of_asked {B n : Nat} {xs : List PyData} (h : Asked B n (.tuple xs)) : Sd B n (.tuple xs) := h.elim id fun z => by cases z
section
variable {T : Tab} {env : Pv.Env} {Q : W → Pv.Env → Prop} {X : Str → Prop}
end
end Sh
end
section
set_option Elab.async false
set_option linter.all false
set_option maxRecDepth 100000
set_option maxHeartbeats 1000000
set_option autoImplicit false
namespace Sh
open PySem PySem.Spec PyProof.Rows L2 Pv
local macro_rules | `(tactic| walk_at "pv") => `(tactic| first | ((with_reducible apply S_env); focus (dsimp only [List.set_cons_zero, List.set_cons_succ]; first | done | exact rfl)) | ((with_reducible apply E_env); focus (dsimp only [List.set_cons_zero, List.set_cons_succ]; first | done | exact rfl)) | ((with_reducible apply P_some); focus (dsimp only [takes_cons, takes_nil, takeW_d, Option.bind_some, Option.map_some]; first | done | exact rfl)) | ((with_reducible apply O_some); focus (dsimp only [derefs_cons, derefs_nil, deref_d, Option.bind_some, Option.map_some]; first | done | exact rfl)) | with_reducible refine E_bin ?_ | with_reducible refine E_cmp ?_ | with_reducible refine E_chain ?_ | with_reducible refine E_tru ?_ | with_reducible refine E_ofT ?_ | with_reducible refine E_notT ?_ | with_reducible refine E_isN ?_ | with_reducible refine E_and ?_ | with_reducible refine E_or ?_ | with_reducible refine E_andT ?_ | with_reducible refine E_orT ?_ | with_reducible refine E_if ?_ | with_reducible refine E_nil ?_ | with_reducible refine E_cons ?_ | with_reducible refine E_call ?_ | with_reducible refine E_fz ?_ | with_reducible refine E_tup ?_ | with_reducible refine E_lst ?_ | with_reducible refine E_emptyD ?_ | with_reducible refine E_src ?_ | with_reducible refine E_range1 ?_ | with_reducible refine E_range2 ?_ | with_reducible refine E_isi ?_ | with_reducible refine E_listOf ?_ | with_reducible refine E_noP ?_ | with_reducible refine E_part ?_ | with_reducible refine E_sl ?_ | with_reducible refine E_rev ?_ | with_reducible refine E_neg ?_ | with_reducible refine E_lenSet ?_ | with_reducible refine E_tupRg1 ?_ | with_reducible refine E_tupRg2 ?_ | with_reducible refine E_callF ?_ | with_reducible refine E_callIo ?_ | with_reducible refine E_lit ?_ | with_reducible refine E_var ?_ | with_reducible refine E_meth ?_ | with_reducible refine E_repF ?_ | with_reducible refine E_lstRg1 ?_ | with_reducible refine E_yes ?_ | with_reducible refine E_sorted ?_ | with_reducible refine E_lenSetT ?_ | with_reducible refine E_index ?_ | with_reducible refine E_getLit ?_ | with_reducible refine E_enum ?_ | with_reducible refine E_zip ?_ | with_reducible refine E_join ?_ | with_reducible refine E_split ?_ | with_reducible refine E_fresh ?_ | with_reducible refine E_valK ?_ | with_reducible refine Src_dl ?_ | with_reducible refine Src_dt ?_ | with_reducible refine Io_sl ?_ | with_reducible refine L2_2 ?_ | with_reducible refine L3_3 ?_ | with_reducible refine S_parX ?_ | with_reducible refine S_seq ?_ | with_reducible refine S_skip ?_ | with_reducible refine S_break ?_ | with_reducible refine S_cont ?_ | with_reducible refine S_raise ?_ | with_reducible refine S_retN ?_ | with_reducible refine S_if ?_ | with_reducible refine S_drop ?_ | with_reducible refine S_ret ?_ | with_reducible refine S_set ?_ | with_reducible refine S_setO ?_ | with_reducible refine S_setG ?_ | with_reducible refine S_par2 ?_ | with_reducible refine S_par3 ?_ | with_reducible refine S_setIx ?_ | with_reducible refine S_aug ?_ | with_reducible refine S_augIx ?_ | with_reducible refine S_for ?_ | ((with_reducible apply V_val); focus exact rfl) | ((with_reducible apply V_own); focus exact rfl) | ((with_reducible apply V_scr); focus exact rfl) | ((with_reducible apply Own_own); focus exact rfl) | ((with_reducible apply O_some); focus exact rfl) | ((with_reducible apply B_some); focus exact rfl) | ((with_reducible apply P_some); focus exact rfl) | ((with_reducible apply ite_t); focus exact rfl) | ((with_reducible apply ite_f); focus exact rfl) | ((with_reducible apply O_some); focus (first | exact mul_ok (by decide) | exact mod_ok (by omega) | exact div_ok (by omega))) | ((with_reducible refine And.intro ?_ ?_); focus (first | exact rfl | decide | (simp only [List.length_cons, List.length_nil]; first | done | decide))))

section
variable {T : Tab} {env : Pv.Env} {N : Pv.Env → Prop} {V : PyData → Pv.Env → Prop} {X : Str → Prop} {BB CC : Pv.Env → Prop}
end
theorem word_ok {w : Str} (h : w.length ≤ 300) (h2 : (PyData.str w).canLay0 = true) {B n : Nat} (hB : 300 ≤ B) : Sd B n (.str w) := Sd_str.mpr ⟨Nat.le_trans h hB, h2⟩
theorem ints_sd {cs : List Int} {B n : Nat} (hl : cs.length ≤ B) (hc : ∀ c ∈ cs, c.natAbs ≤ B) : Sd B (n + 1) (intsT cs) := Sd_tup.mpr ⟨by rw [List.length_map]; exact hl, fun x hx => by
  obtain ⟨c, hc2, rfl⟩ := List.mem_map.mp hx
  exact Sd_int.mpr (hc c hc2)⟩
theorem noS_ints (cs : List Int) : noS (intsT cs) = true := by
  show noSs (cs.map .int) = true
  refine noSs_iff.mpr fun x hx => ?_
  obtain ⟨c, hc2, rfl⟩ := List.mem_map.mp hx
  rfl
end Sh
end
section
set_option Elab.async false
set_option linter.all false
set_option maxRecDepth 100000
set_option maxHeartbeats 1000000
set_option autoImplicit false
namespace Sh
open PySem PySem.Spec PyProof.Rows L2 Pv
theorem sl_drop {ns : List Int} {k : Int} (h : 0 ≤ k) : fSl (intsT ns) (some k) none = some (intsT (ns.drop k.toNat)) := by
  show some (PyData.tuple (Pv.cutD (ns.map PyData.int) (some k) none)) = _
  rw [cut_from h, ← List.map_drop]
theorem add_ints {ns ms : List Int} (h : ns.length + ms.length ≤ 1000000) : fAdd (intsT ns) (intsT ms) = some (intsT (ns ++ ms)) := by
  have hL : LINE = 16777216 := rfl
  rw [addT (by rw [List.length_map, List.length_map]; omega), ← List.map_append]
theorem not_valid {r : FnRes} {v : Bool} {D : PyData} {c : Str} (h : r = if v = true then .ok D [] else .exc c) (hv : v = false) : r = .exc c := by
  rw [h, hv]
  rfl
theorem is_valid {r : FnRes} {v : Bool} {D : PyData} {c : Str} (h : r = if v = true then .ok D [] else .exc c) (hv : v = true) : r = .ok D [] := by
  rw [h, hv]
  rfl
/-- the law's state at first -/
theorem St_new (ns : List Int) : St (.list [.list (ns.map .int), .int 0, .int 0, .int 1]) := ⟨ns, 0, 0, 1, rfl, by decide, by decide, by decide, by decide⟩
theorem gd_asked {B m : Nat} {x : PyData} (hB : B ≤ 1000000) (h : Asked B m x) : Gd x := h.cases'.elim id fun z => by
  have hL : LINE = 16777216 := rfl
  omega
end Sh
end
section
set_option Elab.async false
set_option linter.all false
set_option maxRecDepth 100000
set_option maxHeartbeats 1000000
set_option autoImplicit false
namespace Sh
open PySem PySem.Spec PyProof.Rows L2 Pv
local macro_rules | `(tactic| walk_at "pv") => `(tactic| first | ((with_reducible apply S_env); focus (dsimp only [List.set_cons_zero, List.set_cons_succ]; first | done | exact rfl)) | ((with_reducible apply E_env); focus (dsimp only [List.set_cons_zero, List.set_cons_succ]; first | done | exact rfl)) | ((with_reducible apply P_some); focus (dsimp only [takes_cons, takes_nil, takeW_d, Option.bind_some, Option.map_some]; first | done | exact rfl)) | ((with_reducible apply O_some); focus (dsimp only [derefs_cons, derefs_nil, deref_d, Option.bind_some, Option.map_some]; first | done | exact rfl)) | with_reducible refine E_bin ?_ | with_reducible refine E_cmp ?_ | with_reducible refine E_chain ?_ | with_reducible refine E_tru ?_ | with_reducible refine E_ofT ?_ | with_reducible refine E_notT ?_ | with_reducible refine E_isN ?_ | with_reducible refine E_and ?_ | with_reducible refine E_or ?_ | with_reducible refine E_andT ?_ | with_reducible refine E_orT ?_ | with_reducible refine E_if ?_ | with_reducible refine E_nil ?_ | with_reducible refine E_cons ?_ | with_reducible refine E_call ?_ | with_reducible refine E_fz ?_ | with_reducible refine E_tup ?_ | with_reducible refine E_lst ?_ | with_reducible refine E_emptyD ?_ | with_reducible refine E_src ?_ | with_reducible refine E_range1 ?_ | with_reducible refine E_range2 ?_ | with_reducible refine E_isi ?_ | with_reducible refine E_listOf ?_ | with_reducible refine E_noP ?_ | with_reducible refine E_part ?_ | with_reducible refine E_sl ?_ | with_reducible refine E_rev ?_ | with_reducible refine E_neg ?_ | with_reducible refine E_lenSet ?_ | with_reducible refine E_tupRg1 ?_ | with_reducible refine E_tupRg2 ?_ | with_reducible refine E_callF ?_ | with_reducible refine E_callIo ?_ | with_reducible refine E_lit ?_ | with_reducible refine E_var ?_ | with_reducible refine E_meth ?_ | with_reducible refine E_repF ?_ | with_reducible refine E_lstRg1 ?_ | with_reducible refine E_yes ?_ | with_reducible refine E_sorted ?_ | with_reducible refine E_lenSetT ?_ | with_reducible refine E_index ?_ | with_reducible refine E_getLit ?_ | with_reducible refine E_enum ?_ | with_reducible refine E_zip ?_ | with_reducible refine E_join ?_ | with_reducible refine E_split ?_ | with_reducible refine E_fresh ?_ | with_reducible refine E_valK ?_ | with_reducible refine Src_dl ?_ | with_reducible refine Src_dt ?_ | with_reducible refine Io_sl ?_ | with_reducible refine L2_2 ?_ | with_reducible refine L3_3 ?_ | with_reducible refine S_parX ?_ | with_reducible refine S_seq ?_ | with_reducible refine S_skip ?_ | with_reducible refine S_break ?_ | with_reducible refine S_cont ?_ | with_reducible refine S_raise ?_ | with_reducible refine S_retN ?_ | with_reducible refine S_if ?_ | with_reducible refine S_drop ?_ | with_reducible refine S_ret ?_ | with_reducible refine S_set ?_ | with_reducible refine S_setO ?_ | with_reducible refine S_setG ?_ | with_reducible refine S_par2 ?_ | with_reducible refine S_par3 ?_ | with_reducible refine S_setIx ?_ | with_reducible refine S_aug ?_ | with_reducible refine S_augIx ?_ | with_reducible refine S_for ?_ | ((with_reducible apply V_val); focus exact rfl) | ((with_reducible apply V_own); focus exact rfl) | ((with_reducible apply V_scr); focus exact rfl) | ((with_reducible apply Own_own); focus exact rfl) | ((with_reducible apply O_some); focus exact rfl) | ((with_reducible apply B_some); focus exact rfl) | ((with_reducible apply P_some); focus exact rfl) | ((with_reducible apply ite_t); focus exact rfl) | ((with_reducible apply ite_f); focus exact rfl) | ((with_reducible apply O_some); focus (first | exact mul_ok (by decide) | exact mod_ok (by omega) | exact div_ok (by omega))) | ((with_reducible refine And.intro ?_ ?_); focus (first | exact rfl | decide | (simp only [List.length_cons, List.length_nil]; first | done | decide))))

def g__law_is_whole : Sx :=
    (dRet (dAnd (dIsi [.int] (dVar 0)) (dOfT (dNotT (dTru (dIsi [.bool] (dVar 0)))))))
def g__law_is_place : Sx :=
    (dRet (dAnd (dCallF "_law_is_whole" (dCons (dVar 0) dNil)) (dOfT (dChain (fCmpI fun i j => decide (i ≤ j)) (fCmpI fun i j => decide (i < j)) (dLit (.int 0)) (dVar 0) (dVar 1)))))
def g__law_are_places : Sx :=
    (dRet (dAnd (dIsi [.tuple] (dVar 0)) (dOfT (dCmp (fEq) (fz (dLc (dSrc (dVar 0)) [2] (gSlot 2) (dNotT (dTru (dCallF "_law_is_place" (dCons (dVar 2) (dCons (dVar 1) dNil))))) (dVar 2))) (fz (dLst dNil))))))
def g__law_is : Sx :=
    (dRet (dAnd (dIsi [.tuple] (dVar 0)) (dAnd (dOfT (dCmp (fEq) (dCall fLen (dCons (dVar 0) dNil)) (dVar 2))) (dAnd (dIsi [.str] (dBin fIx (dVar 0) (dLit (.int 0)))) (dOfT (dCmp (fEq) (dBin fIx (dVar 0) (dLit (.int 0))) (dVar 1)))))))
theorem lawWhole_ok (T : Tab) (d : PyData) : fnRes 1 false 1 g__law_is_whole T [d] = .ok (.bool (wholeB d)) [] := by
  refine wF_eq (F_run [.val d] rfl rfl ?_)
  unfold g__law_is_whole
  cases d <;> (repeat walk_at "pv") <;> first | done | rfl | exact ⟨rfl, rfl⟩
def LWholeAt (T : Tab) : Prop := ∀ d, T.fn "_law_is_whole" [d] = .ok (.bool (wholeB d)) []
theorem lwhole_at {prog : List (Str × FnI)} {wh : Nat} (hp : prog.lookup ("_law_is_whole" : Str) = some ⟨1, false, 1, g__law_is_whole⟩) (k : Nat) : LWholeAt (tabOf prog wh (k + 1)) := fun d => (tab_fn hp k _).trans (lawWhole_ok _ d)
def placeB (m : Int) : PyData → Bool
  | .int i => decide (0 ≤ i) && decide (i < m)
  | _ => false
theorem place_ok {T : Tab} (WH : LWholeAt T) (d : PyData) (m : Int) : fnRes 2 false 2 g__law_is_place T [d, .int m] = .ok (.bool (placeB m d)) [] := by
  refine wF_eq (F_run [.val d, .val (.int m)] rfl rfl ?_)
  unfold g__law_is_place
  repeat walk_at "pv"
  rw [WH d]
  refine ⟨rfl, .inl rfl, ?_⟩
  cases d with
  | int i =>
    repeat walk_at "pv"
    refine ite_k (fun hk => ?_) fun hk => ?_
    · have hk : decide (0 ≤ i) = true := hk
      repeat walk_at "pv"
      refine ⟨?_, rfl⟩
      show PyData.bool (decide (i < m)) = .bool (decide (0 ≤ i) && decide (i < m))
      rw [hk, Bool.true_and]
    · have hk : decide (0 ≤ i) = false := hk
      repeat walk_at "pv"
      refine ⟨?_, rfl⟩
      show PyData.bool false = .bool (decide (0 ≤ i) && decide (i < m))
      rw [hk, Bool.false_and]
  | _ => (repeat walk_at "pv") <;> first | done | rfl | exact ⟨rfl, rfl⟩
def LPlaceAt (T : Tab) : Prop := ∀ (d : PyData) (m : Int), T.fn "_law_is_place" [d, .int m] = .ok (.bool (placeB m d)) []
theorem lplace_at {prog : List (Str × FnI)} {wh : Nat} (h1 : prog.lookup ("_law_is_whole" : Str) = some ⟨1, false, 1, g__law_is_whole⟩) (hp : prog.lookup ("_law_is_place" : Str) = some ⟨2, false, 2, g__law_is_place⟩) (k : Nat) : LPlaceAt (tabOf prog wh (k + 2)) := fun d m => (tab_fn hp (k + 1) _).trans (place_ok (lwhole_at h1 k) d m)
def placesB (m : Int) : PyData → Bool
  | .tuple xs => xs.all (placeB m)
  | _ => false
theorem okD_filt {B n : Nat} (hB : B ≤ 1000000) (hn : n ≤ 60) {xs : List PyData} (h : Sd B n (.tuple xs)) (p : PyData → Bool) : okD (.list (xs.filter p)) = true := by
  cases n with
  | zero => exact absurd h Sd_tup0
  | succ n =>
    obtain ⟨h1, h2⟩ := Sd_tup.mp h
    have : Sd B (n + 1) (.list (xs.filter p)) := Sd_lst.mpr ⟨Nat.le_trans (List.length_filter_le _ _) h1, fun x hx => h2 x (List.mem_filter.mp hx).1⟩
    exact this.okD (Nat.le_trans hB (by decide)) (by omega)
theorem places_ok {T : Tab} (PL : LPlaceAt T) {B n : Nat} {d : PyData} (hB : B ≤ 1000000) (hn : n ≤ 60) (hd : ∀ xs, d = .tuple xs → Sd B n d) (m : Int) : fnRes 2 false 3 g__law_are_places T [d, .int m] = .ok (.bool (placesB m d)) [] := by
  refine wF_eq (F_run [.val d, .val (.int m), .un] rfl rfl ?_)
  unfold g__law_are_places
  have hL : LINE = 16777216 := rfl
  cases d with
  | tuple xs =>
    have sd := hd xs rfl
    have hl : xs.length ≤ 1000000 := by
      cases n with
      | zero => exact absurd sd Sd_tup0
      | succ n => exact Nat.le_trans (Sd_tup.mp sd).1 hB
    repeat walk_at "pv"
    refine lc1 xs (fun x => !placeB m x) (fun x => x) ?_ rfl hl (fun x hx => ⟨?_, fun _ => ?_⟩) rfl ?_
    · repeat walk_at "pv"
      first | done | rfl | exact ⟨rfl, rfl⟩
    · repeat walk_at "pv"
      rw [PL x m]
      refine ⟨rfl, .inl rfl, ?_⟩
      repeat walk_at "pv"
      first | done | rfl | exact ⟨rfl, rfl⟩
    · repeat walk_at "pv"
      first | done | rfl | exact ⟨rfl, rfl⟩
    rw [List.map_id']
    repeat walk_at "pv"
    refine B_some (fEq_ok (okD_filt hB hn sd _) (by decide)) ?_
    repeat walk_at "pv"
    refine ⟨?_, rfl⟩
    rw [eqv_nilL]
    show PyData.bool _ = .bool (xs.all (placeB m))
    congr 1
    clear hd sd hl
    induction xs with
    | nil => rfl
    | cons a l ih =>
      rw [List.filter_cons, List.all_cons]
      cases placeB m a with
      | true => simpa using ih
      | false => rfl
  | _ => (repeat walk_at "pv") <;> first | done | rfl | exact ⟨rfl, rfl⟩
def LPlacesAt (T : Tab) : Prop := ∀ (B n : Nat) (d : PyData) (m : Int), B ≤ 1000000 → n ≤ 60 → (∀ xs, d = .tuple xs → Sd B n d) → T.fn "_law_are_places" [d, .int m] = .ok (.bool (placesB m d)) []
theorem lplaces_at {prog : List (Str × FnI)} {wh : Nat} (h1 : prog.lookup ("_law_is_whole" : Str) = some ⟨1, false, 1, g__law_is_whole⟩) (h2 : prog.lookup ("_law_is_place" : Str) = some ⟨2, false, 2, g__law_is_place⟩) (hp : prog.lookup ("_law_are_places" : Str) = some ⟨2, false, 3, g__law_are_places⟩) (k : Nat) : LPlacesAt (tabOf prog wh (k + 3)) := fun B n d m hB hn hd => (tab_fn hp (k + 2) _).trans (places_ok (lplace_at h1 h2 k) hB hn hd m)
theorem lis_ok (T : Tab) {B n : Nat} {d : PyData} {w : Str} {c : Nat} (hB : B ≤ 1000000) (hn : n ≤ 60) (hd : Asked B n d) (hw : okD (.str w) = true) (hc : 0 < c) : fnRes 3 false 3 g__law_is T [d, .str w, .int (c : Int)] = .ok (.bool (toldB w c d)) [] := by
  refine wF_eq (F_run [.val d, .val (.str w), .val (.int (c : Int))] rfl rfl ?_)
  unfold g__law_is
  cases d with
  | tuple xs =>
    have sd := Sd_of_asked hd
    repeat walk_at "pv"
    refine ite_k (fun hk => ?_) fun hk => ?_
    · have he : xs.length = c := by
        simp [PyData.eqv] at hk
        omega
      obtain ⟨a, r, rfl⟩ : ∃ a r, xs = a :: r := by
        cases xs with
        | nil => rw [← he] at hc; exact absurd hc (Nat.lt_irrefl _)
        | cons a r => exact ⟨a, r, rfl⟩
      have e0 : fIx (.tuple (a :: r)) (.int 0) = some a := atI_at (i := 0) rfl
      repeat (first | walk_at "pv" | refine O_some e0 ?_)
      cases a with
      | str s =>
        repeat (first | walk_at "pv" | refine O_some e0 ?_)
        have sa : Sd B (n - 1) (.str s) := by
          cases n with
          | zero => exact absurd sd Sd_tup0
          | succ n => exact (Sd_tup.mp sd).2 _ List.mem_cons_self
        refine B_some (fEq_ok (sa.okD (Nat.le_trans hB (by decide)) (by omega)) hw) ?_
        repeat walk_at "pv"
        refine ⟨?_, rfl⟩
        show PyData.bool (s == w) = .bool (decide (r.length + 1 = c) && (s == w))
        rw [decide_eq_true (by rw [List.length_cons] at he; exact he), Bool.true_and]
      | _ => (repeat walk_at "pv") <;> first | done | rfl | exact ⟨rfl, rfl⟩
    · have hne : xs.length ≠ c := fun z => by
        simp [PyData.eqv] at hk
        omega
      repeat walk_at "pv"
      refine ⟨?_, rfl⟩
      rw [hk]
      cases xs with
      | nil => rfl
      | cons a r =>
        cases a with
        | str s =>
          show PyData.bool false = .bool (decide (r.length + 1 = c) && (s == w))
          rw [decide_eq_false (by rw [List.length_cons] at hne; exact hne), Bool.false_and]
        | _ => rfl
  | _ => (repeat walk_at "pv") <;> first | done | rfl | exact ⟨rfl, rfl⟩
def LIsAt (T : Tab) : Prop := ∀ (B n : Nat) (d : PyData) (w : Str) (c : Nat), B ≤ 1000000 → n ≤ 60 → Asked B n d → okD (.str w) = true → 0 < c → T.fn "_law_is" [d, .str w, .int (c : Int)] = .ok (.bool (toldB w c d)) []
theorem lis_at {prog : List (Str × FnI)} {wh : Nat} (hp : prog.lookup ("_law_is" : Str) = some ⟨3, false, 3, g__law_is⟩) (k : Nat) : LIsAt (tabOf prog wh (k + 1)) := fun B n d w c hB hn hd hw hc => (tab_fn hp k _).trans (lis_ok _ hB hn hd hw hc)
end Sh
end
section
set_option Elab.async false
set_option linter.all false
set_option maxRecDepth 100000
set_option maxHeartbeats 1000000
set_option autoImplicit false
namespace Sh
open PySem PySem.Spec PyProof.Rows L2 Pv
local macro_rules | `(tactic| walk_at "pv") => `(tactic| first | ((with_reducible apply S_env); focus (dsimp only [List.set_cons_zero, List.set_cons_succ]; first | done | exact rfl)) | ((with_reducible apply E_env); focus (dsimp only [List.set_cons_zero, List.set_cons_succ]; first | done | exact rfl)) | ((with_reducible apply P_some); focus (dsimp only [takes_cons, takes_nil, takeW_d, Option.bind_some, Option.map_some]; first | done | exact rfl)) | ((with_reducible apply O_some); focus (dsimp only [derefs_cons, derefs_nil, deref_d, Option.bind_some, Option.map_some]; first | done | exact rfl)) | with_reducible refine E_bin ?_ | with_reducible refine E_cmp ?_ | with_reducible refine E_chain ?_ | with_reducible refine E_tru ?_ | with_reducible refine E_ofT ?_ | with_reducible refine E_notT ?_ | with_reducible refine E_isN ?_ | with_reducible refine E_and ?_ | with_reducible refine E_or ?_ | with_reducible refine E_andT ?_ | with_reducible refine E_orT ?_ | with_reducible refine E_if ?_ | with_reducible refine E_nil ?_ | with_reducible refine E_cons ?_ | with_reducible refine E_call ?_ | with_reducible refine E_fz ?_ | with_reducible refine E_tup ?_ | with_reducible refine E_lst ?_ | with_reducible refine E_emptyD ?_ | with_reducible refine E_src ?_ | with_reducible refine E_range1 ?_ | with_reducible refine E_range2 ?_ | with_reducible refine E_isi ?_ | with_reducible refine E_listOf ?_ | with_reducible refine E_noP ?_ | with_reducible refine E_part ?_ | with_reducible refine E_sl ?_ | with_reducible refine E_rev ?_ | with_reducible refine E_neg ?_ | with_reducible refine E_lenSet ?_ | with_reducible refine E_tupRg1 ?_ | with_reducible refine E_tupRg2 ?_ | with_reducible refine E_callF ?_ | with_reducible refine E_callIo ?_ | with_reducible refine E_lit ?_ | with_reducible refine E_var ?_ | with_reducible refine E_meth ?_ | with_reducible refine E_repF ?_ | with_reducible refine E_lstRg1 ?_ | with_reducible refine E_yes ?_ | with_reducible refine E_sorted ?_ | with_reducible refine E_lenSetT ?_ | with_reducible refine E_index ?_ | with_reducible refine E_getLit ?_ | with_reducible refine E_enum ?_ | with_reducible refine E_zip ?_ | with_reducible refine E_join ?_ | with_reducible refine E_split ?_ | with_reducible refine E_fresh ?_ | with_reducible refine E_valK ?_ | with_reducible refine Src_dl ?_ | with_reducible refine Src_dt ?_ | with_reducible refine Io_sl ?_ | with_reducible refine L2_2 ?_ | with_reducible refine L3_3 ?_ | with_reducible refine S_parX ?_ | with_reducible refine S_seq ?_ | with_reducible refine S_skip ?_ | with_reducible refine S_break ?_ | with_reducible refine S_cont ?_ | with_reducible refine S_raise ?_ | with_reducible refine S_retN ?_ | with_reducible refine S_if ?_ | with_reducible refine S_drop ?_ | with_reducible refine S_ret ?_ | with_reducible refine S_set ?_ | with_reducible refine S_setO ?_ | with_reducible refine S_setG ?_ | with_reducible refine S_par2 ?_ | with_reducible refine S_par3 ?_ | with_reducible refine S_setIx ?_ | with_reducible refine S_aug ?_ | with_reducible refine S_augIx ?_ | with_reducible refine S_for ?_ | ((with_reducible apply V_val); focus exact rfl) | ((with_reducible apply V_own); focus exact rfl) | ((with_reducible apply V_scr); focus exact rfl) | ((with_reducible apply Own_own); focus exact rfl) | ((with_reducible apply O_some); focus exact rfl) | ((with_reducible apply B_some); focus exact rfl) | ((with_reducible apply P_some); focus exact rfl) | ((with_reducible apply ite_t); focus exact rfl) | ((with_reducible apply ite_f); focus exact rfl) | ((with_reducible apply O_some); focus (first | exact mul_ok (by decide) | exact mod_ok (by omega) | exact div_ok (by omega))) | ((with_reducible refine And.intro ?_ ?_); focus (first | exact rfl | decide | (simp only [List.length_cons, List.length_nil]; first | done | decide))))

theorem eqv_i (a b : Int) : PyData.eqv (.int a) (.int b) = decide (a = b) := by
  show (a == b) = _
  by_cases h : a = b
  · subst h
    rw [decide_eq_true rfl]
    exact beq_self_eq_true _
  · rw [decide_eq_false h]
    exact beq_eq_false_iff_ne.mpr h
theorem get_int {l : List Int} {i : Nat} {d : PyData} (h : (l.map PyData.int)[i]? = some d) : ∃ c, d = .int c ∧ l[i]? = some c ∧ c ∈ l := by
  rw [List.getElem?_map] at h
  obtain ⟨c, h1, rfl⟩ := Option.map_eq_some_iff.mp h
  exact ⟨c, rfl, h1, List.mem_of_getElem? h1⟩
theorem sl_mid {ns : List Int} {j k : Int} (hj : 0 ≤ j) (hk : 0 ≤ k) : fSl (intsT ns) (some j) (some k) = some (intsT ((ns.drop j.toNat).take (k.toNat - j.toNat))) := by
  show some (PyData.tuple (Pv.cutD (ns.map PyData.int) (some j) (some k))) = _
  rw [cut_mid hj hk, ← List.map_drop, ← List.map_take]
theorem rg_ints (n : Nat) : rgD 0 n = ((List.range n).map fun i : Nat => (i : Int)).map .int := by
  unfold rgD
  rw [List.map_map]
  refine List.map_congr_left fun i _ => ?_
  show PyData.int (0 + (i : Int)) = .int (i : Int)
  rw [Int.zero_add]
theorem wholes_ints {xs : List PyData} (h : xs.all wholeB = true) : xs = (xs.map getI).map .int := by
  induction xs with
  | nil => rfl
  | cons a l ih =>
    rw [List.all_cons, Bool.and_eq_true] at h
    cases a with
    | int i => rw [List.map_cons, List.map_cons, ← ih h.2]; rfl
    | _ => exact absurd h.1 Bool.false_ne_true
end Sh
end
section
set_option Elab.async false
set_option linter.all false
set_option maxRecDepth 100000
set_option maxHeartbeats 1000000
set_option autoImplicit false
namespace Sh
open PySem PySem.Spec PyProof.Rows L2 Pv
local macro_rules | `(tactic| walk_at "pv") => `(tactic| first | ((with_reducible apply S_env); focus (dsimp only [List.set_cons_zero, List.set_cons_succ]; first | done | exact rfl)) | ((with_reducible apply E_env); focus (dsimp only [List.set_cons_zero, List.set_cons_succ]; first | done | exact rfl)) | ((with_reducible apply P_some); focus (dsimp only [takes_cons, takes_nil, takeW_d, Option.bind_some, Option.map_some]; first | done | exact rfl)) | ((with_reducible apply O_some); focus (dsimp only [derefs_cons, derefs_nil, deref_d, Option.bind_some, Option.map_some]; first | done | exact rfl)) | with_reducible refine E_bin ?_ | with_reducible refine E_cmp ?_ | with_reducible refine E_chain ?_ | with_reducible refine E_tru ?_ | with_reducible refine E_ofT ?_ | with_reducible refine E_notT ?_ | with_reducible refine E_isN ?_ | with_reducible refine E_and ?_ | with_reducible refine E_or ?_ | with_reducible refine E_andT ?_ | with_reducible refine E_orT ?_ | with_reducible refine E_if ?_ | with_reducible refine E_nil ?_ | with_reducible refine E_cons ?_ | with_reducible refine E_call ?_ | with_reducible refine E_fz ?_ | with_reducible refine E_tup ?_ | with_reducible refine E_lst ?_ | with_reducible refine E_emptyD ?_ | with_reducible refine E_src ?_ | with_reducible refine E_range1 ?_ | with_reducible refine E_range2 ?_ | with_reducible refine E_isi ?_ | with_reducible refine E_listOf ?_ | with_reducible refine E_noP ?_ | with_reducible refine E_part ?_ | with_reducible refine E_sl ?_ | with_reducible refine E_rev ?_ | with_reducible refine E_neg ?_ | with_reducible refine E_lenSet ?_ | with_reducible refine E_tupRg1 ?_ | with_reducible refine E_tupRg2 ?_ | with_reducible refine E_callF ?_ | with_reducible refine E_callIo ?_ | with_reducible refine E_lit ?_ | with_reducible refine E_var ?_ | with_reducible refine E_meth ?_ | with_reducible refine E_repF ?_ | with_reducible refine E_lstRg1 ?_ | with_reducible refine E_yes ?_ | with_reducible refine E_sorted ?_ | with_reducible refine E_lenSetT ?_ | with_reducible refine E_index ?_ | with_reducible refine E_getLit ?_ | with_reducible refine E_enum ?_ | with_reducible refine E_zip ?_ | with_reducible refine E_join ?_ | with_reducible refine E_split ?_ | with_reducible refine E_fresh ?_ | with_reducible refine E_valK ?_ | with_reducible refine Src_dl ?_ | with_reducible refine Src_dt ?_ | with_reducible refine Io_sl ?_ | with_reducible refine L2_2 ?_ | with_reducible refine L3_3 ?_ | with_reducible refine S_parX ?_ | with_reducible refine S_seq ?_ | with_reducible refine S_skip ?_ | with_reducible refine S_break ?_ | with_reducible refine S_cont ?_ | with_reducible refine S_raise ?_ | with_reducible refine S_retN ?_ | with_reducible refine S_if ?_ | with_reducible refine S_drop ?_ | with_reducible refine S_ret ?_ | with_reducible refine S_set ?_ | with_reducible refine S_setO ?_ | with_reducible refine S_setG ?_ | with_reducible refine S_par2 ?_ | with_reducible refine S_par3 ?_ | with_reducible refine S_setIx ?_ | with_reducible refine S_aug ?_ | with_reducible refine S_augIx ?_ | with_reducible refine S_for ?_ | ((with_reducible apply V_val); focus exact rfl) | ((with_reducible apply V_own); focus exact rfl) | ((with_reducible apply V_scr); focus exact rfl) | ((with_reducible apply Own_own); focus exact rfl) | ((with_reducible apply O_some); focus exact rfl) | ((with_reducible apply B_some); focus exact rfl) | ((with_reducible apply P_some); focus exact rfl) | ((with_reducible apply ite_t); focus exact rfl) | ((with_reducible apply ite_f); focus exact rfl) | ((with_reducible apply O_some); focus (first | exact mul_ok (by decide) | exact mod_ok (by omega) | exact div_ok (by omega))) | ((with_reducible refine And.intro ?_ ?_); focus (first | exact rfl | decide | (simp only [List.length_cons, List.length_nil]; first | done | decide))))

theorem two_row {r : List PyData} (h : r.length + 1 = 3) : ∃ p q, r = [p, q] := by
  match r, h with
  | [p, q], _ => exact ⟨p, q, rfl⟩
theorem one_row {r : List PyData} (h : r.length + 1 = 2) : ∃ q, r = [q] := by
  match r, h with
  | [q], _ => exact ⟨q, rfl⟩
theorem wholes_row {c : Nat} {p : PyData} (h : wholesB c p = true) : ∃ row : List Int, p = intsT row ∧ row.length = c := by
  cases p with
  | tuple xs =>
    have h : (decide (xs.length = c) && xs.all wholeB) = true := h
    rw [Bool.and_eq_true, decide_eq_true_eq] at h
    refine ⟨xs.map getI, congrArg PyData.tuple (wholes_ints h.2), by rw [List.length_map]; exact h.1⟩
  | _ => cases h
/-- a part of what is asked -/
theorem part_len {B n : Nat} {xs : List PyData} {x : PyData} (h : Sd B n (.tuple xs)) (hx : x ∈ xs) (hB : B ≤ 1000000) : ∀ ys, x = .tuple ys → ys.length ≤ 1000000 := fun ys z => by
  subst z
  cases n with
  | zero => exact absurd h Sd_tup0
  | succ n =>
    cases n with
    | zero => exact absurd ((Sd_tup.mp h).2 _ hx) Sd_tup0
    | succ n => exact Nat.le_trans (Sd_tup.mp ((Sd_tup.mp h).2 _ hx)).1 hB
/-- a word and parts -/
theorem parts_told {w : Str} (h : w.length ≤ 300) (h2 : (PyData.str w).canLay0 = true) {xs : List PyData} {B n : Nat} (hB : 300 ≤ B) (hl : xs.length + 1 ≤ B) (hs : ∀ x ∈ xs, Sd B n x ∧ noS x = true) : Told B (n + 1) (.str w :: xs) where
  ne := Nat.zero_lt_succ _
  sd := Sd_tup.mpr ⟨by rw [List.length_cons]; exact hl, fun x hx => by
    rcases List.mem_cons.mp hx with rfl | hx
    · exact word_ok h h2 hB
    · exact (hs x hx).1⟩
  ns := fun x hx => (hs x hx).2
end Sh
end
section
set_option Elab.async false
set_option linter.all false
set_option maxRecDepth 100000
set_option maxHeartbeats 1000000
set_option autoImplicit false
namespace Sh
open PySem PySem.Spec PyProof.Rows L2 Pv
def rowsD (l : List (List Int)) : List PyData := l.map fun r => intsT r
theorem rows_len (l : List (List Int)) : (rowsD l).length = l.length := List.length_map _
end Sh
end
section
set_option Elab.async false
set_option linter.all false
set_option maxRecDepth 100000
set_option maxHeartbeats 1000000
set_option autoImplicit false
namespace Sh
open PySem PySem.Spec PyProof.Rows L2 Pv
local macro_rules | `(tactic| walk_at "pv") => `(tactic| first | ((with_reducible apply S_env); focus (dsimp only [List.set_cons_zero, List.set_cons_succ]; first | done | exact rfl)) | ((with_reducible apply E_env); focus (dsimp only [List.set_cons_zero, List.set_cons_succ]; first | done | exact rfl)) | ((with_reducible apply P_some); focus (dsimp only [takes_cons, takes_nil, takeW_d, Option.bind_some, Option.map_some]; first | done | exact rfl)) | ((with_reducible apply O_some); focus (dsimp only [derefs_cons, derefs_nil, deref_d, Option.bind_some, Option.map_some]; first | done | exact rfl)) | with_reducible refine E_bin ?_ | with_reducible refine E_cmp ?_ | with_reducible refine E_chain ?_ | with_reducible refine E_tru ?_ | with_reducible refine E_ofT ?_ | with_reducible refine E_notT ?_ | with_reducible refine E_isN ?_ | with_reducible refine E_and ?_ | with_reducible refine E_or ?_ | with_reducible refine E_andT ?_ | with_reducible refine E_orT ?_ | with_reducible refine E_if ?_ | with_reducible refine E_nil ?_ | with_reducible refine E_cons ?_ | with_reducible refine E_call ?_ | with_reducible refine E_fz ?_ | with_reducible refine E_tup ?_ | with_reducible refine E_lst ?_ | with_reducible refine E_emptyD ?_ | with_reducible refine E_src ?_ | with_reducible refine E_range1 ?_ | with_reducible refine E_range2 ?_ | with_reducible refine E_isi ?_ | with_reducible refine E_listOf ?_ | with_reducible refine E_noP ?_ | with_reducible refine E_part ?_ | with_reducible refine E_sl ?_ | with_reducible refine E_rev ?_ | with_reducible refine E_neg ?_ | with_reducible refine E_lenSet ?_ | with_reducible refine E_tupRg1 ?_ | with_reducible refine E_tupRg2 ?_ | with_reducible refine E_callF ?_ | with_reducible refine E_callIo ?_ | with_reducible refine E_lit ?_ | with_reducible refine E_var ?_ | with_reducible refine E_meth ?_ | with_reducible refine E_repF ?_ | with_reducible refine E_lstRg1 ?_ | with_reducible refine E_yes ?_ | with_reducible refine E_sorted ?_ | with_reducible refine E_lenSetT ?_ | with_reducible refine E_index ?_ | with_reducible refine E_getLit ?_ | with_reducible refine E_enum ?_ | with_reducible refine E_zip ?_ | with_reducible refine E_join ?_ | with_reducible refine E_split ?_ | with_reducible refine E_fresh ?_ | with_reducible refine E_valK ?_ | with_reducible refine Src_dl ?_ | with_reducible refine Src_dt ?_ | with_reducible refine Io_sl ?_ | with_reducible refine L2_2 ?_ | with_reducible refine L3_3 ?_ | with_reducible refine S_parX ?_ | with_reducible refine S_seq ?_ | with_reducible refine S_skip ?_ | with_reducible refine S_break ?_ | with_reducible refine S_cont ?_ | with_reducible refine S_raise ?_ | with_reducible refine S_retN ?_ | with_reducible refine S_if ?_ | with_reducible refine S_drop ?_ | with_reducible refine S_ret ?_ | with_reducible refine S_set ?_ | with_reducible refine S_setO ?_ | with_reducible refine S_setG ?_ | with_reducible refine S_par2 ?_ | with_reducible refine S_par3 ?_ | with_reducible refine S_setIx ?_ | with_reducible refine S_aug ?_ | with_reducible refine S_augIx ?_ | with_reducible refine S_for ?_ | ((with_reducible apply V_val); focus exact rfl) | ((with_reducible apply V_own); focus exact rfl) | ((with_reducible apply V_scr); focus exact rfl) | ((with_reducible apply Own_own); focus exact rfl) | ((with_reducible apply O_some); focus exact rfl) | ((with_reducible apply B_some); focus exact rfl) | ((with_reducible apply P_some); focus exact rfl) | ((with_reducible apply ite_t); focus exact rfl) | ((with_reducible apply ite_f); focus exact rfl) | ((with_reducible apply O_some); focus (first | exact mul_ok (by decide) | exact mod_ok (by omega) | exact div_ok (by omega))) | ((with_reducible refine And.intro ?_ ?_); focus (first | exact rfl | decide | (simp only [List.length_cons, List.length_nil]; first | done | decide))))

mutual
/-- how many parts, and signs of texts -/
def nz : PyData → Nat
  | .str x => 1 + x.length
  | .tuple xs => 1 + nzs xs
  | .list xs => 1 + nzs xs
  | _ => 1
def nzs : List PyData → Nat
  | [] => 0
  | x :: xs => nz x + nzs xs
end
theorem nzs_app (xs ys : List PyData) : nzs (xs ++ ys) = nzs xs + nzs ys := by
  induction xs with
  | nil => simp [nzs]
  | cons a l ih => simp only [List.cons_append, nzs, ih]; omega
theorem nzs_one (x : PyData) : nzs [x] = nz x := by simp [nzs]
theorem nzs_rev (xs : List PyData) : nzs xs.reverse = nzs xs := by
  induction xs with
  | nil => rfl
  | cons a l ih => rw [List.reverse_cons, nzs_app, nzs_one, ih]; simp only [nzs]; omega
theorem nzs_td (xs : List PyData) (k : Nat) : nzs (xs.take k) + nzs (xs.drop k) = nzs xs := by
  rw [← nzs_app, List.take_append_drop]
theorem nzs_cut {xs : List PyData} {lo hi : Option Int} : nzs (Pv.cutD xs lo hi) ≤ nzs xs := by
  unfold Pv.cutD
  have h1 := nzs_td xs (HT.sIx xs.length 0 lo)
  have h2 := nzs_td (xs.drop (HT.sIx xs.length 0 lo)) (HT.sIx xs.length xs.length hi - HT.sIx xs.length 0 lo)
  omega
theorem nz_pos (d : PyData) : 1 ≤ nz d := by cases d <;> simp only [nz] <;> omega
theorem nz_int (i : Int) : nz (.int i) = 1 := by simp only [nz]
theorem nz_tup (xs : List PyData) : nz (.tuple xs) = 1 + nzs xs := by simp only [nz]
theorem nz_lst (xs : List PyData) : nz (.list xs) = 1 + nzs xs := by simp only [nz]
theorem nz_str (x : Str) : nz (.str x) = 1 + x.length := by simp only [nz]
/-- small, of few parts -/
def Zd (B n S : Nat) (d : PyData) : Prop := Sd B n d ∧ nz d ≤ S
theorem Zd_non {B n S : Nat} (h : 1 ≤ S) : Zd B n S .none := ⟨Sd_non, by simp only [nz]; exact h⟩
theorem Zd_bool {B n S : Nat} {b : Bool} (h : 1 ≤ S) : Zd B n S (.bool b) := ⟨Sd_bool, by simp only [nz]; exact h⟩
theorem Zd_int {B n S : Nat} {i : Int} (h : 1 ≤ S) (hi : i.natAbs ≤ B) : Zd B n S (.int i) := ⟨Sd_int.mpr hi, by simp only [nz]; exact h⟩
theorem Zd_str {B n S : Nat} {x : Str} (h : 1 + x.length ≤ S) (hi : x.length ≤ B ∧ (PyData.str x).canLay0 = true) : Zd B n S (.str x) := ⟨Sd_str.mpr hi, by simp only [nz]; exact h⟩
def ChZ (B n S : Nat) (d : PyData) (io : List PyData) : Prop := ∃ st', io = [st'] ∧ St st' ∧ Zd B n S d
def ChangedZ (T : Tab) (n : Nat) : Prop := ∀ (B S : Nat) (st v : PyData), B ≤ 1000000 → St st → Sd B n v → 5 * nz v + B + 10 ≤ S → wF (T.fn "_law_changed" [st, v]) (ChZ (5 * B + 4) n S) (fun _ => False)
theorem changedZ_step {T : Tab} {n : Nat} (NX : NextAt T) (IH : ∀ m, m < n → ChangedZ T m) {B S : Nat} {st v : PyData} (hn : n ≤ 60) (hB : B ≤ 1000000) (hst : St st) (hv : Sd B n v) (hS : 5 * nz v + B + 10 ≤ S) : wF (r__law_changed T [st, v]) (ChZ (5 * B + 4) n S) (fun _ => False) := by
  have hst0 := hst
  refine F_run [.own true st, .val v, .un, .un, .un, .un, .un] rfl rfl ?_
  unfold g__law_changed t__law_changed_1 t__law_changed_2 t__law_changed_3
  cases v with
  | bool b =>
    repeat walk_at "pv"
    refine draw NX hst (by decide) (by decide) ?_
    intro w st' h0 h1 hst'
    refine ⟨_, rfl, ?_⟩
    repeat walk_at "pv"
    obtain ⟨x, e, hx⟩ := pick (xs := [PyData.bool (!b), PyData.int (if b = true then 1 else 0)]) (P := Zd (5 * B + 4) n S) h0 (by simpa using h1) (by
      intro x hx
      simp only [List.mem_cons, List.not_mem_nil, or_false] at hx
      rcases hx with rfl | rfl
      · exact Zd_bool (by omega)
      · refine Zd_int (by omega) ?_
        cases b <;> simp)
    refine O_some e ?_
    repeat walk_at "pv"
    exact ⟨st', rfl, hst', hx⟩
  | none =>
    repeat walk_at "pv"
    refine draw NX hst (by decide) (by decide) ?_
    intro w st' h0 h1 hst'
    refine ⟨_, rfl, ?_⟩
    repeat walk_at "pv"
    obtain ⟨x, e, hx⟩ := pick (xs := [PyData.int (0 + 1), PyData.int (0 - 1), PyData.int 0, PyData.none, PyData.bool false, PyData.str "None", PyData.int (2 * 1)]) (P := Zd (5 * B + 4) n S) h0 (by simpa using h1) (by
      intro x hx
      simp only [List.mem_cons, List.not_mem_nil, or_false] at hx
      rcases hx with rfl | rfl | rfl | rfl | rfl | rfl | rfl
      all_goals first | exact Zd_non (by omega) | exact Zd_bool (by omega) | (refine Zd_int (by omega) ?_; omega) | skip
      exact Zd_str (by show 1 + 4 ≤ S; omega) ⟨by show 4 ≤ _; omega, lay_of _⟩)
    refine O_some e ?_
    repeat walk_at "pv"
    exact ⟨st', rfl, hst', hx⟩
  | int i =>
    have hi := Sd_int.mp hv
    have hs : fStr [.int i] = some (.str (toString i)) := strI (by omega)
    by_cases hz : i = 0
    · subst hz
      repeat walk_at "pv"
      refine draw NX hst (by decide) (by decide) ?_
      intro w st' h0 h1 hst'
      refine ⟨_, rfl, ?_⟩
      repeat walk_at "pv"
      obtain ⟨x, e, hx⟩ := pick (xs := [PyData.int (0 + 1), PyData.int (0 - 1), PyData.int 0, PyData.none, PyData.bool ((PyData.int 0).eqv (PyData.int 1)), PyData.str (toString (0 : Int)), PyData.int (2 * 1)]) (P := Zd (5 * B + 4) n S) h0 (by simpa using h1) (by
        intro x hx
        simp only [List.mem_cons, List.not_mem_nil, or_false] at hx
        rcases hx with rfl | rfl | rfl | rfl | rfl | rfl | rfl
        all_goals first | exact Zd_non (by omega) | exact Zd_bool (by omega) | (refine Zd_int (by omega) ?_; omega) | skip
        exact Zd_str (by have := len_str_of_int 0; omega) ⟨by have := len_str_of_int 0; omega, lay_of _⟩)
      refine O_some e ?_
      repeat walk_at "pv"
      exact ⟨st', rfl, hst', hx⟩
    · have hne : (i != 0) = true := by simpa using hz
      repeat (first | walk_at "pv" | refine ite_t hne ?_ | refine O_some hs ?_ | refine O_some mulI2 ?_)
      refine draw NX hst (by decide) (by decide) ?_
      intro w st' h0 h1 hst'
      refine ⟨_, rfl, ?_⟩
      repeat walk_at "pv"
      obtain ⟨x, e, hx⟩ := pick (xs := [PyData.int (i + 1), PyData.int (i - 1), PyData.int 0, PyData.none, PyData.bool ((PyData.int i).eqv (PyData.int 1)), PyData.str (toString i), PyData.int (2 * i)]) (P := Zd (5 * B + 4) n S) h0 (by simpa using h1) (by
        intro x hx
        simp only [List.mem_cons, List.not_mem_nil, or_false] at hx
        rcases hx with rfl | rfl | rfl | rfl | rfl | rfl | rfl
        all_goals first | exact Zd_non (by omega) | exact Zd_bool (by omega) | (refine Zd_int (by omega) ?_; omega) | skip
        exact Zd_str (by have := len_str_of_int i; omega) ⟨by have := len_str_of_int i; omega, lay_of _⟩)
      refine O_some e ?_
      repeat walk_at "pv"
      exact ⟨st', rfl, hst', hx⟩
  | str x =>
    obtain ⟨hx1, hx2⟩ := Sd_str.mp hv
    have hL : LINE = 16777216 := rfl
    have hl : x.length ≤ LINE := by omega
    have la : ("a" : Str).length = 1 := by decide +kernel
    have lb : ("b" : Str).length = 1 := by decide +kernel
    rw [nz_str] at hS
    repeat (first | walk_at "pv" | refine O_some (slS hl) ?_ | refine O_some (revS hl) ?_ | refine O_some (addS (a := x) (b := "a") (by omega)) ?_ | refine O_some (addS (a := "b") (b := x) (by omega)) ?_)
    refine draw NX hst (by simp only [List.length_cons, List.length_nil]; decide) (by simp only [List.length_cons, List.length_nil]; decide) ?_
    intro w st' h0 h1 hst'
    refine ⟨_, rfl, ?_⟩
    repeat walk_at "pv"
    obtain ⟨y, e, hy⟩ := pick (xs := [PyData.str (cutS x (some 1) none), PyData.str (x ++ "a"), PyData.str ⟨x.cps.toList.reverse.toArray⟩, PyData.str ("b" ++ x), PyData.str "", PyData.str (cutS x none (some (-1))), PyData.str "left", PyData.int 3, PyData.str "in"]) (P := Zd (5 * B + 4) n S) h0 (by simpa using h1) (by
      intro y hy
      simp only [List.mem_cons, List.not_mem_nil, or_false] at hy
      have c1 := cutS_length x (some 1) none
      have c2 := cutS_length x none (some (-1))
      rcases hy with rfl | rfl | rfl | rfl | rfl | rfl | rfl | rfl | rfl
      · exact Zd_str (by omega) ⟨by omega, lay_cut hx2⟩
      · exact Zd_str (by rw [len_app]; omega) ⟨by rw [len_app]; omega, lay_app hx2 (lay_of _)⟩
      · exact Zd_str (by rw [len_rev]; omega) ⟨by rw [len_rev]; omega, lay_rev hx2⟩
      · exact Zd_str (by rw [len_app]; omega) ⟨by rw [len_app]; omega, lay_app (lay_of _) hx2⟩
      · exact Zd_str (by have : ("" : Str).length ≤ 0 := by decide +kernel
                         omega) ⟨Nat.le_trans (by decide +kernel : ("" : Str).length ≤ 0) (by omega), lay_of _⟩
      · exact Zd_str (by omega) ⟨by omega, lay_cut hx2⟩
      · exact Zd_str (by have : ("left" : Str).length ≤ 4 := by decide +kernel
                         omega) ⟨Nat.le_trans (by decide +kernel : ("left" : Str).length ≤ 4) (by omega), lay_of _⟩
      · refine Zd_int (by omega) ?_
        omega
      · exact Zd_str (by have : ("in" : Str).length ≤ 2 := by decide +kernel
                         omega) ⟨Nat.le_trans (by decide +kernel : ("in" : Str).length ≤ 2) (by omega), lay_of _⟩)
    refine O_some e ?_
    repeat walk_at "pv"
    exact ⟨st', rfl, hst', hy⟩
  | dict l => exact absurd hv Sd_dict
  | list xs =>
    repeat walk_at "pv"
    unfold t__law_changed_4
    repeat walk_at "pv"
    cases n with
    | zero => exact absurd hv Sd_lst0
    | succ n => exact ⟨st, rfl, hst, Sd_tup.mpr ⟨Nat.zero_le _, fun x hx => nomatch hx⟩, by
      show 1 ≤ S
      omega⟩
  | tuple xs =>
    cases n with
    | zero => exact absurd hv Sd_tup0
    | succ n =>
    obtain ⟨hl, hx⟩ := Sd_tup.mp hv
    rw [nz_tup] at hS
    have hL : LINE = 16777216 := rfl
    have okx : okD (.tuple xs) = true := hv.okD (by omega) (by omega)
    have ok0 : okD (.tuple []) = true := rfl
    -- the way of turned rows
    have rows : ∀ (st : PyData), St st → wS (t__law_changed_4 T [.own true st, .val (.tuple xs), .un, .un, .un, .un, .un])
      (fun e => wO (ioOut true e) fun l => ChZ (5 * B + 4) (n + 1) S .none l) (fun d e => wO (ioOut true e) fun l => ChZ (5 * B + 4) (n + 1) S d l) (fun c => true = false ∧ False) (fun _ => False) (fun _ => False) := by
      intro st hst
      unfold t__law_changed_4 t__law_changed_5 t__law_changed_6 t__law_changed_7
      repeat walk_at "pv"
      refine draw NX hst (by show (0 : Int) < (xs.length : Int) + 1; omega) (by show (xs.length : Int) + 1 < _; omega) ?_
      intro w st1 h0 h1 hst1
      refine ⟨_, rfl, ?_⟩
      repeat walk_at "pv"
      refine draw NX hst1 (by show (0 : Int) < (xs.length : Int) + 1; omega) (by show (xs.length : Int) + 1 < _; omega) ?_
      intro w2 st2 h2 h3 hst2
      refine ⟨_, rfl, ?_⟩
      repeat walk_at "pv"
      have c1 := @cut_len xs none (some w)
      have c2 := @cut_len xs (some (w + 1)) none
      have c3 := @cut_len xs none (some 1)
      have c4 := @cut_len xs (some w) none
      have c5 := @cut_len xs (some w2) (some (w2 + 1))
      have c6 := @cut_len xs (some (w + 1)) (some w2)
      have c7 := @cut_len xs (some w) (some (w + 1))
      have c8 := @cut_len xs (some (w2 + 1)) none
      have z1 := @nzs_cut xs none (some w)
      have z2 := @nzs_cut xs (some (w + 1)) none
      have z3 := @nzs_cut xs none (some 1)
      have z4 := @nzs_cut xs (some w) none
      have z5 := @nzs_cut xs (some w2) (some (w2 + 1))
      have z6 := @nzs_cut xs (some (w + 1)) (some w2)
      have z7 := @nzs_cut xs (some w) (some (w + 1))
      have z8 := @nzs_cut xs (some (w2 + 1)) none
      have PR : ∀ ys : List PyData, ys.length ≤ 5 * B + 4 → (∀ y ∈ ys, y ∈ xs ∨ y = .int 0) → 1 + nzs ys ≤ S → Zd (5 * B + 4) (n + 1) S (.tuple ys) ∧ Zd (5 * B + 4) (n + 1) S (.list ys) := by
        intro ys h1 h2 h9
        have h3 : ∀ y ∈ ys, Sd (5 * B + 4) n y := fun y hy => (h2 y hy).elim (fun m => (hx y m).mono (by omega) (Nat.le_refl _)) fun z => by rw [z]; exact Sd_int.mpr (by simp)
        exact ⟨⟨Sd_tup.mpr ⟨h1, h3⟩, by rw [nz_tup]; exact h9⟩, Sd_lst.mpr ⟨h1, h3⟩, by rw [nz_lst]; exact h9⟩
      have M := fun (lo hi : Option Int) (y : PyData) (h : y ∈ Pv.cutD xs lo hi) => (Or.inl (cut_mem h) : y ∈ xs ∨ y = .int 0)
      obtain ⟨swapped, hswE⟩ : ∃ s : List PyData, s = Pv.cutD xs none (some w) ++ Pv.cutD xs (some w2) (some (w2 + 1)) ++ Pv.cutD xs (some (w + 1)) (some w2) ++ Pv.cutD xs (some w) (some (w + 1)) ++ Pv.cutD xs (some (w2 + 1)) none := ⟨_, rfl⟩
      obtain ⟨more, hmE⟩ : ∃ s : List PyData, s = [.tuple (Pv.cutD xs none (some w) ++ Pv.cutD xs (some (w + 1)) none), .tuple (xs ++ Pv.cutD xs none (some 1)), .tuple xs.reverse, .tuple (Pv.cutD xs (some w) none ++ Pv.cutD xs none (some w)), .list xs, .tuple (Pv.cutD xs none (some w)), .tuple [], .tuple (xs ++ [.int 0])] := ⟨_, rfl⟩
      have hmore : ∀ y ∈ more, Zd (5 * B + 4) (n + 1) S y := by
        intro y hy
        simp only [hmE, List.mem_cons, List.not_mem_nil, or_false] at hy
        rcases hy with rfl | rfl | rfl | rfl | rfl | rfl | rfl | rfl
        · exact (PR _ (by rw [List.length_append]; omega) (fun y hy => (List.mem_append.mp hy).elim (M _ _ y) (M _ _ y)) (by rw [nzs_app]; omega)).1
        · exact (PR _ (by rw [List.length_append]; omega) (fun y hy => (List.mem_append.mp hy).elim .inl (M _ _ y)) (by rw [nzs_app]; omega)).1
        · exact (PR _ (by rw [List.length_reverse]; omega) (fun y hy => .inl (List.mem_reverse.mp hy)) (by rw [nzs_rev]; omega)).1
        · exact (PR _ (by rw [List.length_append]; omega) (fun y hy => (List.mem_append.mp hy).elim (M _ _ y) (M _ _ y)) (by rw [nzs_app]; omega)).1
        · exact (PR _ (by omega) (fun y hy => .inl hy) (by omega)).2
        · exact (PR _ (by omega) (fun y hy => M _ _ y hy) (by omega)).1
        · exact (PR [] (Nat.zero_le _) (fun y hy => by cases hy) (by show 1 + 0 ≤ S; omega)).1
        · exact (PR _ (by rw [List.length_append]; show xs.length + 1 ≤ _; omega) (fun y hy => (List.mem_append.mp hy).elim .inl fun m => .inr (List.mem_singleton.mp m)) (by rw [nzs_app, nzs_one, nz_int]; omega)).1
      have hsw : Zd (5 * B + 4) (n + 1) S (.tuple swapped) := (PR _ (by simp only [hswE, List.length_append]; omega) (fun y hy => by
        simp only [hswE, List.mem_append] at hy
        rcases hy with (((hy | hy) | hy) | hy) | hy <;> exact M _ _ y hy) (by simp only [hswE, nzs_app]; omega)).1
      -- the last row
      have lastly : ∀ (L : List PyData), 0 < L.length → L.length ≤ 100 → (∀ y ∈ L, Zd (5 * B + 4) (n + 1) S y) → wS (t__law_changed_9 T [.own true st2, .val (.tuple xs), .un, .val (.int w), .val (.int w2), .val (.list L), .un])
          (fun e => wO (ioOut true e) fun l => ChZ (5 * B + 4) (n + 1) S .none l) (fun d e => wO (ioOut true e) fun l => ChZ (5 * B + 4) (n + 1) S d l) (fun c => true = false ∧ False) (fun _ => False) (fun _ => False) := by
        intro L hL0 hL1 hL2
        unfold t__law_changed_9
        repeat walk_at "pv"
        refine draw NX hst2 (by show (0 : Int) < (L.length : Int); omega) (by show (L.length : Int) < _; omega) ?_
        intro w3 st3 h4 h5 hst3
        refine ⟨_, rfl, ?_⟩
        repeat walk_at "pv"
        obtain ⟨y, e, hy⟩ := pick h4 h5 hL2
        refine O_some e ?_
        repeat walk_at "pv"
        exact ⟨st3, rfl, hst3, hy⟩
      have at8 : ∀ (L : List PyData), 0 < L.length → L.length ≤ 50 → (∀ y ∈ L, Zd (5 * B + 4) (n + 1) S y) → wS (t__law_changed_8 T [.own true st2, .val (.tuple xs), .un, .val (.int w), .val (.int w2), .val (.list L), .un])
          (fun e => wO (ioOut true e) fun l => ChZ (5 * B + 4) (n + 1) S .none l) (fun d e => wO (ioOut true e) fun l => ChZ (5 * B + 4) (n + 1) S d l) (fun c => true = false ∧ False) (fun _ => False) (fun _ => False) := by
        intro L hL0 hL1 hL2
        unfold t__law_changed_8
        repeat walk_at "pv"
        refine ite_k (fun hk => ?_) fun hk => ?_
        · repeat walk_at "pv"
          refine ite_k (fun hk2 => ?_) fun hk2 => ?_
          · repeat walk_at "pv"
            refine lc_pure (p := fun _ => true) (f := fun _ => .tuple swapped) (ds := rgD 0 3) (e0 := [.own true st2, .val (.tuple xs), .un, .val (.int w), .val (.int w2), .val (.list L), .un]) ?_ rfl (by decide) ?_ rfl ?_
            · repeat walk_at "pv"
              first | done | rfl
            · intro d hd
              refine ⟨[.own true st2, .val (.tuple xs), .un, .val (.int w), .val (.int w2), .val (.list L), .val d], rfl, rfl, ⟨rfl, rfl⟩, fun _ => ?_⟩
              repeat (first | walk_at "pv" | refine O_some (addT (by (try simp only [List.length_append, List.length_cons, List.length_nil]); omega)) ?_)
              first | done | exact ⟨by rw [hswE], rfl⟩ | rfl
            · have hlen : (((rgD 0 3).filter fun _ => true).map fun _ => PyData.tuple swapped).length = 3 := rfl
              repeat walk_at "pv"
              refine O_some (addL (by rw [hlen]; omega)) ?_
              repeat walk_at "pv"
              refine lastly _ (by rw [List.length_append]; omega) (by rw [List.length_append, hlen]; omega) ?_
              intro y hy
              rcases List.mem_append.mp hy with hy | hy
              · exact hL2 y hy
              · obtain ⟨_, _, rfl⟩ := List.mem_map.mp hy
                exact hsw
          · repeat walk_at "pv"
            exact lastly L hL0 (by omega) hL2
        · repeat walk_at "pv"
          exact lastly L hL0 (by omega) hL2
      repeat (first | walk_at "pv" | refine O_some (addT (by (try simp only [List.length_append, List.length_cons, List.length_nil]); omega)) ?_)
      rw [← hmE]
      exact at8 more (by rw [hmE]; simp) (by rw [hmE]; simp) hmore
    by_cases hxs : xs = []
    · subst hxs
      repeat walk_at "pv"
      exact rows st hst
    · have k1 : PyData.eqv (.tuple xs) (.tuple []) = false := by
        cases xs with
        | nil => exact absurd rfl hxs
        | cons y ys => rfl
      have hpos : 0 < xs.length := List.length_pos_iff.mpr hxs
      repeat walk_at "pv"
      refine B_some (fNe_ok okx ok0) ?_
      rw [k1]
      repeat walk_at "pv"
      refine draw NX hst (by decide) (by decide) ?_
      intro w st1 h0 h1 hst1
      refine ⟨_, rfl, ?_⟩
      repeat walk_at "pv"
      refine ite_k (fun hk => ?_) fun hk => ?_
      · repeat walk_at "pv"
        refine draw NX hst1 (by show (0 : Int) < (xs.length : Int); omega) (by show (xs.length : Int) < _; omega) ?_
        intro k st2 h2 h3 hst2
        refine ⟨_, rfl, ?_⟩
        have h3 : k < (xs.length : Int) := h3
        repeat walk_at "pv"
        obtain ⟨y, ey, hy, hy2⟩ := atI_mem h2 h3
        refine O_some (show fIx (.tuple xs) (.int k) = some y from ey) ?_
        repeat walk_at "pv"
        refine wF_mono (IH n (Nat.lt_succ_self n) B (5 * nz y + B + 10) st2 y hB hst2 (hx y hy) (Nat.le_refl _)) ?_ (fun _ z => z)
        rintro d io ⟨st3, rfl, hst3, hd⟩
        refine ⟨_, rfl, ?_⟩
        have c1 := @cut_len xs none (some k)
        have c2 := @cut_len xs (some (k + 1)) none
        repeat (first | walk_at "pv" | refine O_some (addT (by (try simp only [List.length_append, List.length_cons, List.length_nil]); omega)) ?_)
        refine ⟨st3, rfl, hst3, Sd_tup.mpr ⟨?_, fun z hz => ?_⟩, ?_⟩
        · simp only [List.length_append, List.length_cons, List.length_nil]
          rw [cut_to h2, cut_from (by omega), List.length_take, List.length_drop]
          omega
        · rcases List.mem_append.mp hz with hz | hz
          · rcases List.mem_append.mp hz with hz | hz
            · exact (hx z (cut_mem hz)).mono (by omega) (Nat.le_refl _)
            · rw [List.mem_singleton.mp hz]
              exact hd.1
          · exact (hx z (cut_mem hz)).mono (by omega) (Nat.le_refl _)
        · rw [nz_tup, nzs_app, nzs_app, nzs_one, cut_to h2, cut_from (by omega)]
          have d1 := nzs_td xs k.toNat
          have d2 := nzs_td (xs.drop k.toNat) 1
          rw [List.drop_drop, show k.toNat + 1 = (k + 1).toNat by omega] at d2
          have d3 : nzs ((xs.drop k.toNat).take 1) = nz y := by
            rw [← nzs_one y]
            congr 1
            rw [List.drop_eq_getElem_cons (List.getElem?_eq_some_iff.mp hy2).1, (List.getElem?_eq_some_iff.mp hy2).2]
            rfl
          have d4 := hd.2
          omega
      · repeat walk_at "pv"
        exact rows _ hst1
theorem changedZ_at {prog : List (Str × FnI)} {wh : Nat} (h1 : prog.lookup ("_law_next" : Str) = some ⟨2, true, 4, g__law_next⟩) (hp : prog.lookup ("_law_changed" : Str) = some ⟨2, true, 7, g__law_changed⟩) : ∀ k n, n < k → n ≤ 60 → ChangedZ (tabOf prog wh (k + 1)) n
  | 0, n, hn, _ => absurd hn (Nat.not_lt_zero _)
  | k + 1, n, hn, h60 => fun B S st v hB hst hv hS => by
    show wF (match prog.lookup ("_law_changed" : Str) with | some i => fnRes i.n i.io i.tot i.body (tabOf prog wh (k + 1)) [st, v] | none => .bad) _ _
    rw [hp]
    exact changedZ_step (next_at h1 k) (fun m hm => changedZ_at h1 hp k m (by omega) (by omega)) h60 hB hst hv hS
def ExchZ (T : Tab) (n : Nat) : Prop := ∀ (B : Nat) (v : PyData) (a b : Int), B ≤ 1000000 → Sd B n v → a.natAbs ≤ B → b.natAbs ≤ B → ∃ d, T.fn "_law_exchanged" [v, .int a, .int b] = .ok d [] ∧ Sd B n d ∧ nz d = nz v
theorem exchZ_step {T : Tab} {n : Nat} (IH : ∀ m, m < n → ExchZ T m) {B : Nat} {v : PyData} {a b : Int} (hB : B ≤ 1000000) (hv : Sd B n v) (ha : a.natAbs ≤ B) (hb : b.natAbs ≤ B) : ∃ d, r__law_exchanged T [v, .int a, .int b] = .ok d [] ∧ Sd B n d ∧ nz d = nz v := by
  refine wF_det (F_run [.val v, .val (.int a), .val (.int b), .un] rfl rfl ?_)
  unfold g__law_exchanged
  have hL : LINE = 16777216 := rfl
  cases v with
  | none =>
    repeat walk_at "pv"
    exact ⟨hv, rfl⟩
  | bool b =>
    repeat walk_at "pv"
    exact ⟨hv, rfl⟩
  | str b =>
    repeat walk_at "pv"
    exact ⟨hv, rfl⟩
  | list b =>
    repeat walk_at "pv"
    exact ⟨hv, rfl⟩
  | dict b => exact absurd hv Sd_dict
  | int i =>
    repeat walk_at "pv"
    refine ite_k (fun hk => ?_) fun hk => ?_
    · repeat walk_at "pv"
      exact ⟨Sd_int.mpr hb, by rw [nz_int, nz_int]⟩
    · repeat walk_at "pv"
      refine ite_k (fun hk => ?_) fun hk => ?_
      · repeat walk_at "pv"
        exact ⟨Sd_int.mpr ha, by rw [nz_int, nz_int]⟩
      · repeat walk_at "pv"
        exact ⟨hv, rfl⟩
  | tuple xs =>
    cases n with
    | zero => exact absurd hv Sd_tup0
    | succ n =>
    obtain ⟨hl, hx⟩ := Sd_tup.mp hv
    have ih := fun x (h : x ∈ xs) => IH n (Nat.lt_succ_self n) B x a b hB (hx x h) ha hb
    have e0 : ((xs.filter fun _ => true).map fun x => valOf (T.fn "_law_exchanged" [x, .int a, .int b])) = xs.map fun x => valOf (T.fn "_law_exchanged" [x, .int a, .int b]) := by
      rw [List.filter_eq_self.mpr fun _ _ => rfl]
    repeat walk_at "pv"
    refine lc_pure (p := fun _ => true) (f := fun x => valOf (T.fn "_law_exchanged" [x, .int a, .int b])) (ds := xs) (e0 := [.val (.tuple xs), .val (.int a), .val (.int b), .un]) ?_ rfl (by omega) ?_ rfl ?_
    · repeat walk_at "pv"
      first | done | rfl
    · intro x hx2
      obtain ⟨d, e1, _⟩ := ih x hx2
      refine ⟨[.val (.tuple xs), .val (.int a), .val (.int b), .val x], rfl, rfl, ⟨rfl, rfl⟩, fun _ => ?_⟩
      repeat walk_at "pv"
      rw [e1]
      exact ⟨rfl, .inl rfl, rfl, rfl⟩
    · rw [e0]
      repeat walk_at "pv"
      refine ⟨Sd_tup.mpr ⟨by rw [List.length_map]; exact hl, fun y hy => ?_⟩, ?_⟩
      · obtain ⟨x, hx2, rfl⟩ := List.mem_map.mp hy
        obtain ⟨d, e1, h1⟩ := ih x hx2
        rw [e1]
        exact h1.1
      · rw [nz_tup, nz_tup]
        refine congrArg _ ?_
        clear e0 hl hx hv
        induction xs with
        | nil => rfl
        | cons y l ih2 =>
          obtain ⟨d, e1, h1⟩ := ih y List.mem_cons_self
          simp only [List.map_cons, nzs]
          rw [ih2 (fun x hx => ih x (List.mem_cons_of_mem _ hx)), e1]
          show nz d + _ = _
          rw [h1.2]
theorem exchZ_at {prog : List (Str × FnI)} {wh : Nat} (hp : prog.lookup ("_law_exchanged" : Str) = some ⟨3, false, 4, g__law_exchanged⟩) : ∀ k n, n < k → ExchZ (tabOf prog wh k) n
  | 0, n, hn => absurd hn (Nat.not_lt_zero _)
  | k + 1, n, hn => fun B v a b hB hv ha hb => by
    show ∃ d, (match prog.lookup ("_law_exchanged" : Str) with | some i => fnRes i.n i.io i.tot i.body (tabOf prog wh k) [v, .int a, .int b] | none => .bad) = _ ∧ _
    rw [hp]
    exact exchZ_step (fun m hm => exchZ_at hp k m (by omega)) hB hv ha hb
theorem swap_nz {xs : List PyData} {k j : Int} : nzs (Pv.cutD xs none (some k) ++ Pv.cutD xs (some j) (some (j + 1)) ++ Pv.cutD xs (some (k + 1)) none) ≤ 3 * nzs xs := by
  have z1 := @nzs_cut xs none (some k)
  have z2 := @nzs_cut xs (some j) (some (j + 1))
  have z3 := @nzs_cut xs (some (k + 1)) none
  rw [nzs_app, nzs_app]
  omega
theorem turnedZ_step {T : Tab} {n B S : Nat} (NX : NextAt T) (IN : IntsAt T (n + 1)) (EX : ExchZ T (n + 1)) (CU : ∀ m, m ≤ n + 1 → CutAt T m) {st : PyData} {xs : List PyData} (h60 : n + 1 ≤ 60) (hB : B + 1 ≤ 1000000) (hst : St st) (ht : Told B (n + 1) xs) (hS : 5 * nz (.tuple xs) + B + 10 ≤ S) : wF (r__law_turned_about T [st, .tuple xs]) (ChZ (5 * B + 4) (n + 1) S) (fun _ => False) := by
  refine F_run [.own true st, .val (.tuple xs), .un, .un, .un, .un, .un, .un, .un] rfl rfl ?_
  unfold g__law_turned_about
  have hL : LINE = 16777216 := rfl
  have hpos := ht.ne
  rw [nz_tup] at hS
  obtain ⟨hl, hx⟩ := Sd_tup.mp ht.sd
  have same : ∀ (st' : PyData), St st' → ChZ (5 * B + 4) (n + 1) S (.tuple xs) [st'] := fun st' h => ⟨st', rfl, h, ht.sd.mono (by omega) (Nat.le_refl _), by rw [nz_tup]; omega⟩
  -- the last row
  have at6 : ∀ (st' : PyData) (c2 c3 c4 c5 : SV) (k j : Int), St st' → 0 ≤ k → k < xs.length → 0 ≤ j → wS (t__law_turned_about_6 T [.own true st', .val (.tuple xs), c2, c3, c4, c5, .un, .val (.int k), .val (.int j)])
      (fun e => wO (ioOut true e) fun l => ChZ (5 * B + 4) (n + 1) S .none l) (fun d e => wO (ioOut true e) fun l => ChZ (5 * B + 4) (n + 1) S d l) (fun c => true = false ∧ False) (fun _ => False) (fun _ => False) := by
    intro st' c2 c3 c4 c5 k j h h0 hk h1
    have L1 := @cut_len xs none (some k)
    have L2' := @cut_len xs (some j) (some (j + 1))
    have L3 := @cut_len xs (some (k + 1)) none
    unfold t__law_turned_about_6
    repeat walk_at "pv"
    refine ite_k (fun _ => ?_) fun _ => ?_
    · repeat walk_at "pv"
      refine ite_k (fun _ => ?_) fun _ => ?_
      · repeat (first | walk_at "pv" | refine O_some (addT (by (try simp only [List.length_append, List.length_cons, List.length_nil]); omega)) ?_)
        exact ⟨st', rfl, h, Sd_tup.mpr ⟨Nat.le_trans (swap_len h0 h1 hk) (by omega), fun y hy => (hx y (swap_mem hy)).mono (by omega) (Nat.le_refl _)⟩, by
          rw [nz_tup]
          have := @swap_nz xs k j
          omega⟩
      · repeat walk_at "pv"
        exact same st' h
    · repeat walk_at "pv"
      exact same st' h
  have at5 : ∀ (st' : PyData) (c2 c3 c4 c5 : SV) (k j : Int), St st' → 0 ≤ k → k < xs.length → 0 ≤ j → wS (t__law_turned_about_5 T [.own true st', .val (.tuple xs), c2, c3, c4, c5, .un, .val (.int k), .val (.int j)])
      (fun e => wO (ioOut true e) fun l => ChZ (5 * B + 4) (n + 1) S .none l) (fun d e => wO (ioOut true e) fun l => ChZ (5 * B + 4) (n + 1) S d l) (fun c => true = false ∧ False) (fun _ => False) (fun _ => False) := by
    intro st' c2 c3 c4 c5 k j h h0 hk h1
    unfold t__law_turned_about_5
    repeat walk_at "pv"
    refine ite_k (fun hk2 => ?_) fun hk2 => ?_
    · have hl2 : xs.length = 2 := by
        simp [PyData.eqv] at hk2
        omega
      obtain ⟨a, b, rfl⟩ : ∃ a b, xs = [a, b] := by
        match xs, hl2 with
        | [a, b], _ => exact ⟨a, b, rfl⟩
      repeat walk_at "pv"
      cases b with
      | tuple ys =>
        cases n with
        | zero => exact absurd (hx (.tuple ys) (by simp)) Sd_tup0
        | succ n =>
        have hb := hx (.tuple ys) (by simp)
        obtain ⟨hyl, hy⟩ := Sd_tup.mp hb
        have okb : okD (.tuple ys) = true := hb.okD (by omega) (by omega)
        repeat walk_at "pv"
        refine B_some (fNe_ok okb rfl) ?_
        rw [eqv_nilT]
        by_cases hys : ys = []
        · subst hys
          repeat walk_at "pv"
          exact at6 st' c2 c3 c4 c5 k j h h0 hk h1
        · have he : ys.isEmpty = false := by
            cases ys with
            | nil => exact absurd rfl hys
            | cons a l => rfl
          have hypos : 0 < ys.length := List.length_pos_iff.mpr hys
          rw [he]
          repeat walk_at "pv"
          refine draw NX h (by show (0 : Int) < (ys.length : Int); omega) (by show (ys.length : Int) < _; omega) ?_
          intro p st1 p0 p1 hst1
          refine ⟨_, rfl, ?_⟩
          repeat walk_at "pv"
          refine draw NX hst1 (by show (0 : Int) < (ys.length : Int); omega) (by show (ys.length : Int) < _; omega) ?_
          intro q st2 q0 q1 hst2
          refine ⟨_, rfl, ?_⟩
          have L1 := @cut_len ys none (some p)
          have L2' := @cut_len ys (some q) (some (q + 1))
          have L3 := @cut_len ys (some (p + 1)) none
          repeat (first | walk_at "pv" | refine O_some (addT (by (try simp only [List.length_append, List.length_cons, List.length_nil]); omega)) ?_)
          refine ⟨st2, rfl, hst2, Sd_tup.mpr ⟨by simp only [List.length_cons, List.length_nil]; omega, fun z hz => ?_⟩, by
            have := @swap_nz ys p q
            simp only [nzs, nz_tup] at hS
            simp only [nzs, nz_tup]
            omega⟩
          rcases List.mem_cons.mp hz with rfl | hz
          · exact (hx z (by simp)).mono (by omega) (Nat.le_refl _)
          · rw [List.mem_singleton.mp hz]
            exact Sd_tup.mpr ⟨Nat.le_trans (swap_len p0 q0 p1) (by omega), fun y hy2 => (hy y (swap_mem hy2)).mono (by omega) (Nat.le_refl _)⟩
      | _ =>
        repeat walk_at "pv"
        exact at6 st' c2 c3 c4 c5 k j h h0 hk h1
    · repeat walk_at "pv"
      exact at6 st' c2 c3 c4 c5 k j h h0 hk h1
  have at4 : ∀ (st' : PyData) (c2 c3 c4 c5 : SV), St st' → wS (t__law_turned_about_4 T [.own true st', .val (.tuple xs), c2, c3, c4, c5, .un, .un, .un])
      (fun e => wO (ioOut true e) fun l => ChZ (5 * B + 4) (n + 1) S .none l) (fun d e => wO (ioOut true e) fun l => ChZ (5 * B + 4) (n + 1) S d l) (fun c => true = false ∧ False) (fun _ => False) (fun _ => False) := by
    intro st' c2 c3 c4 c5 h
    unfold t__law_turned_about_4
    repeat walk_at "pv"
    refine draw NX h (by show (0 : Int) < (xs.length : Int); omega) (by show (xs.length : Int) < _; omega) ?_
    intro p st1 p0 p1 hst1
    refine ⟨_, rfl, ?_⟩
    repeat walk_at "pv"
    refine draw NX hst1 (by show (0 : Int) < (xs.length : Int); omega) (by show (xs.length : Int) < _; omega) ?_
    intro q st2 q0 q1 hst2
    refine ⟨_, rfl, ?_⟩
    repeat walk_at "pv"
    exact at5 st2 c2 c3 c4 c5 p q hst2 p0 p1 q0
  have at3 : ∀ (st' : PyData) (c2 c4 c5 : SV) (p : Int), St st' → wS (t__law_turned_about_3 T [.own true st', .val (.tuple xs), c2, .val (.int p), c4, c5, .un, .un, .un])
      (fun e => wO (ioOut true e) fun l => ChZ (5 * B + 4) (n + 1) S .none l) (fun d e => wO (ioOut true e) fun l => ChZ (5 * B + 4) (n + 1) S d l) (fun c => true = false ∧ False) (fun _ => False) (fun _ => False) := by
    intro st' c2 c4 c5 p h
    unfold t__law_turned_about_3
    have cf : Pv.cutD xs (some 1) none = xs.drop 1 := cut_from (by omega)
    have ct : Pv.cutD xs none (some 1) = xs.take 1 := cut_to (by omega)
    have td : xs.take 1 ++ xs.drop 1 = xs := List.take_append_drop 1 xs
    have ld : (xs.drop 1).length ≤ xs.length := by rw [List.length_drop]; omega
    have lt : (xs.take 1).length ≤ xs.length := by rw [List.length_take]; omega
    have hmem : ∀ y ∈ xs.drop 1, y ∈ xs := fun y hy => List.mem_of_mem_drop hy
    repeat walk_at "pv"
    refine ite_k (fun hk => ?_) fun hk => ?_
    · repeat walk_at "pv"
      refine ite_k (fun hk2 => ?_) fun hk2 => ?_
      · repeat walk_at "pv"
        rw [cf]
        have nd : noS (.tuple (xs.drop 1)) = true := by simpa [noS] using noSs_iff.mpr ht.ns
        refine wF_mono (CU (n + 1) (Nat.le_refl _) B st' (.tuple (xs.drop 1)) (by omega) h (Sd_tup.mpr ⟨by omega, fun y hy => hx y (hmem y hy)⟩) nd) ?_ (fun _ z => z)
        rintro d io ⟨rfl, st3, rfl, hst3⟩
        refine ⟨_, rfl, ?_⟩
        repeat walk_at "pv"
        refine O_some (addT (by rw [ct]; omega)) ?_
        rw [ct, td]
        repeat walk_at "pv"
        exact same st3 hst3
      · repeat walk_at "pv"
        refine lc_inv (I := fun i acc e => ∃ st2, St st2 ∧ acc = (xs.drop 1).take i ∧ e = [.own true st2, .val (.tuple xs), c2, .val (.int p), c4, c5, .un, .un, .un]) (ds := xs.drop 1) (e0 := [.own true st', .val (.tuple xs), c2, .val (.int p), c4, c5, .un, .un, .un]) ?_ rfl (fun i d acc e hd hI => ?_) ⟨st', h, rfl, rfl⟩ (fun acc e hI => ?_)
        · repeat walk_at "pv"
          rw [cf]
          first | done | rfl | exact ⟨rfl, rfl⟩
        · obtain ⟨st2, hst2, rfl, rfl⟩ := hI
          refine ⟨[.own true st2, .val (.tuple xs), c2, .val (.int p), c4, c5, .val d, .un, .un], rfl, ?_⟩
          have hd2 := List.mem_of_getElem? hd
          repeat walk_at "pv"
          refine wF_mono (CU n (Nat.le_succ _) B st2 d (by omega) hst2 (hx d (hmem d hd2)) (ht.ns d hd2)) ?_ (fun _ z => z)
          rintro d' io ⟨rfl, st3, rfl, hst3⟩
          refine ⟨_, rfl, ?_⟩
          repeat walk_at "pv"
          have hil : i < (xs.drop 1).length := (List.getElem?_eq_some_iff.mp hd).1
          refine ⟨by rw [List.length_take]; omega, st3, hst3, ?_, rfl⟩
          rw [List.take_add_one, hd]
          rfl
        · obtain ⟨st2, hst2, rfl, rfl⟩ := hI
          rw [List.take_length]
          repeat walk_at "pv"
          refine O_some (addT (by rw [ct]; omega)) ?_
          rw [ct, td]
          repeat walk_at "pv"
          exact same st2 hst2
    · repeat walk_at "pv"
      exact at4 st' c2 (.val (.int p)) c4 c5 h
  obtain ⟨d, e1, ns, rfl, nd, hb⟩ := IN B (.tuple xs) (by omega) ht.sd
  have nl := nodup_len nd hb
  repeat walk_at "pv"
  rw [e1]
  refine ⟨rfl, .inl rfl, ?_⟩
  repeat walk_at "pv"
  unfold t__law_turned_about_1
  repeat walk_at "pv"
  refine draw NX hst (by decide) (by decide) ?_
  intro p st1 p0 p1 hst1
  refine ⟨_, rfl, ?_⟩
  repeat walk_at "pv"
  unfold t__law_turned_about_2
  repeat walk_at "pv"
  refine ite_k (fun hk => ?_) fun hk => ?_
  · repeat walk_at "pv"
    refine B_some (fNe_ok (okD_ints ns) rfl) ?_
    rw [eqv_nilL]
    by_cases hns : ns = []
    · subst hns
      repeat walk_at "pv"
      exact at3 st1 _ _ _ p hst1
    · have he : (ns.map PyData.int).isEmpty = false := by
        cases ns with
        | nil => exact absurd rfl hns
        | cons a l => rfl
      have hnpos : 0 < ns.length := List.length_pos_iff.mpr hns
      have gl : (ns.map PyData.int).length = ns.length := List.length_map _
      rw [he]
      repeat walk_at "pv"
      refine draw NX hst1 (by show (0 : Int) < ((ns.map PyData.int).length : Int); omega) (by show ((ns.map PyData.int).length : Int) < _; omega) ?_
      intro q st2 q0 q1 hst2
      refine ⟨_, rfl, ?_⟩
      repeat walk_at "pv"
      obtain ⟨y, ey, hy⟩ := pick (P := fun y => ∃ i : Int, y = .int i ∧ i.natAbs ≤ B) q0 q1 (fun y hy => by
        obtain ⟨i, hi, rfl⟩ := List.mem_map.mp hy
        exact ⟨i, rfl, hb i hi⟩)
      obtain ⟨i, rfl, hi⟩ := hy
      refine O_some ey ?_
      repeat walk_at "pv"
      have fin : ∀ (st3 : PyData) (j : Int), St st3 → j.natAbs ≤ B + 1 → ∃ d, T.fn "_law_exchanged" [.tuple xs, .int i, .int j] = .ok d [] ∧ ChZ (5 * B + 4) (n + 1) S d [st3] := by
        intro st3 j h hj
        obtain ⟨d, e2, hd⟩ := EX (B + 1) (.tuple xs) i j hB (ht.sd.mono (by omega) (Nat.le_refl _)) (by omega) hj
        exact ⟨d, e2, st3, rfl, h, hd.1.mono (by omega) (Nat.le_refl _), by rw [hd.2, nz_tup]; omega⟩
      refine ite_k (fun hk2 => ?_) fun hk2 => ?_
      · obtain ⟨d, e2, hd⟩ := fin st2 (i + 1) hst2 (by omega)
        repeat walk_at "pv"
        rw [e2]
        refine ⟨rfl, .inl rfl, ?_⟩
        repeat walk_at "pv"
        exact hd
      · repeat walk_at "pv"
        refine draw NX hst2 (by show (0 : Int) < ((ns.map PyData.int).length : Int); omega) (by show ((ns.map PyData.int).length : Int) < _; omega) ?_
        intro q2 st3 q20 q21 hst3
        refine ⟨_, rfl, ?_⟩
        repeat walk_at "pv"
        obtain ⟨y2, ey2, hy2⟩ := pick (P := fun y => ∃ i : Int, y = .int i ∧ i.natAbs ≤ B) q20 q21 (fun y hy => by
          obtain ⟨i, hi, rfl⟩ := List.mem_map.mp hy
          exact ⟨i, rfl, hb i hi⟩)
        obtain ⟨j, rfl, hj⟩ := hy2
        refine O_some ey2 ?_
        obtain ⟨d, e2, hd⟩ := fin st3 j hst3 (by omega)
        repeat walk_at "pv"
        rw [e2]
        refine ⟨rfl, .inl rfl, ?_⟩
        repeat walk_at "pv"
        exact hd
  · repeat walk_at "pv"
    exact at3 st1 _ _ _ p hst1
def TurnedZ (T : Tab) (n : Nat) : Prop := ∀ (B S : Nat) (st : PyData) (xs : List PyData), B + 1 ≤ 1000000 → St st → Told B (n + 1) xs → 5 * nz (.tuple xs) + B + 10 ≤ S → wF (T.fn "_law_turned_about" [st, .tuple xs]) (ChZ (5 * B + 4) (n + 1) S) (fun _ => False)
/-- what is asked, with its total size -/
def AskedZ (B n S : Nat) (d : PyData) : Prop := Zd B n S d ∨ d = .dict []
def OddZ (B n S : Nat) (d : PyData) (io : List PyData) : Prop := ∃ st', io = [st'] ∧ St st' ∧ AskedZ B n S d
theorem AskedZ.asked {B n S : Nat} {d : PyData} (h : AskedZ B n S d) : Asked B n d := h.imp (fun z => z.1) id
theorem oddZ_step {T : Tab} {n B S : Nat} (NX : NextAt T) (CH : ChangedZ T (n + 1)) (TU : TurnedZ T n) {st : PyData} {xs : List PyData} (hB : B + 1 ≤ 1000000) (hst : St st) (ht : Told B (n + 1) xs) (hS : 5 * nz (.tuple xs) + B + 40 ≤ S) : wF (r__law_odd T [st, .tuple xs]) (OddZ (5 * B + 20) (n + 2) S) (fun _ => False) := by
  refine F_run [.own true st, .val (.tuple xs), .un, .un] rfl rfl ?_
  unfold g__law_odd
  have hL : LINE = 16777216 := rfl
  have hpos := ht.ne
  obtain ⟨hl, hx⟩ := Sd_tup.mp ht.sd
  obtain ⟨a, rest, rfl⟩ : ∃ a rest, xs = a :: rest := by
    cases xs with
    | nil => exact absurd hpos (Nat.lt_irrefl _)
    | cons a l => exact ⟨a, l, rfl⟩
  have cf : Pv.cutD (a :: rest) (some 1) none = rest := cut_from (by omega)
  have ct : Pv.cutD (a :: rest) none (some 1) = [a] := cut_to (by omega)
  have hl' : rest.length + 1 ≤ B := hl
  repeat (first | walk_at "pv" | refine O_some (addT (by (try simp only [ct, cf, List.length_append, List.length_cons, List.length_nil]); omega)) ?_ | refine O_some (show fIx (.tuple (a :: rest)) (.int 0) = some a from atI_at (i := 0) rfl) ?_)
  rw [ct, cf]
  have hS2 := hS
  rw [nz_tup] at hS2
  simp only [nzs] at hS2
  have pa := nz_pos a
  have E : ∀ ys : List PyData, ys.length ≤ B + 3 → (∀ y ∈ ys, y ∈ a :: rest ∨ y = .int 0 ∨ y = .list [a] ∨ y = .str "none such") → 1 + nzs ys ≤ S → Zd (5 * B + 20) (n + 2) S (.tuple ys) ∧ Zd (5 * B + 20) (n + 2) S (.list ys) := by
    intro ys h1 h2 h9
    have h3 : ∀ y ∈ ys, Sd (5 * B + 20) (n + 1) y := fun y hy => by
      rcases h2 y hy with m | rfl | rfl | rfl
      · exact (hx y m).mono (by omega) (Nat.le_succ _)
      · exact Sd_int.mpr (by simp)
      · exact Sd_lst.mpr ⟨by show 1 ≤ _; omega, fun z hz => by rw [List.mem_singleton.mp hz]; exact (hx a List.mem_cons_self).mono (by omega) (Nat.le_refl _)⟩
      · exact Sd_str.mpr ⟨Nat.le_trans (by decide +kernel : ("none such" : Str).length ≤ 9) (by omega), lay_of _⟩
    exact ⟨⟨Sd_tup.mpr ⟨by omega, h3⟩, by rw [nz_tup]; exact h9⟩, Sd_lst.mpr ⟨by omega, h3⟩, by rw [nz_lst]; exact h9⟩
  obtain ⟨L, hLE⟩ : ∃ L : List PyData, L = [.none, .str "", .str "yes", .dict [], .tuple [], .tuple [a], .list (a :: rest), .tuple (a :: rest ++ [.int 0]), .tuple ([.list [a]] ++ rest), .tuple ([.str "none such"] ++ rest), .int 7] := ⟨_, rfl⟩
  have hA : ∀ y ∈ L, AskedZ (5 * B + 20) (n + 2) S y := by
    intro y hy
    simp only [hLE, List.mem_cons, List.not_mem_nil, or_false] at hy
    rcases hy with rfl | rfl | rfl | rfl | rfl | rfl | rfl | rfl | rfl | rfl | rfl
    · exact .inl (Zd_non (by omega))
    · exact .inl (Zd_str (by have : ("" : Str).length ≤ 0 := by decide +kernel
                             omega) ⟨Nat.le_trans (by decide +kernel : ("" : Str).length ≤ 0) (by omega), lay_of _⟩)
    · exact .inl (Zd_str (by have : ("yes" : Str).length ≤ 3 := by decide +kernel
                             omega) ⟨Nat.le_trans (by decide +kernel : ("yes" : Str).length ≤ 3) (by omega), lay_of _⟩)
    · exact .inr rfl
    · exact .inl (E [] (Nat.zero_le _) (fun y hy => by cases hy) (by show 1 + 0 ≤ S; omega)).1
    · exact .inl (E [a] (by show 1 ≤ _; omega) (fun y hy => .inl (by rw [List.mem_singleton.mp hy]; exact List.mem_cons_self)) (by rw [nzs_one]; omega)).1
    · exact .inl (E (a :: rest) (by show rest.length + 1 ≤ _; omega) (fun y hy => .inl hy) (by simp only [nzs]; omega)).2
    · refine .inl (E (a :: rest ++ [.int 0]) (by rw [List.length_append]; show rest.length + 1 + 1 ≤ _; omega) (fun y hy => ?_) (by rw [nzs_app, nzs_one, nz_int]; simp only [nzs]; omega)).1
      rcases List.mem_append.mp hy with hy | hy
      · exact .inl hy
      · exact .inr (.inl (List.mem_singleton.mp hy))
    · refine .inl (E ([.list [a]] ++ rest) (by rw [List.length_append]; show 1 + rest.length ≤ _; omega) (fun y hy => ?_) (by rw [nzs_app, nzs_one, nz_lst, nzs_one]; omega)).1
      rcases List.mem_append.mp hy with hy | hy
      · exact .inr (.inr (.inl (List.mem_singleton.mp hy)))
      · exact .inl (List.mem_cons_of_mem _ hy)
    · refine .inl (E ([.str "none such"] ++ rest) (by rw [List.length_append]; show 1 + rest.length ≤ _; omega) (fun y hy => ?_) (by
        have : ("none such" : Str).length ≤ 9 := by decide +kernel
        rw [nzs_app, nzs_one, nz_str]
        omega)).1
      rcases List.mem_append.mp hy with hy | hy
      · exact .inr (.inr (.inr (List.mem_singleton.mp hy)))
      · exact .inl (List.mem_cons_of_mem _ hy)
    · exact .inl (Zd_int (by omega) (by show 7 ≤ _; omega))
  rw [← hLE]
  have lL : L.length = 11 := by rw [hLE]; rfl
  have up : ∀ (d : PyData) (io : List PyData), ChZ (5 * B + 4) (n + 1) S d io → ∃ d1, io = [d1] ∧ OddZ (5 * B + 20) (n + 2) S d [d1] := by
    rintro d io ⟨st3, rfl, hst3, hd⟩
    exact ⟨st3, rfl, st3, rfl, hst3, .inl ⟨hd.1.mono (by omega) (by omega), hd.2⟩⟩
  repeat walk_at "pv"
  unfold t__law_odd_1
  repeat walk_at "pv"
  refine draw NX hst (by decide) (by decide) ?_
  intro p st1 p0 p1 hst1
  refine ⟨_, rfl, ?_⟩
  repeat walk_at "pv"
  unfold t__law_odd_2
  repeat walk_at "pv"
  refine ite_k (fun hk => ?_) fun hk => ?_
  · repeat walk_at "pv"
    refine wF_mono (TU B S st1 (a :: rest) hB hst1 ht (by omega)) (fun d io z => ?_) (fun _ z => z)
    obtain ⟨st3, rfl, hq⟩ := up d io z
    refine ⟨_, rfl, ?_⟩
    repeat walk_at "pv"
    exact hq
  · repeat walk_at "pv"
    unfold t__law_odd_3
    repeat walk_at "pv"
    refine ite_k (fun hk2 => ?_) fun hk2 => ?_
    · repeat walk_at "pv"
      refine draw NX hst1 (by show (0 : Int) < (L.length : Int); omega) (by show (L.length : Int) < _; omega) ?_
      intro q st2 q0 q1 hst2
      refine ⟨_, rfl, ?_⟩
      repeat walk_at "pv"
      obtain ⟨y, ey, hy⟩ := pick q0 q1 hA
      refine O_some ey ?_
      repeat walk_at "pv"
      exact ⟨st2, rfl, hst2, hy⟩
    · repeat walk_at "pv"
      refine wF_mono (CH B S st1 (.tuple (a :: rest)) (by omega) hst1 ht.sd (by omega)) (fun d io z => ?_) (fun _ z => z)
      obtain ⟨st3, rfl, hq⟩ := up d io z
      refine ⟨_, rfl, ?_⟩
      repeat walk_at "pv"
      exact hq
end Sh
end
section
set_option Elab.async false
set_option linter.all false
set_option maxRecDepth 100000
set_option maxHeartbeats 1000000
set_option autoImplicit false
namespace Sh
open PySem PySem.Spec PyProof.Rows L2 Pv
abbrev sg (d : PyData) : List Nat := d.shown.cps.toList
def seps : List PyData → List Nat
  | [] => []
  | [a] => sg a
  | a :: b :: r => sg a ++ (44 :: 32 :: seps (b :: r))
def ending (xs : List PyData) : List Nat := if xs.length = 1 then [44, 41] else [41]
theorem sep_str : ((", " : String) : Str).cps.toList = [44, 32] := by
  rw [signs_ofString]
  decide +kernel
theorem join_sg : ∀ xs : List PyData, (Str.join ((", " : String) : Str) (PyData.shownAll xs)).cps.toList = seps xs
  | [] => rfl
  | [a] => rfl
  | a :: b :: r => by
    show ((a.shown ++ ((", " : String) : Str) ++ Str.join ((", " : String) : Str) (PyData.shownAll (b :: r))) : Str).cps.toList = sg a ++ (44 :: 32 :: seps (b :: r))
    rw [cps_toList_append, cps_toList_append, sep_str, join_sg (b :: r), List.append_assoc]
    rfl
theorem shownAll_len : ∀ xs : List PyData, (PyData.shownAll xs).length = xs.length
  | [] => rfl
  | _ :: xs => congrArg (· + 1) (shownAll_len xs)
theorem sg_tup (xs : List PyData) : sg (.tuple xs) = 40 :: (seps xs ++ ending xs) := by
  have e : (PyData.tuple xs).shown = ((("(" : String) : Str) ++ Str.join ((", " : String) : Str) (PyData.shownAll xs) ++ (if (PyData.shownAll xs).length == 1 then ((",)" : String) : Str) else ((")" : String) : Str)) : Str) := by
    show tupleText (PyData.shownAll xs) = _
    unfold tupleText
    congr 1
    split <;> rfl
  show (PyData.tuple xs).shown.cps.toList = _
  rw [e, cps_toList_append, cps_toList_append, join_sg, shownAll_len]
  have o1 : ((("(" : String) : Str)).cps.toList = [40] := by
    rw [signs_ofString]
    decide +kernel
  rw [o1]
  unfold ending
  by_cases h : xs.length = 1
  · rw [if_pos h, if_pos (by simpa using h), signs_ofString]
    rw [show (",)" : String).toList.map Char.toNat = [44, 41] by decide +kernel, List.append_assoc]
    rfl
  · rw [if_neg h, if_neg (by simpa using h), signs_ofString]
    rw [show (")" : String).toList.map Char.toNat = [41] by decide +kernel, List.append_assoc]
    rfl
/-- a sign of a number -/
def digB (c : Nat) : Bool := decide (c = 45 ∨ (48 ≤ c ∧ c ≤ 57))
theorem sg_int_all (i : Int) : ∀ c ∈ sg (.int i), digB c = true := fun c hc => by
  unfold digB
  rw [decide_eq_true_eq]
  exact Decidable.byContradiction fun h => shown_int_free' (k := c) (by omega) i hc
theorem sg_int (i : Int) : sg (.int i) = (toString i : String).toList.map Char.toNat := by
  show (PyData.int i).shown.cps.toList = _
  rw [PyData.shown_int, signs_ofString]
theorem char_map_inj : ∀ {l m : List Char}, l.map Char.toNat = m.map Char.toNat → l = m
  | [], [], _ => rfl
  | [], _ :: _, h => by simp at h
  | _ :: _, [], h => by simp at h
  | a :: l, b :: m, h => by
    simp only [List.map_cons, List.cons.injEq] at h
    rw [char_map_inj h.2, Char.toNat_inj.mp h.1]
theorem sg_int_inj {i j : Int} (h : sg (.int i) = sg (.int j)) : i = j := by
  rw [sg_int, sg_int] at h
  exact Int.repr_inj.mp (String.toList_inj.mp (char_map_inj h))
theorem sg_int_ne (i : Int) : sg (.int i) ≠ [] := fun h => by
  rw [sg_int, List.map_eq_nil_iff] at h
  have h1 : (toString i : String) = "" := String.toList_inj.mp (by rw [h]; rfl)
  have h2 : Int.repr i = "" := h1
  cases i with
  | ofNat n =>
    have h3 : Nat.repr n = "" := h2
    have h4 := congrArg String.toList h3
    rw [Nat.toList_repr] at h4
    have h4 : Nat.toDigits 10 n = [] := h4
    have h5 := Nat.ofDigitChars_toDigits (b := 10) (n := n) (by decide) (by decide)
    rw [h4] at h5
    have h5 : 0 = n := h5
    rw [← h5] at h4
    exact absurd h4 (by decide)
  | negSucc n =>
    have h3 : ("-" ++ Nat.repr (n + 1)) = "" := h2
    have := congrArg String.length h3
    simp at this
theorem from_pre : ∀ (ts : List Str) (k : Nat) (acc : Str), ∃ r, (textFrom k acc ts).cps.toList = acc.cps.toList ++ r
  | [], k, acc => ⟨[], (List.append_nil _).symm⟩
  | t :: ts, k, acc => by
    obtain ⟨r, h⟩ := from_pre ts (k + 1) (acc ++ ((if k > 0 then ", " else "" : String) : Str) ++ t)
    rw [cps_toList_append, cps_toList_append, List.append_assoc, List.append_assoc] at h
    exact ⟨_, h⟩
theorem fold_pre {q : Nat} (f : Nat → List Nat) : ∀ (l : List Nat) (acc : Array Nat), acc.toList.head? = some q → (l.foldl (fun out c => out ++ (f c).toArray) acc).toList.head? = some q
  | [], _, h => h
  | c :: l, acc, h => fold_pre f l _ (by
    cases e : acc.toList with
    | nil => rw [e] at h; cases h
    | cons a r =>
      rw [e] at h
      rw [Array.toList_append, e]
      exact h)
theorem text_head (x : Str) : (reprText x).cps.toList.head? = some (reprQuote x) := by
  unfold reprText
  show ((x.cps.foldl (fun out c => out ++ (Builtin.Str.reprChar (reprQuote x) c).toArray) #[reprQuote x]).push (reprQuote x)).toList.head? = _
  rw [Array.toList_push, ← Array.foldl_toList]
  have h := fold_pre (q := reprQuote x) (fun c => Builtin.Str.reprChar (reprQuote x) c) x.cps.toList #[reprQuote x] rfl
  cases e : (x.cps.toList.foldl (fun out c => out ++ (Builtin.Str.reprChar (reprQuote x) c).toArray) #[reprQuote x]).toList with
  | nil => rw [e] at h; cases h
  | cons a r =>
    rw [e] at h
    exact h
theorem head_eq {l : List Nat} {c : Nat} (h : l.head? = some c) : ∃ r, l = c :: r := by
  cases l with
  | nil => cases h
  | cons a r => cases h; exact ⟨r, rfl⟩
/-- the first sign -/
theorem sg_head (x : PyData) : ∃ c r, sg x = c :: r ∧ c ≠ 41 ∧ c ≠ 44 ∧ ((∃ i, x = .int i) ∨ (digB c = false ∧ (c = 40 ↔ ∃ xs, x = .tuple xs))) := by
  cases x with
  | int i =>
    cases h : sg (.int i) with
    | nil => exact absurd h (sg_int_ne i)
    | cons c r =>
      have hc : digB c = true := sg_int_all i c (by rw [h]; exact List.mem_cons_self)
      unfold digB at hc
      rw [decide_eq_true_eq] at hc
      exact ⟨c, r, rfl, by omega, by omega, .inl ⟨i, rfl⟩⟩
  | none =>
    refine ⟨78, [111, 110, 101], ?_, by decide, by decide, .inr ⟨rfl, fun z => absurd z (by decide), fun ⟨_, z⟩ => by cases z⟩⟩
    show (PyData.none).shown.cps.toList = _
    decide +kernel
  | bool b =>
    cases b with
    | true =>
      refine ⟨84, [114, 117, 101], ?_, by decide, by decide, .inr ⟨rfl, fun z => absurd z (by decide), fun ⟨_, z⟩ => by cases z⟩⟩
      show (PyData.bool true).shown.cps.toList = _
      decide +kernel
    | false =>
      refine ⟨70, [97, 108, 115, 101], ?_, by decide, by decide, .inr ⟨rfl, fun z => absurd z (by decide), fun ⟨_, z⟩ => by cases z⟩⟩
      show (PyData.bool false).shown.cps.toList = _
      decide +kernel
  | tuple xs => exact ⟨40, _, sg_tup xs, by decide, by decide, .inr ⟨rfl, fun _ => ⟨xs, rfl⟩, fun _ => rfl⟩⟩
  | list xs =>
    obtain ⟨r, h⟩ := from_pre (PyData.shownAll xs) 0 (("[" : String) : Str)
    have o1 : ((("[" : String) : Str)).cps.toList = [91] := by
      rw [signs_ofString]
      decide +kernel
    refine ⟨91, r ++ ((("]" : String) : Str)).cps.toList, ?_, by decide, by decide, .inr ⟨rfl, fun z => absurd z (by decide), fun ⟨_, z⟩ => by cases z⟩⟩
    show (textFrom 0 (("[" : String) : Str) (PyData.shownAll xs) ++ (("]" : String) : Str)).cps.toList = _
    rw [cps_toList_append, h, o1]
    rfl
  | str x =>
    obtain ⟨r, h⟩ := head_eq (text_head x)
    have q : reprQuote x = 34 ∨ reprQuote x = 39 := by
      unfold reprQuote
      split
      · exact .inl rfl
      · exact .inr rfl
    refine ⟨reprQuote x, r, h, by omega, by omega, .inr ⟨?_, fun z => by omega, fun ⟨_, z⟩ => by cases z⟩⟩
    rcases q with q | q <;> rw [q] <;> rfl
  | dict kvs =>
    have o1 : ((("{" : String) : Str)).cps.toList = [123] := by
      rw [signs_ofString]
      decide +kernel
    refine ⟨123, (Str.join ((", " : String) : Str) (PyData.shownKv kvs)).cps.toList ++ ((("}" : String) : Str)).cps.toList, ?_, by decide, by decide, .inr ⟨rfl, fun z => absurd z (by decide), fun ⟨_, z⟩ => by cases z⟩⟩
    show (((("{" : String) : Str) ++ Str.join ((", " : String) : Str) (PyData.shownKv kvs) ++ (("}" : String) : Str) : Str)).cps.toList = _
    rw [cps_toList_append, cps_toList_append, o1, List.append_assoc]
    rfl
/-- what may stand behind -/
def stop (s : List Nat) : Prop := s = [] ∨ ∃ c r, s = c :: r ∧ (c = 44 ∨ c = 41)
theorem stop_no {s : List Nat} (h : stop s) : s.takeWhile digB = [] := by
  rcases h with rfl | ⟨c, r, rfl, rfl | rfl⟩ <;> rfl
mutual
/-- whole numbers, and rows of such -/
def numB : PyData → Bool
  | .int _ => true
  | .tuple xs => numL xs
  | _ => false
def numL : List PyData → Bool
  | [] => true
  | x :: xs => numB x && numL xs
end
theorem parse_int {x : PyData} {j : Int} {s t : List Nat} (hs : stop s) (ht : stop t) (h : sg x ++ s = sg (.int j) ++ t) : x = .int j ∧ s = t := by
  obtain ⟨c, r, e, c1, c2, k⟩ := sg_head x
  rcases k with ⟨i, rfl⟩ | ⟨k, _⟩
  · have h1 := congrArg (List.takeWhile digB) h
    rw [List.takeWhile_append_of_pos (sg_int_all i), List.takeWhile_append_of_pos (sg_int_all j), stop_no hs, stop_no ht, List.append_nil, List.append_nil] at h1
    have := sg_int_inj h1
    subst this
    exact ⟨rfl, List.append_cancel_left h⟩
  · exfalso
    rw [e] at h
    cases q : sg (.int j) with
    | nil => exact sg_int_ne j q
    | cons c' r' =>
      rw [q] at h
      have h1 : c = c' := (List.cons.inj h).1
      have h2 := sg_int_all j c' (by rw [q]; exact List.mem_cons_self)
      rw [← h1, k] at h2
      cases h2
/-- behind the first of several -/
def behind (xs : List PyData) (s : List Nat) : List Nat := match xs with
  | [] => s
  | a :: r => 44 :: 32 :: (seps (a :: r) ++ s)
theorem seps_cons (a : PyData) (r : List PyData) (s : List Nat) : seps (a :: r) ++ s = sg a ++ behind r s := by
  cases r with
  | nil => rfl
  | cons b r =>
    show (sg a ++ (44 :: 32 :: seps (b :: r))) ++ s = sg a ++ (44 :: 32 :: (seps (b :: r) ++ s))
    rw [List.append_assoc]
    rfl
theorem stop_behind {r : List PyData} {s : List Nat} (h : stop s) : stop (behind r s) := by
  cases r with
  | nil => exact h
  | cons b r => exact .inr ⟨44, _, rfl, .inl rfl⟩
mutual
theorem parse : ∀ (y x : PyData) (s t : List Nat), numB y = true → stop s → stop t → sg x ++ s = sg y ++ t → x = y ∧ s = t
  | .int j, x, s, t, _, hs, ht, h => parse_int hs ht h
  | .tuple ys, x, s, t, hy, hs, ht, h => by
    obtain ⟨c, r, e, c1, c2, k⟩ := sg_head x
    have h0 : c = 40 := by
      rw [e, sg_tup] at h
      exact (List.cons.inj h).1
    have hx : ∃ xs, x = .tuple xs := by
      rcases k with ⟨i, rfl⟩ | ⟨_, k⟩
      · have := sg_int_all i c (by rw [e]; exact List.mem_cons_self)
        rw [h0] at this
        cases this
      · exact k.mp h0
    obtain ⟨xs, rfl⟩ := hx
    clear e k c1 c2 h0
    rw [sg_tup, sg_tup, List.cons_append, List.cons_append, List.append_assoc, List.append_assoc] at h
    have h := (List.cons.inj h).2
    have hy : numL ys = true := hy
    match ys, xs, hy, h with
    | [], [], _, h =>
      have h : 41 :: s = 41 :: t := h
      exact ⟨rfl, (List.cons.inj h).2⟩
    | [], a :: xs, _, h =>
      obtain ⟨c, r, e, c1, _⟩ := sg_head a
      rw [seps_cons, e] at h
      have h : c :: (r ++ behind xs (ending (a :: xs) ++ s)) = 41 :: t := h
      exact absurd (List.cons.inj h).1 c1
    | b :: ys, [], _, h =>
      obtain ⟨c, r, e, c1, _⟩ := sg_head b
      rw [seps_cons, e] at h
      have h : 41 :: s = c :: (r ++ behind ys (ending (b :: ys) ++ t)) := h
      exact absurd (List.cons.inj h).1.symm c1
    | b :: ys, a :: xs, hy, h =>
      unfold numL at hy
      rw [Bool.and_eq_true] at hy
      rw [seps_cons, seps_cons] at h
      have st : ∀ (zs : List PyData) (a : PyData) (s : List Nat), stop (ending (a :: zs) ++ s) := fun zs a s => by
        unfold ending
        by_cases q : (a :: zs).length = 1
        · rw [if_pos q]
          exact .inr ⟨44, _, rfl, .inl rfl⟩
        · rw [if_neg q]
          exact .inr ⟨41, _, rfl, .inr rfl⟩
      obtain ⟨e1, e2⟩ := parse b a _ _ hy.1 (stop_behind (st xs a s)) (stop_behind (st ys b t)) h
      subst e1
      match ys, xs, hy.2, e2 with
      | [], [], _, e2 =>
        have e2 : 44 :: 41 :: s = 44 :: 41 :: t := e2
        simp only [List.cons.injEq, true_and] at e2
        exact ⟨rfl, e2⟩
      | [], c :: xs, _, e2 =>
        have e2 : 44 :: 32 :: (seps (c :: xs) ++ (ending (a :: c :: xs) ++ s)) = 44 :: 41 :: t := e2
        simp at e2
      | c :: ys, [], _, e2 =>
        have e2 : 44 :: 41 :: s = 44 :: 32 :: (seps (c :: ys) ++ (ending (a :: c :: ys) ++ t)) := e2
        simp at e2
      | c :: ys, d :: xs, hy2, e2 =>
        have e2 : 44 :: 32 :: (seps (d :: xs) ++ (41 :: s)) = 44 :: 32 :: (seps (c :: ys) ++ (41 :: t)) := by
          have n1 : ending (a :: d :: xs) = [41] := if_neg (by simp)
          have n2 : ending (a :: c :: ys) = [41] := if_neg (by simp)
          have e2 : 44 :: 32 :: (seps (d :: xs) ++ (ending (a :: d :: xs) ++ s)) = 44 :: 32 :: (seps (c :: ys) ++ (ending (a :: c :: ys) ++ t)) := e2
          rw [n1, n2] at e2
          exact e2
        simp only [List.cons.injEq, true_and] at e2
        obtain ⟨e3, e4⟩ := parseL (c :: ys) (d :: xs) s t hy2 (by simp) (by simp) e2
        rw [e3]
        exact ⟨rfl, e4⟩
  | .none, _, _, _, h, _, _, _ => by cases h
  | .bool _, _, _, _, h, _, _, _ => by cases h
  | .str _, _, _, _, h, _, _, _ => by cases h
  | .list _, _, _, _, h, _, _, _ => by cases h
  | .dict _, _, _, _, h, _, _, _ => by cases h
theorem parseL : ∀ (ys xs : List PyData) (s t : List Nat), numL ys = true → ys ≠ [] → xs ≠ [] → seps xs ++ (41 :: s) = seps ys ++ (41 :: t) → xs = ys ∧ s = t
  | [], _, _, _, _, h, _, _ => absurd rfl h
  | _ :: _, [], _, _, _, _, h, _ => absurd rfl h
  | b :: ys, a :: xs, s, t, hy, _, _, h => by
    unfold numL at hy
    rw [Bool.and_eq_true] at hy
    rw [seps_cons, seps_cons] at h
    obtain ⟨e1, e2⟩ := parse b a _ _ hy.1 (stop_behind (.inr ⟨41, _, rfl, .inr rfl⟩)) (stop_behind (.inr ⟨41, _, rfl, .inr rfl⟩)) h
    subst e1
    match ys, xs, hy.2, e2 with
    | [], [], _, e2 =>
      have e2 : 41 :: s = 41 :: t := e2
      exact ⟨rfl, (List.cons.inj e2).2⟩
    | [], c :: xs, _, e2 =>
      have e2 : 44 :: 32 :: (seps (c :: xs) ++ (41 :: s)) = 41 :: t := e2
      simp at e2
    | c :: ys, [], _, e2 =>
      have e2 : 41 :: s = 44 :: 32 :: (seps (c :: ys) ++ (41 :: t)) := e2
      simp at e2
    | c :: ys, d :: xs, hy2, e2 =>
      have e2 : 44 :: 32 :: (seps (d :: xs) ++ (41 :: s)) = 44 :: 32 :: (seps (c :: ys) ++ (41 :: t)) := e2
      simp only [List.cons.injEq, true_and] at e2
      obtain ⟨e3, e4⟩ := parseL (c :: ys) (d :: xs) s t hy2 (by simp) (by simp) e2
      rw [e3]
      exact ⟨rfl, e4⟩
end
/-- a word and rows of rows of numbers: what is shown tells it -/
theorem shown_iff {w : Str} {r r' : List PyData} (h : numL r' = true) : (PyData.tuple (.str w :: r)).shown = (PyData.tuple (.str w :: r')).shown ↔ r = r' := by
  constructor
  · intro e
    have e1 : sg (.tuple (.str w :: r)) = sg (.tuple (.str w :: r')) := congrArg (fun x : Str => x.cps.toList) e
    rw [sg_tup, sg_tup] at e1
    have e1 := (List.cons.inj e1).2
    rw [seps_cons, seps_cons] at e1
    have e1 := List.append_cancel_left e1
    match r, r', h, e1 with
    | [], [], _, _ => rfl
    | [], c :: r', _, e1 =>
      have e1 : [44, 41] = 44 :: 32 :: (seps (c :: r') ++ ending (.str w :: c :: r')) := e1
      simp at e1
    | c :: r, [], _, e1 =>
      have e1 : 44 :: 32 :: (seps (c :: r) ++ ending (.str w :: c :: r)) = [44, 41] := e1
      simp at e1
    | c :: r, d :: r', h, e1 =>
      have n1 : ending (.str w :: c :: r) = [41] := if_neg (by simp)
      have n2 : ending (.str w :: d :: r') = [41] := if_neg (by simp)
      have e1 : 44 :: 32 :: (seps (c :: r) ++ ending (.str w :: c :: r)) = 44 :: 32 :: (seps (d :: r') ++ ending (.str w :: d :: r')) := e1
      rw [n1, n2] at e1
      simp only [List.cons.injEq, true_and] at e1
      exact (parseL (d :: r') (c :: r) [] [] h (by simp) (by simp) e1).1
  · rintro rfl
    rfl
end Sh
end
section
set_option Elab.async false
set_option linter.all false
set_option maxRecDepth 100000
set_option maxHeartbeats 1000000
set_option autoImplicit false
namespace Sh
open PySem PySem.Spec PyProof.Rows L2 Pv
local macro_rules | `(tactic| walk_at "pv") => `(tactic| first | ((with_reducible apply S_env); focus (dsimp only [List.set_cons_zero, List.set_cons_succ]; first | done | exact rfl)) | ((with_reducible apply E_env); focus (dsimp only [List.set_cons_zero, List.set_cons_succ]; first | done | exact rfl)) | ((with_reducible apply P_some); focus (dsimp only [takes_cons, takes_nil, takeW_d, Option.bind_some, Option.map_some]; first | done | exact rfl)) | ((with_reducible apply O_some); focus (dsimp only [derefs_cons, derefs_nil, deref_d, Option.bind_some, Option.map_some]; first | done | exact rfl)) | with_reducible refine E_bin ?_ | with_reducible refine E_cmp ?_ | with_reducible refine E_chain ?_ | with_reducible refine E_tru ?_ | with_reducible refine E_ofT ?_ | with_reducible refine E_notT ?_ | with_reducible refine E_isN ?_ | with_reducible refine E_and ?_ | with_reducible refine E_or ?_ | with_reducible refine E_andT ?_ | with_reducible refine E_orT ?_ | with_reducible refine E_if ?_ | with_reducible refine E_nil ?_ | with_reducible refine E_cons ?_ | with_reducible refine E_call ?_ | with_reducible refine E_fz ?_ | with_reducible refine E_tup ?_ | with_reducible refine E_lst ?_ | with_reducible refine E_emptyD ?_ | with_reducible refine E_src ?_ | with_reducible refine E_range1 ?_ | with_reducible refine E_range2 ?_ | with_reducible refine E_isi ?_ | with_reducible refine E_listOf ?_ | with_reducible refine E_noP ?_ | with_reducible refine E_part ?_ | with_reducible refine E_sl ?_ | with_reducible refine E_rev ?_ | with_reducible refine E_neg ?_ | with_reducible refine E_lenSet ?_ | with_reducible refine E_tupRg1 ?_ | with_reducible refine E_tupRg2 ?_ | with_reducible refine E_callF ?_ | with_reducible refine E_callIo ?_ | with_reducible refine E_lit ?_ | with_reducible refine E_var ?_ | with_reducible refine E_meth ?_ | with_reducible refine E_repF ?_ | with_reducible refine E_lstRg1 ?_ | with_reducible refine E_yes ?_ | with_reducible refine E_sorted ?_ | with_reducible refine E_lenSetT ?_ | with_reducible refine E_index ?_ | with_reducible refine E_getLit ?_ | with_reducible refine E_enum ?_ | with_reducible refine E_zip ?_ | with_reducible refine E_join ?_ | with_reducible refine E_split ?_ | with_reducible refine E_fresh ?_ | with_reducible refine E_valK ?_ | with_reducible refine Src_dl ?_ | with_reducible refine Src_dt ?_ | with_reducible refine Io_sl ?_ | with_reducible refine L2_2 ?_ | with_reducible refine L3_3 ?_ | with_reducible refine S_parX ?_ | with_reducible refine S_seq ?_ | with_reducible refine S_skip ?_ | with_reducible refine S_break ?_ | with_reducible refine S_cont ?_ | with_reducible refine S_raise ?_ | with_reducible refine S_retN ?_ | with_reducible refine S_if ?_ | with_reducible refine S_drop ?_ | with_reducible refine S_ret ?_ | with_reducible refine S_set ?_ | with_reducible refine S_setO ?_ | with_reducible refine S_setG ?_ | with_reducible refine S_par2 ?_ | with_reducible refine S_par3 ?_ | with_reducible refine S_setIx ?_ | with_reducible refine S_aug ?_ | with_reducible refine S_augIx ?_ | with_reducible refine S_for ?_ | ((with_reducible apply V_val); focus exact rfl) | ((with_reducible apply V_own); focus exact rfl) | ((with_reducible apply V_scr); focus exact rfl) | ((with_reducible apply Own_own); focus exact rfl) | ((with_reducible apply O_some); focus exact rfl) | ((with_reducible apply B_some); focus exact rfl) | ((with_reducible apply P_some); focus exact rfl) | ((with_reducible apply ite_t); focus exact rfl) | ((with_reducible apply ite_f); focus exact rfl) | ((with_reducible apply O_some); focus (first | exact mul_ok (by decide) | exact mod_ok (by omega) | exact div_ok (by omega))) | ((with_reducible refine And.intro ?_ ?_); focus (first | exact rfl | decide | (simp only [List.length_cons, List.length_nil]; first | done | decide))))

section
variable {prog : List (Str × FnI)} {wh : Nat}
theorem turnedZ_at (h1 : prog.lookup ("_law_next" : Str) = some ⟨2, true, 4, g__law_next⟩) (h2 : prog.lookup ("_law_ints" : Str) = some ⟨1, false, 4, g__law_ints⟩) (h3 : prog.lookup ("_law_exchanged" : Str) = some ⟨3, false, 4, g__law_exchanged⟩) (h4 : prog.lookup ("_law_cut" : Str) = some ⟨2, true, 6, g__law_cut⟩) (hp : prog.lookup ("_law_turned_about" : Str) = some ⟨2, true, 9, g__law_turned_about⟩) (k n : Nat) (hn : n + 1 < k) (h60 : n + 1 ≤ 60) : TurnedZ (tabOf prog wh (k + 2)) n := fun B S st xs hB hst ht hS => by
  rw [tab_fn hp]
  exact turnedZ_step (next_at h1 k) (ints_at h2 (k + 1) (n + 1) (by omega)) (exchZ_at h3 (k + 1) (n + 1) (by omega)) (fun m hm => cut_at h1 h4 k m (by omega) (by omega)) h60 hB hst ht hS
def OddZAt (T : Tab) (n : Nat) : Prop := ∀ (B S : Nat) (st : PyData) (xs : List PyData), B + 1 ≤ 1000000 → St st → Told B (n + 1) xs → 5 * nz (.tuple xs) + B + 40 ≤ S → wF (T.fn "_law_odd" [st, .tuple xs]) (OddZ (5 * B + 20) (n + 2) S) (fun _ => False)
theorem oddZ_at (h1 : prog.lookup ("_law_next" : Str) = some ⟨2, true, 4, g__law_next⟩) (h2 : prog.lookup ("_law_ints" : Str) = some ⟨1, false, 4, g__law_ints⟩) (h3 : prog.lookup ("_law_exchanged" : Str) = some ⟨3, false, 4, g__law_exchanged⟩) (h4 : prog.lookup ("_law_cut" : Str) = some ⟨2, true, 6, g__law_cut⟩) (h5 : prog.lookup ("_law_turned_about" : Str) = some ⟨2, true, 9, g__law_turned_about⟩) (h6 : prog.lookup ("_law_changed" : Str) = some ⟨2, true, 7, g__law_changed⟩) (hp : prog.lookup ("_law_odd" : Str) = some ⟨2, true, 4, g__law_odd⟩) (k n : Nat) (hn : n + 1 < k) (h60 : n + 1 ≤ 60) : OddZAt (tabOf prog wh (k + 3)) n := fun B S st xs hB hst ht hS => by
  rw [tab_fn hp]
  exact oddZ_step (next_at h1 (k + 1)) (changedZ_at h1 h6 (k + 1) (n + 1) (by omega) h60) (turnedZ_at h1 h2 h3 h4 h5 k n hn h60) hB hst ht hS
end
theorem lt20 {m : Nat} (h : m ≤ 1000000) : m < 2 ^ 20 := Nat.lt_of_le_of_lt h (by decide)
mutual
theorem weight_nz {B : Nat} (hB : B ≤ 1000000) : ∀ (d : PyData) (n : Nat), Sd B n d → d.weight + 1 ≤ 21 * nz d
  | .none, _, _ => by simp only [PyData.weight, nz]; omega
  | .bool _, _, _ => by simp only [PyData.weight, nz]; omega
  | .int i, n, h => by
    have hi := Sd_int.mp h
    simp only [PyData.weight, nz]
    split
    · omega
    · rename_i q
      have q : i ≠ 0 := by simpa using q
      have := (Nat.log2_lt (n := i.natAbs) (k := 20) (by omega)).mpr (lt20 (by omega))
      omega
  | .str x, _, _ => by
    have e : x.length = x.cps.size := rfl
    simp only [PyData.weight, nz]
    omega
  | .dict _, _, h => absurd h Sd_dict
  | .tuple xs, 0, h => absurd h Sd_tup0
  | .list xs, 0, h => absurd h Sd_lst0
  | .tuple xs, n + 1, h => by
    have := weightL_nz hB xs n (Sd_tup.mp h).2
    simp only [PyData.weight, nz]
    omega
  | .list xs, n + 1, h => by
    have := weightL_nz hB xs n (Sd_lst.mp h).2
    simp only [PyData.weight, nz]
    omega
theorem weightL_nz {B : Nat} (hB : B ≤ 1000000) : ∀ (xs : List PyData) (n : Nat), (∀ x ∈ xs, Sd B n x) → PyData.weightAll xs ≤ 21 * nzs xs
  | [], _, _ => by simp only [PyData.weightAll, nzs]; omega
  | x :: xs, n, h => by
    have h1 := weight_nz hB x n (h x List.mem_cons_self)
    have h2 := weightL_nz hB xs n fun y hy => h y (List.mem_cons_of_mem _ hy)
    simp only [PyData.weightAll, nzs]
    omega
end
mutual
theorem show_facts {B : Nat} (hB : B ≤ 1000000) : ∀ (d : PyData) (n : Nat), Sd B n d → d.showable = true ∧ d.hasDict = false ∧ d.intsShort 13 = true
  | .none, _, _ => ⟨rfl, rfl, rfl⟩
  | .bool _, _, _ => ⟨rfl, rfl, rfl⟩
  | .int i, n, h => by
    have hi := Sd_int.mp h
    refine ⟨?_, rfl, ?_⟩
    · show decide (i.natAbs.log2 < 1920) = true
      rw [decide_eq_true_eq]
      by_cases q : i.natAbs = 0
      · rw [q]
        decide
      · have := (Nat.log2_lt (n := i.natAbs) (k := 20) q).mpr (lt20 (by omega))
        omega
    · show decide ((PyData.int i).shown.length ≤ 13) = true
      rw [decide_eq_true_eq]
      exact PyData.shown_int_le (Nat.lt_of_le_of_lt (show i.natAbs ≤ 1000000 by omega) (by decide))
  | .str x, _, _ => ⟨rfl, rfl, rfl⟩
  | .dict _, _, h => absurd h Sd_dict
  | .tuple xs, 0, h => absurd h Sd_tup0
  | .list xs, 0, h => absurd h Sd_lst0
  | .tuple xs, n + 1, h => showL_facts hB xs n (Sd_tup.mp h).2
  | .list xs, n + 1, h => showL_facts hB xs n (Sd_lst.mp h).2
theorem showL_facts {B : Nat} (hB : B ≤ 1000000) : ∀ (xs : List PyData) (n : Nat), (∀ x ∈ xs, Sd B n x) → PyData.showableAll xs = true ∧ PyData.hasDictAll xs = false ∧ PyData.intsShortAll 13 xs = true
  | [], _, _ => ⟨rfl, rfl, rfl⟩
  | x :: xs, n, h => by
    obtain ⟨a1, a2, a3⟩ := show_facts hB x n (h x List.mem_cons_self)
    obtain ⟨b1, b2, b3⟩ := showL_facts hB xs n fun y hy => h y (List.mem_cons_of_mem _ hy)
    simp only [PyData.showableAll, PyData.hasDictAll, PyData.intsShortAll, a1, a2, a3, b1, b2, b3]
    exact ⟨rfl, rfl, rfl⟩
end
theorem repr_ok {B n : Nat} {ds : List PyData} (hB : B ≤ 1000000) (hn : n ≤ 60) (h : Sd B n (.tuple ds)) (hz : nz (.tuple ds) ≤ 40000) : fRepr [.tuple ds] = some (.str (PyData.tuple ds).shown) := by
  have hL : LINE = 16777216 := rfl
  have ok := h.okD (Nat.le_trans hB (by decide)) (by omega)
  have dp := h.depth
  obtain ⟨s1, s2, s3⟩ := show_facts hB _ n h
  have w := weight_nz hB _ n h
  have ok' : ((PyData.tuple ds).canLay0 && decide ((PyData.tuple ds).depth ≤ 64)) = true := ok
  have lay : (PyData.tuple ds).layable0 = true := by
    show ((PyData.tuple ds).canLay0 && decide ((PyData.tuple ds).depth ≤ 64) && decide ((PyData.tuple ds).weight ≤ 2 ^ 20)) = true
    rw [ok', Bool.true_and, decide_eq_true_eq]
    have : (2 : Nat) ^ 20 = 1048576 := by decide
    omega
  have sh := PyData.shown_le_of_layable0 lay s3
  show (if reprB ds = true then some (PyData.str (PyData.tuple ds).shown) else none) = _
  rw [if_pos]
  unfold reprB
  rw [ok, s1, s2, decide_eq_true (show (PyData.tuple ds).shown.length ≤ LINE ∧ (PyData.tuple ds).depth ≤ 60 from ⟨by omega, by omega⟩)]
  rfl
/-- repr(told) == repr(due), both by a word and rows of rows of numbers -/
theorem shown_same {w : Str} {r r' : List PyData} (h : numL r' = true) (g : good (.tuple (.str w :: r')) = true) : ((PyData.tuple (.str w :: r)).shown == (PyData.tuple (.str w :: r')).shown) = sameB (.tuple (.str w :: r)) (.tuple (.str w :: r')) := by
  by_cases e : r = r'
  · subst e
    rw [beq_self_eq_true, sameB_refl g]
  · have n1 : ((PyData.tuple (.str w :: r)).shown == (PyData.tuple (.str w :: r')).shown) = false := beq_eq_false_iff_ne.mpr fun z => e ((shown_iff h).mp z)
    rw [n1]
    by_cases q : sameB (.tuple (.str w :: r)) (.tuple (.str w :: r')) = true
    · have := sameB_eq q
      injection this with this
      injection this with _ this
      exact absurd this e
    · exact (show sameB (.tuple (.str w :: r)) (.tuple (.str w :: r')) = false by simpa using q).symm
end Sh
end
section
set_option Elab.async false
set_option linter.all false
set_option maxRecDepth 100000
set_option maxHeartbeats 1000000
set_option autoImplicit false
namespace Sh
open PySem PySem.Spec PyProof.Rows L2 Pv
local macro_rules | `(tactic| walk_at "pv") => `(tactic| first | ((with_reducible apply S_env); focus (dsimp only [List.set_cons_zero, List.set_cons_succ]; first | done | exact rfl)) | ((with_reducible apply E_env); focus (dsimp only [List.set_cons_zero, List.set_cons_succ]; first | done | exact rfl)) | ((with_reducible apply P_some); focus (dsimp only [takes_cons, takes_nil, takeW_d, Option.bind_some, Option.map_some]; first | done | exact rfl)) | ((with_reducible apply O_some); focus (dsimp only [derefs_cons, derefs_nil, deref_d, Option.bind_some, Option.map_some]; first | done | exact rfl)) | with_reducible refine E_bin ?_ | with_reducible refine E_cmp ?_ | with_reducible refine E_chain ?_ | with_reducible refine E_tru ?_ | with_reducible refine E_ofT ?_ | with_reducible refine E_notT ?_ | with_reducible refine E_isN ?_ | with_reducible refine E_and ?_ | with_reducible refine E_or ?_ | with_reducible refine E_andT ?_ | with_reducible refine E_orT ?_ | with_reducible refine E_if ?_ | with_reducible refine E_nil ?_ | with_reducible refine E_cons ?_ | with_reducible refine E_call ?_ | with_reducible refine E_fz ?_ | with_reducible refine E_tup ?_ | with_reducible refine E_lst ?_ | with_reducible refine E_emptyD ?_ | with_reducible refine E_src ?_ | with_reducible refine E_range1 ?_ | with_reducible refine E_range2 ?_ | with_reducible refine E_isi ?_ | with_reducible refine E_listOf ?_ | with_reducible refine E_noP ?_ | with_reducible refine E_part ?_ | with_reducible refine E_sl ?_ | with_reducible refine E_rev ?_ | with_reducible refine E_neg ?_ | with_reducible refine E_lenSet ?_ | with_reducible refine E_tupRg1 ?_ | with_reducible refine E_tupRg2 ?_ | with_reducible refine E_callF ?_ | with_reducible refine E_callIo ?_ | with_reducible refine E_lit ?_ | with_reducible refine E_var ?_ | with_reducible refine E_meth ?_ | with_reducible refine E_repF ?_ | with_reducible refine E_lstRg1 ?_ | with_reducible refine E_yes ?_ | with_reducible refine E_sorted ?_ | with_reducible refine E_lenSetT ?_ | with_reducible refine E_index ?_ | with_reducible refine E_getLit ?_ | with_reducible refine E_enum ?_ | with_reducible refine E_zip ?_ | with_reducible refine E_join ?_ | with_reducible refine E_split ?_ | with_reducible refine E_fresh ?_ | with_reducible refine E_valK ?_ | with_reducible refine Src_dl ?_ | with_reducible refine Src_dt ?_ | with_reducible refine Io_sl ?_ | with_reducible refine L2_2 ?_ | with_reducible refine L3_3 ?_ | with_reducible refine S_parX ?_ | with_reducible refine S_seq ?_ | with_reducible refine S_skip ?_ | with_reducible refine S_break ?_ | with_reducible refine S_cont ?_ | with_reducible refine S_raise ?_ | with_reducible refine S_retN ?_ | with_reducible refine S_if ?_ | with_reducible refine S_drop ?_ | with_reducible refine S_ret ?_ | with_reducible refine S_set ?_ | with_reducible refine S_setO ?_ | with_reducible refine S_setG ?_ | with_reducible refine S_par2 ?_ | with_reducible refine S_par3 ?_ | with_reducible refine S_setIx ?_ | with_reducible refine S_aug ?_ | with_reducible refine S_augIx ?_ | with_reducible refine S_for ?_ | ((with_reducible apply V_val); focus exact rfl) | ((with_reducible apply V_own); focus exact rfl) | ((with_reducible apply V_scr); focus exact rfl) | ((with_reducible apply Own_own); focus exact rfl) | ((with_reducible apply O_some); focus exact rfl) | ((with_reducible apply B_some); focus exact rfl) | ((with_reducible apply P_some); focus exact rfl) | ((with_reducible apply ite_t); focus exact rfl) | ((with_reducible apply ite_f); focus exact rfl) | ((with_reducible apply O_some); focus (first | exact mul_ok (by decide) | exact mod_ok (by omega) | exact div_ok (by omega))) | ((with_reducible refine And.intro ?_ ?_); focus (first | exact rfl | decide | (simp only [List.length_cons, List.length_nil]; first | done | decide))))

theorem asksP {T : Tab} {E : PyData → SV → SV → Pv.Env} {sS sN sT sK sA : Nat} {seen : List PyData} {D : PyData} (F : Slots E sS sN sT sK sA seen D) {k : Nat} (SA : SameAt T (k + 1)) {n : Nat} (hn : n ≤ 1000) (hl : seen.length ≤ 1000) {P : PyData → Prop} (hs : ∀ d ∈ seen, P d) (OD : ∀ st, St st → wF (T.fn "_law_odd" [st, D]) (fun d io => ∃ st', io = [st'] ∧ St st' ∧ P d) (fun _ => False)) {gJ gA : Ex} (A : PyData → Bool)
    (hJ : ∀ st a x, P x → gJ T (E st a (.val x)) = .ok (.d (.bool (A x))) (E st a (.val x)))
    (hA : ∀ st a x, P x → gA T (E st a (.val x)) = .ok (.d (.bool (A x))) (E st a (.val x)))
    {st0 : PyData} {k0 a0 : SV} (hst : St st0) {V : PyData → Pv.Env → Prop} {X : Str → Prop} {N BB CC : Pv.Env → Prop} (go : ∀ st a b, St st → (a = k0 ∨ ∃ d, a = .val d) → N (E st a b)) : wS (gAsk sS sN sT sK sA (n : Int) gJ gA T (E st0 k0 a0)) N V X BB CC := by
  unfold gAsk
  have hL : LINE = 16777216 := rfl
  refine S_for (E_range1 (E_cons (E_bin (E_lit (E_call (E_cons (E_var (V_val (F.gn _ _ _) (E_nil ?_))))))))) 
  refine O_some (a := [.list seen]) rfl (O_some (a := .int seen.length) rfl (O_some (a := .int n) rfl (O_some (a := .int seen.length) rfl (O_some (a := .int ((n : Int) + seen.length)) rfl (E_nil ?_)))))
  refine O_some (a := [.int ((n : Int) + seen.length)]) rfl (O_some (a := (n : Int) + seen.length) rfl ⟨⟨by omega, by omega⟩, ?_⟩)
  refine for_inv (I := fun _ e => ∃ st a b, e = E st a b ∧ St st ∧ (a = k0 ∨ ∃ d, a = .val d)) _ (fun i d e hd hI => ?_) (fun e hI => ?_) ⟨st0, k0, a0, rfl, hst, .inl rfl⟩
  · obtain ⟨st, a, b, rfl, hst, _⟩ := hI
    obtain ⟨rfl, hi⟩ := rgD_get hd
    have ei : (0 : Int) + (i : Int) = (i : Int) := Int.zero_add _
    rw [ei]
    refine ⟨E st (.val (.int (i : Int))) b, by show some _ = _; rw [F.k], ?_⟩
    have last : ∀ (st2 : PyData) (x : PyData), St st2 → P x → wS (dIfS (dNotT (dTru (dCallF "_law_same" (dCons gJ (dCons gA dNil))))) (dRet (dLit (.bool false))) dSkip T (E st2 (.val (.int (i : Int))) (.val x))) (fun e => ∃ st a b, e = E st a b ∧ St st ∧ (a = k0 ∨ ∃ d, a = .val d)) V X N (fun e => ∃ st a b, e = E st a b ∧ St st ∧ (a = k0 ∨ ∃ d, a = .val d)) := by
      intro st2 x h1 h4
      have e1 : (dCallF "_law_same" (dCons gJ (dCons gA dNil))) T (E st2 (.val (.int (i : Int))) (.val x)) = .ok (.d (.bool true)) (E st2 (.val (.int (i : Int))) (.val x)) := by
        refine call_ok (ws := [.d (.bool (A x)), .d (.bool (A x))]) ?_ rfl rfl ?_
        · unfold dCons
          rw [hJ _ _ _ h4]
          unfold Pv.R.bind
          dsimp only
          rw [hA _ _ _ h4]
          rfl
        · rw [SA (.bool (A x)) (.bool (A x)) (by simp [PyData.depth]) (.inl rfl) rfl]
          simp [sameB]
      refine S_if (E_notT (E_tru ?_))
      rw [e1, wE_ok]
      refine O_some (a := PyData.bool true) rfl (O_some (a := true) rfl (ite_f rfl ?_))
      exact S_skip ⟨st2, _, _, rfl, h1, .inr ⟨_, rfl⟩⟩
    repeat (first | with_reducible refine V_val (F.gk _ _ _) ?_ | with_reducible refine V_val (F.gn _ _ _) ?_ | with_reducible refine V_val (F.gt _ _ _) ?_ | with_reducible refine V_own (F.gs _ _ _) ?_ | walk_at "pv")
    refine ite_k (fun hk => ?_) fun hk => ?_
    · repeat (first | with_reducible refine V_val (F.gk _ _ _) ?_ | with_reducible refine V_val (F.gn _ _ _) ?_ | with_reducible refine V_val (F.gt _ _ _) ?_ | with_reducible refine V_own (F.gs _ _ _) ?_ | with_reducible refine Own_own (F.gs _ _ _) ?_ | walk_at "pv")
      refine wF_mono (OD st hst) ?_ (fun _ z => z)
      rintro x _ ⟨st2, rfl, hst2, hx⟩
      refine ⟨_, rfl, P_some (a := x) (b := _) rfl ?_⟩
      rw [F.s, F.a]
      exact last st2 x hst2 hx
    · have hk : ¬ ((i : Int) < (n : Int)) := by simpa using hk
      have hi2 : i < n + seen.length := by omega
      have hj : i - n < seen.length := by omega
      have ex : fIx (.list seen) (.int ((i : Int) - (n : Int))) = some seen[i - n] := by
        rw [show ((i : Int) - (n : Int)) = ((i - n : Nat) : Int) by omega]
        exact atI_at (List.getElem?_eq_getElem hj)
      refine E_bin (E_var (V_val (F.gn _ _ _) (E_bin (E_var (V_val (F.gk _ _ _) (E_lit ?_))))))
      refine O_some (a := PyData.int (i : Int)) rfl (O_some (a := PyData.int (n : Int)) rfl (O_some (a := PyData.int ((i : Int) - (n : Int))) rfl ?_))
      refine O_some (a := PyData.list seen) rfl (O_some (a := PyData.int ((i : Int) - (n : Int))) rfl (O_some ex ?_))
      refine P_some (a := seen[i - n]) (b := _) rfl ?_
      rw [F.a]
      exact last st _ hst (hs _ (List.getElem_mem hj))
  · obtain ⟨st, a, b, rfl, h1, h2⟩ := hI
    exact go st a b h1 h2
def EndsP (P : PyData → Prop) (T : Tab) (F : Str) (ds : List PyData) : Prop := (∃ D, T.fn F ds = .ok D [] ∧ P D) ∨ T.fn F ds = .exc "UnfitCard" ∨ T.fn F ds = .exc "TooWide"
def NearP (P : PyData → Prop) (d : PyData) (io : List PyData) : Prop := ∃ st', io = [st'] ∧ St st' ∧ P d
theorem endsP_if {P : PyData → Prop} {T : Tab} {F : Str} {ds : List PyData} {v : Bool} {D : PyData} (h : T.fn F ds = if v = true then .ok D [] else .exc "UnfitCard") (p : v = true → P D) : EndsP P T F ds := by
  cases v with
  | true =>
    rw [if_pos rfl] at h
    exact .inl ⟨D, h, p rfl⟩
  | false =>
    rw [if_neg Bool.false_ne_true] at h
    exact .inr (.inl h)
theorem nearP2 {known : List Str} {isub : Str → Str → Bool} (K : Kn known isub) {T : Tab} {F : Str} {P : PyData → Prop} (hP : P (.tuple [])) (NX : NextAt T) {st : PyData} (hst : St st) {a0 a1 : PyData} {P0 P1 : PyData → Prop} (N0 : NbP T a0 P0) (E0 : ∀ d, P0 d → EndsP P T F [d, a1]) (N1 : NbP T a1 P1) (E1 : ∀ d, P1 d → EndsP P T F [a0, d]) : wF (fnRes 3 true 6 (gNear2 known isub F) T [st, a0, a1]) (NearP P) (fun _ => False) := by
  refine F_run [.own true st, .val a0, .val a1, .un, .un, .un] rfl rfl ?_
  unfold gNear2
  have hL : LINE = 16777216 := rfl
  have last : ∀ (b0 b1 : PyData) (st2 : PyData) (c : SV), St st2 → EndsP P T F [b0, b1] → wS (dTry known isub (dRet (dCallF F (dCons (dBin fIx (dVar 3) (dLit (.int 0))) (dCons (dBin fIx (dVar 3) (dLit (.int 1))) dNil)))) [("UnfitCard", 5, .empty), ("TooWide", 5, .empty)] T [.own true st2, .val a0, .val a1, .own false (.list [b0, b1]), c, .un]) (fun e => wO (ioOut true e) fun l => NearP P .none l) (fun d e => wO (ioOut true e) fun l => NearP P d l) (fun c => true = false ∧ False) (fun _ => False) fun _ => False := by
    intro b0 b1 st2 c hst2 hE
    have ga : (dCons (dBin fIx (dVar 3) (dLit (.int 0))) (dCons (dBin fIx (dVar 3) (dLit (.int 1))) dNil)) T ([.own true st2, .val a0, .val a1, .own false (.list [b0, b1]), c, .un] : Pv.Env) = .ok [.d b0, .d b1] [.own true st2, .val a0, .val a1, .own false (.list [b0, b1]), c, .un] := rfl
    rcases hE with ⟨D, hD, sD⟩ | hD | hD
    · refine S_try (r := .ret D _) (by
        unfold dRet
        rw [call_ok ga rfl rfl hD]
        rfl) ?_
      exact ⟨st2, rfl, hst2, sD⟩
    · refine S_try (r := .exc "UnfitCard" _) (by
        unfold dRet
        rw [call_exc ga rfl hD]
        rfl) ?_
      rw [hnd_u K _ _ _ (by simp only [List.length_cons, List.length_nil]; omega)]
      exact ⟨st2, rfl, hst2, hP⟩
    · refine S_try (r := .exc "TooWide" _) (by
        unfold dRet
        rw [call_exc ga rfl hD]
        rfl) ?_
      rw [hnd_w K _ _ _ (by simp only [List.length_cons, List.length_nil]; omega)]
      exact ⟨st2, rfl, hst2, hP⟩
  repeat walk_at "pv"
  refine draw NX hst (by decide) (by decide) ?_
  intro v st1 v0 v1 hst1
  refine ⟨_, rfl, ?_⟩
  repeat walk_at "pv"
  have vs : v = 0 ∨ v = 1 := by omega
  rcases vs with rfl | rfl
  · have f0 : fIx (.list [a0, a1]) (.int 0) = some a0 := atI_at (i := 0) rfl
    repeat (first | walk_at "pv" | refine O_some f0 ?_)
    refine wF_mono (N0 st1 hst1) ?_ (fun _ z => z)
    rintro d io ⟨st2, rfl, hst2, hd⟩
    refine ⟨_, rfl, ?_⟩
    repeat (first | exact last d _ st2 _ hst2 (E0 d hd) | walk_at "pv")
  · have f1 : fIx (.list [a0, a1]) (.int 1) = some a1 := atI_at (i := 1) rfl
    repeat (first | walk_at "pv" | refine O_some f1 ?_)
    refine wF_mono (N1 st1 hst1) ?_ (fun _ z => z)
    rintro d io ⟨st2, rfl, hst2, hd⟩
    refine ⟨_, rfl, ?_⟩
    repeat (first | exact last _ d st2 _ hst2 (E1 d hd) | walk_at "pv")
theorem nearP3 {known : List Str} {isub : Str → Str → Bool} (K : Kn known isub) {T : Tab} {F : Str} {P : PyData → Prop} (hP : P (.tuple [])) (NX : NextAt T) {st : PyData} (hst : St st) {a0 a1 a2 : PyData} {P0 P1 P2 : PyData → Prop} (N0 : NbP T a0 P0) (E0 : ∀ d, P0 d → EndsP P T F [d, a1, a2]) (N1 : NbP T a1 P1) (E1 : ∀ d, P1 d → EndsP P T F [a0, d, a2]) (N2 : NbP T a2 P2) (E2 : ∀ d, P2 d → EndsP P T F [a0, a1, d]) : wF (fnRes 4 true 7 (gNear3 known isub F) T [st, a0, a1, a2]) (NearP P) (fun _ => False) := by
  refine F_run [.own true st, .val a0, .val a1, .val a2, .un, .un, .un] rfl rfl ?_
  unfold gNear3
  have hL : LINE = 16777216 := rfl
  have last : ∀ (b0 b1 b2 : PyData) (st2 : PyData) (c : SV), St st2 → EndsP P T F [b0, b1, b2] → wS (dTry known isub (dRet (dCallF F (dCons (dBin fIx (dVar 4) (dLit (.int 0))) (dCons (dBin fIx (dVar 4) (dLit (.int 1))) (dCons (dBin fIx (dVar 4) (dLit (.int 2))) dNil))))) [("UnfitCard", 6, .empty), ("TooWide", 6, .empty)] T [.own true st2, .val a0, .val a1, .val a2, .own false (.list [b0, b1, b2]), c, .un]) (fun e => wO (ioOut true e) fun l => NearP P .none l) (fun d e => wO (ioOut true e) fun l => NearP P d l) (fun c => true = false ∧ False) (fun _ => False) fun _ => False := by
    intro b0 b1 b2 st2 c hst2 hE
    have ga : (dCons (dBin fIx (dVar 4) (dLit (.int 0))) (dCons (dBin fIx (dVar 4) (dLit (.int 1))) (dCons (dBin fIx (dVar 4) (dLit (.int 2))) dNil))) T ([.own true st2, .val a0, .val a1, .val a2, .own false (.list [b0, b1, b2]), c, .un] : Pv.Env) = .ok [.d b0, .d b1, .d b2] [.own true st2, .val a0, .val a1, .val a2, .own false (.list [b0, b1, b2]), c, .un] := rfl
    rcases hE with ⟨D, hD, sD⟩ | hD | hD
    · refine S_try (r := .ret D _) (by
        unfold dRet
        rw [call_ok ga rfl rfl hD]
        rfl) ?_
      exact ⟨st2, rfl, hst2, sD⟩
    · refine S_try (r := .exc "UnfitCard" _) (by
        unfold dRet
        rw [call_exc ga rfl hD]
        rfl) ?_
      rw [hnd_u K _ _ _ (by simp only [List.length_cons, List.length_nil]; omega)]
      exact ⟨st2, rfl, hst2, hP⟩
    · refine S_try (r := .exc "TooWide" _) (by
        unfold dRet
        rw [call_exc ga rfl hD]
        rfl) ?_
      rw [hnd_w K _ _ _ (by simp only [List.length_cons, List.length_nil]; omega)]
      exact ⟨st2, rfl, hst2, hP⟩
  repeat walk_at "pv"
  refine draw NX hst (by decide) (by decide) ?_
  intro v st1 v0 v1 hst1
  refine ⟨_, rfl, ?_⟩
  repeat walk_at "pv"
  have vs : v = 0 ∨ v = 1 ∨ v = 2 := by omega
  rcases vs with rfl | rfl | rfl
  · have f0 : fIx (.list [a0, a1, a2]) (.int 0) = some a0 := atI_at (i := 0) rfl
    repeat (first | walk_at "pv" | refine O_some f0 ?_)
    refine wF_mono (N0 st1 hst1) ?_ (fun _ z => z)
    rintro d io ⟨st2, rfl, hst2, hd⟩
    refine ⟨_, rfl, ?_⟩
    repeat (first | exact last d _ _ st2 _ hst2 (E0 d hd) | walk_at "pv")
  · have f1 : fIx (.list [a0, a1, a2]) (.int 1) = some a1 := atI_at (i := 1) rfl
    repeat (first | walk_at "pv" | refine O_some f1 ?_)
    refine wF_mono (N1 st1 hst1) ?_ (fun _ z => z)
    rintro d io ⟨st2, rfl, hst2, hd⟩
    refine ⟨_, rfl, ?_⟩
    repeat (first | exact last _ d _ st2 _ hst2 (E1 d hd) | walk_at "pv")
  · have f2 : fIx (.list [a0, a1, a2]) (.int 2) = some a2 := atI_at (i := 2) rfl
    repeat (first | walk_at "pv" | refine O_some f2 ?_)
    refine wF_mono (N2 st1 hst1) ?_ (fun _ z => z)
    rintro d io ⟨st2, rfl, hst2, hd⟩
    refine ⟨_, rfl, ?_⟩
    repeat (first | exact last _ _ d st2 _ hst2 (E2 d hd) | walk_at "pv")
end Sh
end
section
set_option Elab.async false
set_option linter.all false
set_option maxRecDepth 100000
set_option maxHeartbeats 1000000
set_option autoImplicit false
namespace Sh
open PySem PySem.Spec PyProof.Rows L2 Pv
local macro_rules | `(tactic| walk_at "pv") => `(tactic| first | ((with_reducible apply S_env); focus (dsimp only [List.set_cons_zero, List.set_cons_succ]; first | done | exact rfl)) | ((with_reducible apply E_env); focus (dsimp only [List.set_cons_zero, List.set_cons_succ]; first | done | exact rfl)) | ((with_reducible apply P_some); focus (dsimp only [takes_cons, takes_nil, takeW_d, Option.bind_some, Option.map_some]; first | done | exact rfl)) | ((with_reducible apply O_some); focus (dsimp only [derefs_cons, derefs_nil, deref_d, Option.bind_some, Option.map_some]; first | done | exact rfl)) | with_reducible refine E_bin ?_ | with_reducible refine E_cmp ?_ | with_reducible refine E_chain ?_ | with_reducible refine E_tru ?_ | with_reducible refine E_ofT ?_ | with_reducible refine E_notT ?_ | with_reducible refine E_isN ?_ | with_reducible refine E_and ?_ | with_reducible refine E_or ?_ | with_reducible refine E_andT ?_ | with_reducible refine E_orT ?_ | with_reducible refine E_if ?_ | with_reducible refine E_nil ?_ | with_reducible refine E_cons ?_ | with_reducible refine E_call ?_ | with_reducible refine E_fz ?_ | with_reducible refine E_tup ?_ | with_reducible refine E_lst ?_ | with_reducible refine E_emptyD ?_ | with_reducible refine E_src ?_ | with_reducible refine E_range1 ?_ | with_reducible refine E_range2 ?_ | with_reducible refine E_isi ?_ | with_reducible refine E_listOf ?_ | with_reducible refine E_noP ?_ | with_reducible refine E_part ?_ | with_reducible refine E_sl ?_ | with_reducible refine E_rev ?_ | with_reducible refine E_neg ?_ | with_reducible refine E_lenSet ?_ | with_reducible refine E_tupRg1 ?_ | with_reducible refine E_tupRg2 ?_ | with_reducible refine E_callF ?_ | with_reducible refine E_callIo ?_ | with_reducible refine E_lit ?_ | with_reducible refine E_var ?_ | with_reducible refine E_meth ?_ | with_reducible refine E_repF ?_ | with_reducible refine E_lstRg1 ?_ | with_reducible refine E_yes ?_ | with_reducible refine E_sorted ?_ | with_reducible refine E_lenSetT ?_ | with_reducible refine E_index ?_ | with_reducible refine E_getLit ?_ | with_reducible refine E_enum ?_ | with_reducible refine E_zip ?_ | with_reducible refine E_join ?_ | with_reducible refine E_split ?_ | with_reducible refine E_fresh ?_ | with_reducible refine E_valK ?_ | with_reducible refine Src_dl ?_ | with_reducible refine Src_dt ?_ | with_reducible refine Io_sl ?_ | with_reducible refine L2_2 ?_ | with_reducible refine L3_3 ?_ | with_reducible refine S_parX ?_ | with_reducible refine S_seq ?_ | with_reducible refine S_skip ?_ | with_reducible refine S_break ?_ | with_reducible refine S_cont ?_ | with_reducible refine S_raise ?_ | with_reducible refine S_retN ?_ | with_reducible refine S_if ?_ | with_reducible refine S_drop ?_ | with_reducible refine S_ret ?_ | with_reducible refine S_set ?_ | with_reducible refine S_setO ?_ | with_reducible refine S_setG ?_ | with_reducible refine S_par2 ?_ | with_reducible refine S_par3 ?_ | with_reducible refine S_setIx ?_ | with_reducible refine S_aug ?_ | with_reducible refine S_augIx ?_ | with_reducible refine S_for ?_ | ((with_reducible apply V_val); focus exact rfl) | ((with_reducible apply V_own); focus exact rfl) | ((with_reducible apply V_scr); focus exact rfl) | ((with_reducible apply Own_own); focus exact rfl) | ((with_reducible apply O_some); focus exact rfl) | ((with_reducible apply B_some); focus exact rfl) | ((with_reducible apply P_some); focus exact rfl) | ((with_reducible apply ite_t); focus exact rfl) | ((with_reducible apply ite_f); focus exact rfl) | ((with_reducible apply O_some); focus (first | exact mul_ok (by decide) | exact mod_ok (by omega) | exact div_ok (by omega))) | ((with_reducible refine And.intro ?_ ?_); focus (first | exact rfl | decide | (simp only [List.length_cons, List.length_nil]; first | done | decide))))

theorem rows_app {rs qs : List (List Int)} : rowsD rs ++ rowsD qs = rowsD (rs ++ qs) := by
  unfold rowsD
  rw [List.map_append]
end Sh
end
section
set_option Elab.async false
set_option linter.all false
set_option maxRecDepth 100000
set_option maxHeartbeats 1000000
set_option autoImplicit false
namespace Sh
open PySem PySem.Spec PyProof.Rows L2 Pv
local macro_rules | `(tactic| walk_at "pv") => `(tactic| first | ((with_reducible apply S_env); focus (dsimp only [List.set_cons_zero, List.set_cons_succ]; first | done | exact rfl)) | ((with_reducible apply E_env); focus (dsimp only [List.set_cons_zero, List.set_cons_succ]; first | done | exact rfl)) | ((with_reducible apply P_some); focus (dsimp only [takes_cons, takes_nil, takeW_d, Option.bind_some, Option.map_some]; first | done | exact rfl)) | ((with_reducible apply O_some); focus (dsimp only [derefs_cons, derefs_nil, deref_d, Option.bind_some, Option.map_some]; first | done | exact rfl)) | with_reducible refine E_bin ?_ | with_reducible refine E_cmp ?_ | with_reducible refine E_chain ?_ | with_reducible refine E_tru ?_ | with_reducible refine E_ofT ?_ | with_reducible refine E_notT ?_ | with_reducible refine E_isN ?_ | with_reducible refine E_and ?_ | with_reducible refine E_or ?_ | with_reducible refine E_andT ?_ | with_reducible refine E_orT ?_ | with_reducible refine E_if ?_ | with_reducible refine E_nil ?_ | with_reducible refine E_cons ?_ | with_reducible refine E_call ?_ | with_reducible refine E_fz ?_ | with_reducible refine E_tup ?_ | with_reducible refine E_lst ?_ | with_reducible refine E_emptyD ?_ | with_reducible refine E_src ?_ | with_reducible refine E_range1 ?_ | with_reducible refine E_range2 ?_ | with_reducible refine E_isi ?_ | with_reducible refine E_listOf ?_ | with_reducible refine E_noP ?_ | with_reducible refine E_part ?_ | with_reducible refine E_sl ?_ | with_reducible refine E_rev ?_ | with_reducible refine E_neg ?_ | with_reducible refine E_lenSet ?_ | with_reducible refine E_tupRg1 ?_ | with_reducible refine E_tupRg2 ?_ | with_reducible refine E_callF ?_ | with_reducible refine E_callIo ?_ | with_reducible refine E_lit ?_ | with_reducible refine E_var ?_ | with_reducible refine E_meth ?_ | with_reducible refine E_repF ?_ | with_reducible refine E_lstRg1 ?_ | with_reducible refine E_yes ?_ | with_reducible refine E_sorted ?_ | with_reducible refine E_lenSetT ?_ | with_reducible refine E_index ?_ | with_reducible refine E_getLit ?_ | with_reducible refine E_enum ?_ | with_reducible refine E_zip ?_ | with_reducible refine E_join ?_ | with_reducible refine E_split ?_ | with_reducible refine E_fresh ?_ | with_reducible refine E_valK ?_ | with_reducible refine Src_dl ?_ | with_reducible refine Src_dt ?_ | with_reducible refine Io_sl ?_ | with_reducible refine L2_2 ?_ | with_reducible refine L3_3 ?_ | with_reducible refine S_parX ?_ | with_reducible refine S_seq ?_ | with_reducible refine S_skip ?_ | with_reducible refine S_break ?_ | with_reducible refine S_cont ?_ | with_reducible refine S_raise ?_ | with_reducible refine S_retN ?_ | with_reducible refine S_if ?_ | with_reducible refine S_drop ?_ | with_reducible refine S_ret ?_ | with_reducible refine S_set ?_ | with_reducible refine S_setO ?_ | with_reducible refine S_setG ?_ | with_reducible refine S_par2 ?_ | with_reducible refine S_par3 ?_ | with_reducible refine S_setIx ?_ | with_reducible refine S_aug ?_ | with_reducible refine S_augIx ?_ | with_reducible refine S_for ?_ | ((with_reducible apply V_val); focus exact rfl) | ((with_reducible apply V_own); focus exact rfl) | ((with_reducible apply V_scr); focus exact rfl) | ((with_reducible apply Own_own); focus exact rfl) | ((with_reducible apply O_some); focus exact rfl) | ((with_reducible apply B_some); focus exact rfl) | ((with_reducible apply P_some); focus exact rfl) | ((with_reducible apply ite_t); focus exact rfl) | ((with_reducible apply ite_f); focus exact rfl) | ((with_reducible apply O_some); focus (first | exact mul_ok (by decide) | exact mod_ok (by omega) | exact div_ok (by omega))) | ((with_reducible refine And.intro ?_ ?_); focus (first | exact rfl | decide | (simp only [List.length_cons, List.length_nil]; first | done | decide))))

theorem app_row {R : List (List Int)} {r : List Int} (h : R.length ≤ 1000) : fAppend (Sh.rowsD R) [intsT r] = some (Sh.rowsD (R ++ [r]), .none) := by
  have hL : LINE = 16777216 := rfl
  have e : Sh.rowsD R ++ [intsT r] = Sh.rowsD (R ++ [r]) := by
    rw [← rows_app]
    rfl
  show (if (Sh.rowsD R).length < LINE then some (Sh.rowsD R ++ [intsT r], PyData.none) else none) = _
  rw [if_pos (by rw [rows_len]; omega), e]
theorem num_ints (r : List Int) : numB (intsT r) = true := by
  show numL (r.map .int) = true
  induction r with
  | nil => rfl
  | cons a l ih => exact ih
theorem num_rows (l : List (List Int)) : numB (.tuple (Sh.rowsD l)) = true := by
  show numL (Sh.rowsD l) = true
  induction l with
  | nil => rfl
  | cons a l ih =>
    show (numB (intsT a) && numL (Sh.rowsD l)) = true
    rw [num_ints, ih]
    rfl
theorem nzs_ints (l : List Int) : nzs (l.map .int) = l.length := by
  induction l with
  | nil => rfl
  | cons a l ih =>
    simp only [List.map_cons, nzs, List.length_cons]
    rw [ih, nz_int]
    omega
def rowI : PyData → List Int
  | .tuple xs => (intsOf xs).getD []
  | _ => []
theorem rowI_is (r : List Int) : rowI (intsT r) = r := by
  show (intsOf (r.map .int)).getD [] = r
  rw [Sh.ints_of]
  rfl
section
variable {T : Tab} {env : Pv.Env} {QL : List PyData → Pv.Env → Prop} {X : Str → Prop}
end
def upto (n : Nat) : List Int := (List.range n).map fun i : Nat => (i : Int)
theorem upto_len (n : Nat) : (upto n).length = n := by simp [upto]
theorem upto_mem {n : Nat} {c : Int} (h : c ∈ upto n) : ∃ i : Nat, i < n ∧ c = (i : Int) := by
  obtain ⟨i, hi, rfl⟩ := List.mem_map.mp h
  exact ⟨i, List.mem_range.mp hi, rfl⟩
def isTup1 : PyData → Bool
  | .tuple (_ :: .tuple _ :: _) => true
  | _ => false
def at1 (f : PyData → Bool) : PyData → Bool
  | .tuple (_ :: p :: _) => f p
  | _ => false
def at3 (f : PyData → Bool) : PyData → Bool
  | .tuple (_ :: _ :: _ :: p :: _) => f p
  | _ => false
theorem wholes_is (ns : List Int) : wholesB ns.length (intsT ns) = true := by
  show (decide ((ns.map PyData.int).length = ns.length) && (ns.map PyData.int).all wholeB) = true
  rw [all_whole, List.length_map, decide_eq_true rfl]
  rfl
end Sh
end
section
set_option Elab.async false
set_option linter.all false
set_option maxRecDepth 100000
set_option maxHeartbeats 1000000
set_option autoImplicit false
namespace Sh
open PySem PySem.Spec PyProof.Rows L2 Pv
local macro_rules | `(tactic| walk_at "pv") => `(tactic| first | ((with_reducible apply S_env); focus (dsimp only [List.set_cons_zero, List.set_cons_succ]; first | done | exact rfl)) | ((with_reducible apply E_env); focus (dsimp only [List.set_cons_zero, List.set_cons_succ]; first | done | exact rfl)) | ((with_reducible apply P_some); focus (dsimp only [takes_cons, takes_nil, takeW_d, Option.bind_some, Option.map_some]; first | done | exact rfl)) | ((with_reducible apply O_some); focus (dsimp only [derefs_cons, derefs_nil, deref_d, Option.bind_some, Option.map_some]; first | done | exact rfl)) | with_reducible refine E_bin ?_ | with_reducible refine E_cmp ?_ | with_reducible refine E_chain ?_ | with_reducible refine E_tru ?_ | with_reducible refine E_ofT ?_ | with_reducible refine E_notT ?_ | with_reducible refine E_isN ?_ | with_reducible refine E_and ?_ | with_reducible refine E_or ?_ | with_reducible refine E_andT ?_ | with_reducible refine E_orT ?_ | with_reducible refine E_if ?_ | with_reducible refine E_nil ?_ | with_reducible refine E_cons ?_ | with_reducible refine E_call ?_ | with_reducible refine E_fz ?_ | with_reducible refine E_tup ?_ | with_reducible refine E_lst ?_ | with_reducible refine E_emptyD ?_ | with_reducible refine E_src ?_ | with_reducible refine E_range1 ?_ | with_reducible refine E_range2 ?_ | with_reducible refine E_isi ?_ | with_reducible refine E_listOf ?_ | with_reducible refine E_noP ?_ | with_reducible refine E_part ?_ | with_reducible refine E_sl ?_ | with_reducible refine E_rev ?_ | with_reducible refine E_neg ?_ | with_reducible refine E_lenSet ?_ | with_reducible refine E_tupRg1 ?_ | with_reducible refine E_tupRg2 ?_ | with_reducible refine E_callF ?_ | with_reducible refine E_callIo ?_ | with_reducible refine E_lit ?_ | with_reducible refine E_var ?_ | with_reducible refine E_meth ?_ | with_reducible refine E_repF ?_ | with_reducible refine E_lstRg1 ?_ | with_reducible refine E_yes ?_ | with_reducible refine E_sorted ?_ | with_reducible refine E_lenSetT ?_ | with_reducible refine E_index ?_ | with_reducible refine E_getLit ?_ | with_reducible refine E_enum ?_ | with_reducible refine E_zip ?_ | with_reducible refine E_join ?_ | with_reducible refine E_split ?_ | with_reducible refine E_fresh ?_ | with_reducible refine E_valK ?_ | with_reducible refine Src_dl ?_ | with_reducible refine Src_dt ?_ | with_reducible refine Io_sl ?_ | with_reducible refine L2_2 ?_ | with_reducible refine L3_3 ?_ | with_reducible refine S_parX ?_ | with_reducible refine S_seq ?_ | with_reducible refine S_skip ?_ | with_reducible refine S_break ?_ | with_reducible refine S_cont ?_ | with_reducible refine S_raise ?_ | with_reducible refine S_retN ?_ | with_reducible refine S_if ?_ | with_reducible refine S_drop ?_ | with_reducible refine S_ret ?_ | with_reducible refine S_set ?_ | with_reducible refine S_setO ?_ | with_reducible refine S_setG ?_ | with_reducible refine S_par2 ?_ | with_reducible refine S_par3 ?_ | with_reducible refine S_setIx ?_ | with_reducible refine S_aug ?_ | with_reducible refine S_augIx ?_ | with_reducible refine S_for ?_ | ((with_reducible apply V_val); focus exact rfl) | ((with_reducible apply V_own); focus exact rfl) | ((with_reducible apply V_scr); focus exact rfl) | ((with_reducible apply Own_own); focus exact rfl) | ((with_reducible apply O_some); focus exact rfl) | ((with_reducible apply B_some); focus exact rfl) | ((with_reducible apply P_some); focus exact rfl) | ((with_reducible apply ite_t); focus exact rfl) | ((with_reducible apply ite_f); focus exact rfl) | ((with_reducible apply O_some); focus (first | exact mul_ok (by decide) | exact mod_ok (by omega) | exact div_ok (by omega))) | ((with_reducible refine And.intro ?_ ?_); focus (first | exact rfl | decide | (simp only [List.length_cons, List.length_nil]; first | done | decide))))

section
variable {T : Tab} {env : Pv.Env} {QL : List PyData → Pv.Env → Prop} {X : Str → Prop}
end
end Sh
end
section
set_option Elab.async false
set_option linter.all false
set_option maxRecDepth 100000
set_option maxHeartbeats 4000000
set_option autoImplicit false
namespace W24
open PySem PySem.Spec PyProof.Rows L2 Pv
abbrev top (i : Nat) : Stmt := PySem.Challenge.pw_cardwhole_k24_tops_to_places_and_dealt_h.main.body.getD i (.Pass ⟨0, 0, 0, 0⟩)
abbrev known : List Str := ["CardwholeError", "UnfitCard", "TooWide"]
def isub (c x : Str) : Bool := [(("CardwholeError" : Str), ("CardwholeError" : Str)), (("UnfitCard" : Str), ("CardwholeError" : Str)), (("UnfitCard" : Str), ("UnfitCard" : Str)), (("TooWide" : Str), ("CardwholeError" : Str)), (("TooWide" : Str), ("TooWide" : Str))].contains (c, x)
abbrev d_is_whole : DefT := ⟨top 5, ["value"], ["value"]⟩
theorem nN_is_whole : (d_is_whole.N).Nodup := by decide +kernel
abbrev d_is_told : DefT := ⟨top 6, ["told", "word", "count"], ["told", "word", "count"]⟩
theorem nN_is_told : (d_is_told.N).Nodup := by decide +kernel
abbrev d_are_wholes : DefT := ⟨top 7, ["value", "count", "part"], ["value", "count"]⟩
theorem nN_are_wholes : (d_are_wholes.N).Nodup := by decide +kernel
abbrev d_check_pack : DefT := ⟨top 10, ["row"], ["row"]⟩
theorem nN_check_pack : (d_check_pack.N).Nodup := by decide +kernel
abbrev d_to_place : DefT := ⟨top 11, ["size", "goal", "kinds", "left"], ["size", "goal"]⟩
theorem nN_to_place : (d_to_place.N).Nodup := by decide +kernel
abbrev d_place_after : DefT := ⟨top 12, ["size", "place", "kind", "half"], ["size", "place", "kind"]⟩
theorem nN_place_after : (d_place_after.N).Nodup := by decide +kernel
abbrev d_judge_to_place : DefT := ⟨top 13, ["size", "goal", "told", "due", "place", "kind"], ["size", "goal", "told"]⟩
theorem nN_judge_to_place : (d_judge_to_place.N).Nodup := by decide +kernel
abbrev d_dealt : DefT := ⟨top 14, ["row", "hands", "kind", "size", "rest", "at"], ["row", "hands", "kind"]⟩
theorem nN_dealt : (d_dealt.N).Nodup := by decide +kernel
abbrev d_judge_dealt : DefT := ⟨top 15, ["row", "hands", "kind", "told", "due"], ["row", "hands", "kind", "told"]⟩
theorem nN_judge_dealt : (d_judge_dealt.N).Nodup := by decide +kernel
abbrev d__law_next : DefT := ⟨top 17, ["state", "limit", "cell", "value"], ["state", "limit"]⟩
theorem nN__law_next : (d__law_next.N).Nodup := by decide +kernel
abbrev d__law_same : DefT := ⟨top 18, ["actual", "expected", "k"], ["actual", "expected"]⟩
theorem nN__law_same : (d__law_same.N).Nodup := by decide +kernel
abbrev d__law_is_whole : DefT := ⟨top 19, ["value"], ["value"]⟩
theorem nN__law_is_whole : (d__law_is_whole.N).Nodup := by decide +kernel
abbrev d__law_is_place : DefT := ⟨top 20, ["value", "most"], ["value", "most"]⟩
theorem nN__law_is_place : (d__law_is_place.N).Nodup := by decide +kernel
abbrev d__law_are_places : DefT := ⟨top 21, ["value", "most", "part"], ["value", "most"]⟩
theorem nN__law_are_places : (d__law_are_places.N).Nodup := by decide +kernel
abbrev d__law_is : DefT := ⟨top 22, ["told", "word", "count"], ["told", "word", "count"]⟩
theorem nN__law_is : (d__law_is.N).Nodup := by decide +kernel
abbrev d__law_changed : DefT := ⟨top 23, ["state", "value", "others", "k", "j", "more", "turn"], ["state", "value"]⟩
theorem nN__law_changed : (d__law_changed.N).Nodup := by decide +kernel
abbrev d__law_ints : DefT := ⟨top 24, ["value", "found", "part", "number"], ["value"]⟩
theorem nN__law_ints : (d__law_ints.N).Nodup := by decide +kernel
abbrev d__law_exchanged : DefT := ⟨top 25, ["value", "one", "other", "part"], ["value", "one", "other"]⟩
theorem nN__law_exchanged : (d__law_exchanged.N).Nodup := by decide +kernel
abbrev d__law_cut : DefT := ⟨top 26, ["state", "value", "part", "k", "at", "ways"], ["state", "value"]⟩
theorem nN__law_cut : (d__law_cut.N).Nodup := by decide +kernel
abbrev d__law_turned_about : DefT := ⟨top 27, ["state", "told", "numbers", "pick", "one", "other", "part", "k", "j"], ["state", "told"]⟩
theorem nN__law_turned_about : (d__law_turned_about.N).Nodup := by decide +kernel
abbrev d__law_odd : DefT := ⟨top 28, ["state", "told", "odd", "pick"], ["state", "told"]⟩
theorem nN__law_odd : (d__law_odd.N).Nodup := by decide +kernel
abbrev d__law_mixed : DefT := ⟨top 29, ["state", "row", "left", "k"], ["state", "row"]⟩
theorem nN__law_mixed : (d__law_mixed.N).Nodup := by decide +kernel
abbrev d__law_cards : DefT := ⟨top 30, ["state", "low", "high", "most"], ["state", "low", "high", "most"]⟩
theorem nN__law_cards : (d__law_cards.N).Nodup := by decide +kernel
abbrev d__law_neighbour : DefT := ⟨top 31, ["state", "value", "step", "k"], ["state", "value"]⟩
theorem nN__law_neighbour : (d__law_neighbour.N).Nodup := by decide +kernel
abbrev d__law_next_place : DefT := ⟨top 32, ["size", "place", "kind", "half"], ["size", "place", "kind"]⟩
theorem nN__law_next_place : (d__law_next_place.N).Nodup := by decide +kernel
abbrev d__law_accepts : DefT := ⟨top 33, ["size", "goal", "told", "now", "steps", "place", "kind", "p"], ["size", "goal", "told"]⟩
theorem nN__law_accepts : (d__law_accepts.N).Nodup := by decide +kernel
abbrev d__law_told_near : DefT := ⟨top 34, ["state", "size", "goal", "things", "pick", "error"], ["state", "size", "goal"]⟩
theorem nN__law_told_near : (d__law_told_near.N).Nodup := by decide +kernel
abbrev d__law_unfit : DefT := ⟨top 35, ["size", "goal", "judged", "error"], ["size", "goal"]⟩
theorem nN__law_unfit : (d__law_unfit.N).Nodup := by decide +kernel
abbrev d__law_accepts_too : DefT := ⟨top 36, ["row", "hands", "kind", "told", "size", "found", "at", "k"], ["row", "hands", "kind", "told"]⟩
theorem nN__law_accepts_too : (d__law_accepts_too.N).Nodup := by decide +kernel
abbrev d__law_told_near_too : DefT := ⟨top 37, ["state", "row", "hands", "kind", "things", "pick", "error"], ["state", "row", "hands", "kind"]⟩
theorem nN__law_told_near_too : (d__law_told_near_too.N).Nodup := by decide +kernel
abbrev d__law_unfit_too : DefT := ⟨top 38, ["row", "hands", "kind", "judged", "error"], ["row", "hands", "kind"]⟩
theorem nN__law_unfit_too : (d__law_unfit_too.N).Nodup := by decide +kernel
abbrev d_law : DefT := ⟨top 39, ["script", "state", "seen", "seen_too", "turn", "size", "goal", "told", "near_told", "k", "asked", "row", "hands", "kind"], ["script"]⟩
theorem nN_law : (d_law.N).Nodup := by decide +kernel
def g_is_whole : Sx :=
    (dRet (dAnd (dIsi [.int] (dVar 0)) (dOfT (dNotT (dTru (dIsi [.bool] (dVar 0)))))))
def g_is_told : Sx :=
    (dSeq (dIfS (dOrT (dNotT (dTru (dIsi [.tuple] (dVar 0)))) (dCmp (fNe) (dCall fLen (dCons (dVar 0) dNil)) (dVar 2))) (dRet (dLit (.bool false))) dSkip)
    (dRet (dAnd (dIsi [.str] (dBin fIx (dVar 0) (dLit (.int 0)))) (dOfT (dCmp (fEq) (dBin fIx (dVar 0) (dLit (.int 0))) (dVar 1))))))
def g_are_wholes : Sx :=
    (dRet (dAnd (dIsi [.tuple] (dVar 0)) (dAnd (dOfT (dCmp (fEq) (dCall fLen (dCons (dVar 0) dNil)) (dVar 1))) (dOfT (dCmp (fIn true) (dLit (.bool false)) (fz (dLc (dSrc (dVar 0)) [2] (gSlot 2) dYes (dCallF "is_whole" (dCons (dVar 2) dNil)))))))))
def g_check_pack : Sx :=
    (dSeq (dIfS (dCmp (fCmpI fun i j => decide (i < j)) (dLenSet (dVar 0)) (dCall fLen (dCons (dVar 0) dNil))) (dRaise "UnfitCard") dSkip)
    (dIfS (dCmp (fCmpI fun i j => decide (j < i)) (dCall fLen (dCons (dVar 0) dNil)) (dLit (.int 60))) (dRaise "TooWide") dSkip))
def g_to_place : Sx :=
    (dSeq (dIfS (dOrT (dCmp (fCmpI fun i j => decide (i < j)) (dVar 0) (dLit (.int 2))) (dOrT (dCmp (fEq) (dBin fMod (dVar 0) (dLit (.int 2))) (dLit (.int 1))) (dNotT (dChain (fCmpI fun i j => decide (i ≤ j)) (fCmpI fun i j => decide (i < j)) (dLit (.int 0)) (dVar 1) (dVar 0))))) (dRaise "UnfitCard") dSkip)
    (dSeq (dIfS (dCmp (fCmpI fun i j => decide (j < i)) (dVar 0) (dLit (.int 60))) (dRaise "TooWide") dSkip)
    (dSeq (dSet 2 (dTup dNil))
    (dSeq (dSet 3 (dVar 1))
    (dSeq (dWhile (dCmp (fCmpI fun i j => decide (j < i)) (dVar 3) (dLit (.int 0))) (dSeq (dSet 2 (dBin fAdd (dTup (dCons (dBin fMod (dVar 3) (dLit (.int 2))) dNil)) (dVar 2)))
    (dSet 3 (dBin fDiv (dVar 3) (dLit (.int 2))))))
    (dRet (dTup (dCons (dLit (.str "kinds")) (dCons (dVar 2) dNil)))))))))
def g_place_after : Sx :=
    (dSeq (dSet 3 (dBin fDiv (dVar 0) (dLit (.int 2))))
    (dSeq (dIfS (dCmp (fCmpI fun i j => decide (i < j)) (dVar 1) (dVar 3)) (dRet (dBin fAdd (dBin fMul (dLit (.int 2)) (dVar 1)) (dVar 2))) dSkip)
    (dRet (dBin fSub (dBin fAdd (dBin fMul (dLit (.int 2)) (dBin fSub (dVar 1) (dVar 3))) (dLit (.int 1))) (dVar 2)))))
def g_judge_to_place : Sx :=
    (dSeq (dSet 3 (dCallF "to_place" (dCons (dVar 0) (dCons (dVar 1) dNil))))
    (dSeq (dIfS (dOrT (dNotT (dTru (dCallF "is_told" (dCons (dVar 2) (dCons (dLit (.str "kinds")) (dCons (dLit (.int 2)) dNil)))))) (dNotT (dTru (dCallF "are_wholes" (dCons (dBin fIx (dVar 2) (dLit (.int 1))) (dCons (dCall fLen (dCons (dBin fIx (dVar 3) (dLit (.int 1))) dNil)) dNil)))))) (dRet (dLit (.bool false))) dSkip)
    (dSeq (dSet 4 (dLit (.int 0)))
    (dSeq (dFor (dSrc (dBin fIx (dVar 2) (dLit (.int 1)))) (gSlot 5) (dSeq (dIfS (dCmp (fIn true) (dVar 5) (dTup (dCons (dLit (.int 0)) (dCons (dLit (.int 1)) dNil)))) (dRet (dLit (.bool false))) dSkip)
    (dSet 4 (dCallF "place_after" (dCons (dVar 0) (dCons (dVar 4) (dCons (dVar 5) dNil)))))))
    (dRet (dOfT (dCmp (fEq) (dVar 4) (dVar 1))))))))
def g_dealt : Sx :=
    (dSeq (dDrop (dCallF "check_pack" (dCons (dVar 0) dNil)))
    (dSeq (dIfS (dOrT (dCmp (fCmpI fun i j => decide (i < j)) (dVar 1) (dLit (.int 1))) (dCmp (fIn true) (dVar 2) (dTup (dCons (dLit (.int 0)) (dCons (dLit (.int 1)) dNil))))) (dRaise "UnfitCard") dSkip)
    (dSeq (dIfS (dCmp (fCmpI fun i j => decide (j < i)) (dVar 1) (dLit (.int 12))) (dRaise "TooWide") dSkip)
    (dSeq (dSet 3 (dBin fDiv (dCall fLen (dCons (dVar 0) dNil)) (dVar 1)))
    (dSeq (dSet 4 (dCall fTuple (dCons (dSl (dVar 0) (dPart (dBin fMul (dVar 3) (dVar 1))) dNoP) dNil)))
    (dSeq (dIfS (dCmp (fEq) (dVar 2) (dLit (.int 0))) (dRet (dTup (dCons (dLit (.str "hands")) (dCons (dCall fTuple (dCons (fz (dLc (dRange1 (dCons (dVar 1) dNil)) [5] (gSlot 5) dYes (dCall fTuple (dCons (dSlS (dVar 0) (dPart (dVar 5)) (dPart (dBin fMul (dVar 3) (dVar 1))) (dPart (dVar 1))) dNil)))) dNil)) (dCons (dVar 4) dNil))))) dSkip)
    (dRet (dTup (dCons (dLit (.str "hands")) (dCons (dCall fTuple (dCons (fz (dLc (dRange1 (dCons (dVar 1) dNil)) [5] (gSlot 5) dYes (dCall fTuple (dCons (dSl (dVar 0) (dPart (dBin fMul (dVar 5) (dVar 3))) (dPart (dBin fAdd (dBin fMul (dVar 5) (dVar 3)) (dVar 3)))) dNil)))) dNil)) (dCons (dVar 4) dNil)))))))))))
def g_judge_dealt : Sx :=
    (dSeq (dSet 4 (dCallF "dealt" (dCons (dVar 0) (dCons (dVar 1) (dCons (dVar 2) dNil)))))
    (dRet (dAnd (dCallF "is_told" (dCons (dVar 3) (dCons (dLit (.str "hands")) (dCons (dLit (.int 3)) dNil)))) (dAnd (dIsi [.tuple] (dBin fIx (dVar 3) (dLit (.int 1)))) (dOfT (dCmp (fEqS) (dCall fRepr (dCons (dVar 3) dNil)) (dCall fRepr (dCons (dVar 4) dNil))))))))
def g__law_next : Sx :=
    (dSeq (dIfS (dAndT (dCmp (fEq) (dBin fIx (dVar 0) (dLit (.int 2))) (dLit (.int 0))) (dCmp (fCmpI fun i j => decide (i < j)) (dBin fIx (dVar 0) (dLit (.int 1))) (dCall fLen (dCons (dBin fIx (dVar 0) (dLit (.int 0))) dNil)))) (dSeq (dSet 2 (dBin fIx (dBin fIx (dVar 0) (dLit (.int 0))) (dBin fIx (dVar 0) (dLit (.int 1)))))
    (dSeq (dAugIx 0 fAddI (dLit (.int 1)) (dLit (.int 1)))
    (dIfS (dCmp (fCmpI fun i j => decide (j ≤ i)) (dVar 2) (dBin fPow (dLit (.int 10)) (dLit (.int 18)))) (dSetIx 0 (dLit (.int 2)) (dVar 2)) (dSetIx 0 (dLit (.int 3)) (dBin fMod (dCall fInt (dCons (dBin fAdd (dBin fAdd (dBin fMul (dBin fIx (dVar 0) (dLit (.int 3))) (dLit (.int 48271))) (dBin fMod (dCall fInt (dCons (dVar 2) dNil)) (dLit (.int 2147483647)))) (dLit (.int 7))) dNil)) (dLit (.int 2147483647))))))) dSkip)
    (dSeq (dIfS (dCmp (fCmpI fun i j => decide (j < i)) (dBin fIx (dVar 0) (dLit (.int 2))) (dLit (.int 0))) (dSeq (dSet 3 (dBin fMod (dCall fInt (dCons (dBin fIx (dVar 0) (dLit (.int 2))) dNil)) (dVar 1)))
    (dSeq (dSetIx 0 (dLit (.int 2)) (dBin fDiv (dBin fIx (dVar 0) (dLit (.int 2))) (dVar 1)))
    (dRet (dVar 3)))) dSkip)
    (dSeq (dSetIx 0 (dLit (.int 3)) (dBin fMod (dCall fInt (dCons (dBin fAdd (dBin fMul (dBin fIx (dVar 0) (dLit (.int 3))) (dLit (.int 69621))) (dLit (.int 12345))) dNil)) (dLit (.int 2147483647))))
    (dRet (dBin fMod (dCall fInt (dCons (dBin fDiv (dBin fIx (dVar 0) (dLit (.int 3))) (dLit (.int 7))) dNil)) (dVar 1))))))
def g__law_same : Sx :=
    (dSeq (dIfS (dIsN false (dVar 1)) (dRet (dOfT (dIsN false (dVar 0)))) dSkip)
    (dSeq (dIfS (dTru (dIsi [.bool] (dVar 1))) (dRet (dAnd (dIsi [.bool] (dVar 0)) (dOfT (dCmp (fEq) (dVar 0) (dVar 1))))) dSkip)
    (dSeq (dIfS (dTru (dIsi [.int] (dVar 1))) (dRet (dAnd (dIsi [.int] (dVar 0)) (dAnd (dOfT (dNotT (dTru (dIsi [.bool] (dVar 0))))) (dOfT (dCmp (fEq) (dVar 0) (dVar 1)))))) dSkip)
    (dSeq (dIfS (dTru (dIsi [.str] (dVar 1))) (dRet (dAnd (dIsi [.str] (dVar 0)) (dOfT (dCmp (fEq) (dVar 0) (dVar 1))))) dSkip)
    (dSeq (dIfS (dAndT (dTru (dIsi [.tuple] (dVar 1))) (dNotT (dTru (dIsi [.tuple] (dVar 0))))) (dRet (dLit (.bool false))) dSkip)
    (dSeq (dIfS (dAndT (dTru (dIsi [.list] (dVar 1))) (dNotT (dTru (dIsi [.list] (dVar 0))))) (dRet (dLit (.bool false))) dSkip)
    (dSeq (dIfS (dCmp (fNe) (dCall fLen (dCons (dVar 0) dNil)) (dCall fLen (dCons (dVar 1) dNil))) (dRet (dLit (.bool false))) dSkip)
    (dSeq (dFor (dRange1 (dCons (dCall fLen (dCons (dVar 1) dNil)) dNil)) (gSlot 2) (dIfS (dNotT (dTru (dCallF "_law_same" (dCons (dBin fIx (dVar 0) (dVar 2)) (dCons (dBin fIx (dVar 1) (dVar 2)) dNil))))) (dRet (dLit (.bool false))) dSkip))
    (dRet (dLit (.bool true)))))))))))
def g__law_is_whole : Sx :=
    (dRet (dAnd (dIsi [.int] (dVar 0)) (dOfT (dNotT (dTru (dIsi [.bool] (dVar 0)))))))
def g__law_is_place : Sx :=
    (dRet (dAnd (dCallF "_law_is_whole" (dCons (dVar 0) dNil)) (dOfT (dChain (fCmpI fun i j => decide (i ≤ j)) (fCmpI fun i j => decide (i < j)) (dLit (.int 0)) (dVar 0) (dVar 1)))))
def g__law_are_places : Sx :=
    (dRet (dAnd (dIsi [.tuple] (dVar 0)) (dOfT (dCmp (fEq) (fz (dLc (dSrc (dVar 0)) [2] (gSlot 2) (dNotT (dTru (dCallF "_law_is_place" (dCons (dVar 2) (dCons (dVar 1) dNil))))) (dVar 2))) (fz (dLst dNil))))))
def g__law_is : Sx :=
    (dRet (dAnd (dIsi [.tuple] (dVar 0)) (dAnd (dOfT (dCmp (fEq) (dCall fLen (dCons (dVar 0) dNil)) (dVar 2))) (dAnd (dIsi [.str] (dBin fIx (dVar 0) (dLit (.int 0)))) (dOfT (dCmp (fEq) (dBin fIx (dVar 0) (dLit (.int 0))) (dVar 1)))))))
def g__law_changed : Sx :=
    (dSeq (dIfS (dTru (dIsi [.bool] (dVar 1))) (dRet (dBin fIx (fz (dLst (dCons (dOfT (dNotT (dTru (dVar 1)))) (dCons (dCall fInt (dCons (dVar 1) dNil)) dNil)))) (dCallIo "_law_next" (dCons (dVar 0) (dCons (dLit (.int 2)) dNil))))) dSkip)
    (dSeq (dIfS (dOrT (dIsN false (dVar 1)) (dTru (dIsi [.int] (dVar 1)))) (dRet (dBin fIx (fz (dLst (dCons (dBin fAdd (dOr (dVar 1) (dLit (.int 0))) (dLit (.int 1))) (dCons (dBin fSub (dOr (dVar 1) (dLit (.int 0))) (dLit (.int 1))) (dCons (dLit (.int 0)) (dCons (dLit .none) (dCons (dOfT (dCmp (fEq) (dVar 1) (dLit (.int 1)))) (dCons (dCall fStr (dCons (dVar 1) dNil)) (dCons (dBin fMul (dLit (.int 2)) (dOr (dVar 1) (dLit (.int 1)))) dNil))))))))) (dCallIo "_law_next" (dCons (dVar 0) (dCons (dLit (.int 7)) dNil))))) dSkip)
    (dSeq (dIfS (dTru (dIsi [.str] (dVar 1))) (dSeq (dSet 2 (fz (dLst (dCons (dSl (dVar 1) (dPart (dLit (.int 1))) dNoP) (dCons (dBin fAdd (dVar 1) (dLit (.str "a"))) (dCons (dRev (dVar 1)) (dCons (dBin fAdd (dLit (.str "b")) (dVar 1)) (dCons (dLit (.str "")) (dCons (dSl (dVar 1) dNoP (dPart (dNeg (dLit (.int 1))))) (dCons (dLit (.str "left")) (dCons (dLit (.int 3)) (dCons (dLit (.str "in")) dNil))))))))))))
    (dRet (dBin fIx (dVar 2) (dCallIo "_law_next" (dCons (dVar 0) (dCons (dCall fLen (dCons (dVar 2) dNil)) dNil)))))) dSkip)
    (dSeq (dIfS (dAndT (dTru (dIsi [.tuple] (dVar 1))) (dAndT (dCmp (fNe) (dVar 1) (dTup dNil)) (dCmp (fCmpI fun i j => decide (j < i)) (dCallIo "_law_next" (dCons (dVar 0) (dCons (dLit (.int 4)) dNil))) (dLit (.int 0))))) (dSeq (dSet 3 (dCallIo "_law_next" (dCons (dVar 0) (dCons (dCall fLen (dCons (dVar 1) dNil)) dNil))))
    (dRet (dBin fAdd (dBin fAdd (dSl (dVar 1) dNoP (dPart (dVar 3))) (dTup (dCons (dCallIo "_law_changed" (dCons (dVar 0) (dCons (dBin fIx (dVar 1) (dVar 3)) dNil))) dNil))) (dSl (dVar 1) (dPart (dBin fAdd (dVar 3) (dLit (.int 1)))) dNoP)))) dSkip)
    (dSeq (dIfS (dNotT (dTru (dIsi [.tuple] (dVar 1)))) (dRet (dTup dNil)) dSkip)
    (dSeq (dSet 3 (dCallIo "_law_next" (dCons (dVar 0) (dCons (dBin fAdd (dCall fLen (dCons (dVar 1) dNil)) (dLit (.int 1))) dNil))))
    (dSeq (dSet 4 (dCallIo "_law_next" (dCons (dVar 0) (dCons (dBin fAdd (dCall fLen (dCons (dVar 1) dNil)) (dLit (.int 1))) dNil))))
    (dSeq (dSet 5 (fz (dLst (dCons (dBin fAdd (dSl (dVar 1) dNoP (dPart (dVar 3))) (dSl (dVar 1) (dPart (dBin fAdd (dVar 3) (dLit (.int 1)))) dNoP)) (dCons (dBin fAdd (dVar 1) (dSl (dVar 1) dNoP (dPart (dLit (.int 1))))) (dCons (dRev (dVar 1)) (dCons (dBin fAdd (dSl (dVar 1) (dPart (dVar 3)) dNoP) (dSl (dVar 1) dNoP (dPart (dVar 3)))) (dCons (fz (dListOf (dVar 1))) (dCons (dSl (dVar 1) dNoP (dPart (dVar 3))) (dCons (dTup dNil) (dCons (dBin fAdd (dVar 1) (dTup (dCons (dLit (.int 0)) dNil))) dNil)))))))))))
    (dSeq (dIfS (dChain (fCmpI fun i j => decide (i < j)) (fCmpI fun i j => decide (i < j)) (dVar 3) (dVar 4) (dCall fLen (dCons (dVar 1) dNil))) (dSet 5 (dBin fAdd (dVar 5) (fz (dLc (dRange1 (dCons (dLit (.int 3)) dNil)) [6] (gSlot 6) dYes (dBin fAdd (dBin fAdd (dBin fAdd (dBin fAdd (dSl (dVar 1) dNoP (dPart (dVar 3))) (dSl (dVar 1) (dPart (dVar 4)) (dPart (dBin fAdd (dVar 4) (dLit (.int 1)))))) (dSl (dVar 1) (dPart (dBin fAdd (dVar 3) (dLit (.int 1)))) (dPart (dVar 4)))) (dSl (dVar 1) (dPart (dVar 3)) (dPart (dBin fAdd (dVar 3) (dLit (.int 1)))))) (dSl (dVar 1) (dPart (dBin fAdd (dVar 4) (dLit (.int 1)))) dNoP)))))) dSkip)
    (dRet (dBin fIx (dVar 5) (dCallIo "_law_next" (dCons (dVar 0) (dCons (dCall fLen (dCons (dVar 5) dNil)) dNil))))))))))))))
def g__law_ints : Sx :=
    (dSeq (dIfS (dOrT (dTru (dIsi [.bool] (dVar 0))) (dNotT (dTru (dIsi [.int, .tuple] (dVar 0))))) (dRet (fz (dLst dNil))) dSkip)
    (dSeq (dIfS (dTru (dIsi [.int] (dVar 0))) (dRet (fz (dLst (dCons (dVar 0) dNil)))) dSkip)
    (dSeq (dSet 1 (fz (dLst dNil)))
    (dSeq (dFor (dSrc (dVar 0)) (gSlot 2) (dSet 1 (dBin fAdd (dVar 1) (fz (dLc (dSrc (dCallF "_law_ints" (dCons (dVar 2) dNil))) [3] (gSlot 3) (dCmp (fIn true) (dVar 3) (dVar 1)) (dVar 3))))))
    (dRet (dVar 1))))))
def g__law_exchanged : Sx :=
    (dSeq (dIfS (dOrT (dTru (dIsi [.bool] (dVar 0))) (dNotT (dTru (dIsi [.int, .tuple] (dVar 0))))) (dRet (dVar 0)) dSkip)
    (dSeq (dIfS (dTru (dIsi [.int] (dVar 0))) (dRet (dIf (dCmp (fEq) (dVar 0) (dVar 1)) (dVar 2) (dIf (dCmp (fEq) (dVar 0) (dVar 2)) (dVar 1) (dVar 0)))) dSkip)
    (dRet (dCall fTuple (dCons (fz (dLc (dSrc (dVar 0)) [3] (gSlot 3) dYes (dCallF "_law_exchanged" (dCons (dVar 3) (dCons (dVar 1) (dCons (dVar 2) dNil)))))) dNil)))))
def g__law_cut : Sx :=
    (dSeq (dIfS (dOrT (dNotT (dTru (dIsi [.tuple] (dVar 1)))) (dCmp (fEq) (dVar 1) (dTup dNil))) (dRet (dVar 1)) dSkip)
    (dSeq (dIfS (dCmp (fNe) (fz (dLc (dSrc (dVar 1)) [2] (gSlot 2) (dNotT (dTru (dIsi [.str] (dVar 2)))) (dVar 2))) (fz (dLst dNil))) (dSeq (dSet 3 (dCallIo "_law_next" (dCons (dVar 0) (dCons (dCall fLen (dCons (dVar 1) dNil)) dNil))))
    (dRet (dBin fAdd (dBin fAdd (dSl (dVar 1) dNoP (dPart (dVar 3))) (dTup (dCons (dCallIo "_law_cut" (dCons (dVar 0) (dCons (dBin fIx (dVar 1) (dVar 3)) dNil))) dNil))) (dSl (dVar 1) (dPart (dBin fAdd (dVar 3) (dLit (.int 1)))) dNoP)))) dSkip)
    (dSeq (dSet 3 (dCallIo "_law_next" (dCons (dVar 0) (dCons (dCall fLen (dCons (dVar 1) dNil)) dNil))))
    (dSeq (dSet 4 (dCallIo "_law_next" (dCons (dVar 0) (dCons (dBin fAdd (dCall fLen (dCons (dBin fIx (dVar 1) (dVar 3)) dNil)) (dLit (.int 1))) dNil))))
    (dSeq (dSet 5 (fz (dLst (dCons (dBin fAdd (dBin fAdd (dSl (dVar 1) dNoP (dPart (dVar 3))) (dTup (dCons (dSl (dBin fIx (dVar 1) (dVar 3)) dNoP (dPart (dVar 4))) (dCons (dSl (dBin fIx (dVar 1) (dVar 3)) (dPart (dVar 4)) dNoP) dNil)))) (dSl (dVar 1) (dPart (dBin fAdd (dVar 3) (dLit (.int 1)))) dNoP)) (dCons (dBin fAdd (dBin fAdd (dSl (dVar 1) dNoP (dPart (dVar 3))) (dTup (dCons (fun _ _ => .bad) dNil))) (dSl (dVar 1) (dPart (dBin fAdd (dVar 3) (dLit (.int 2)))) dNoP)) dNil)))))
    (dSeq (dSet 5 (dBin fAdd (dVar 5) (fz (dLst (dCons (dTup (dCons (fun _ _ => .bad) dNil)) (dCons (dCall fTuple (dCons (fun _ _ => .bad) dNil)) (dCons (dBin fAdd (dBin fAdd (dSl (dVar 1) dNoP (dPart (dVar 3))) (dTup (dCons (dLit (.str "")) dNil))) (dSl (dVar 1) (dPart (dVar 3)) dNoP)) (dCons (dBin fAdd (dBin fAdd (dSl (dVar 1) dNoP (dPart (dVar 3))) (dRev (dSl (dVar 1) (dPart (dVar 3)) (dPart (dBin fAdd (dVar 3) (dLit (.int 2))))))) (dSl (dVar 1) (dPart (dBin fAdd (dVar 3) (dLit (.int 2)))) dNoP)) dNil))))))))
    (dRet (dBin fIx (dVar 5) (dCallIo "_law_next" (dCons (dVar 0) (dCons (dCall fLen (dCons (dVar 5) dNil)) dNil)))))))))))
def g__law_turned_about : Sx :=
    (dSeq (dSet 2 (dCallF "_law_ints" (dCons (dVar 1) dNil)))
    (dSeq (dSet 3 (dCallIo "_law_next" (dCons (dVar 0) (dCons (dLit (.int 5)) dNil))))
    (dSeq (dIfS (dAndT (dCmp (fCmpI fun i j => decide (i < j)) (dVar 3) (dLit (.int 3))) (dCmp (fNe) (dVar 2) (fz (dLst dNil)))) (dSeq (dSet 4 (dBin fIx (dVar 2) (dCallIo "_law_next" (dCons (dVar 0) (dCons (dCall fLen (dCons (dVar 2) dNil)) dNil)))))
    (dSeq (dSet 5 (dIf (dCmp (fEq) (dVar 3) (dLit (.int 0))) (dBin fAdd (dVar 4) (dLit (.int 1))) (dBin fIx (dVar 2) (dCallIo "_law_next" (dCons (dVar 0) (dCons (dCall fLen (dCons (dVar 2) dNil)) dNil))))))
    (dRet (dCallF "_law_exchanged" (dCons (dVar 1) (dCons (dVar 4) (dCons (dVar 5) dNil))))))) dSkip)
    (dSeq (dIfS (dCmp (fEq) (dVar 3) (dLit (.int 3))) (dRet (dBin fAdd (dSl (dVar 1) dNoP (dPart (dLit (.int 1)))) (dIf (dCmp (fCmpI fun i j => decide (j < i)) (dCall fLen (dCons (dVar 1) dNil)) (dLit (.int 2))) (dCallIo "_law_cut" (dCons (dVar 0) (dCons (dSl (dVar 1) (dPart (dLit (.int 1))) dNoP) dNil))) (dCall fTuple (dCons (fz (dLc (dSrc (dSl (dVar 1) (dPart (dLit (.int 1))) dNoP)) [6] (gSlot 6) dYes (dCallIo "_law_cut" (dCons (dVar 0) (dCons (dVar 6) dNil))))) dNil))))) dSkip)
    (dSeq (dPar2 7 8 (dCons (dCallIo "_law_next" (dCons (dVar 0) (dCons (dCall fLen (dCons (dVar 1) dNil)) dNil))) (dCons (dCallIo "_law_next" (dCons (dVar 0) (dCons (dCall fLen (dCons (dVar 1) dNil)) dNil))) dNil)))
    (dSeq (dIfS (dAndT (dCmp (fEq) (dCall fLen (dCons (dVar 1) dNil)) (dLit (.int 2))) (dAndT (dTru (dIsi [.tuple] (dBin fIx (dVar 1) (dLit (.int 1))))) (dCmp (fNe) (dBin fIx (dVar 1) (dLit (.int 1))) (dTup dNil)))) (dSeq (dPar2 7 8 (dCons (dCallIo "_law_next" (dCons (dVar 0) (dCons (dCall fLen (dCons (dBin fIx (dVar 1) (dLit (.int 1))) dNil)) dNil))) (dCons (dCallIo "_law_next" (dCons (dVar 0) (dCons (dCall fLen (dCons (dBin fIx (dVar 1) (dLit (.int 1))) dNil)) dNil))) dNil)))
    (dRet (dTup (dCons (dBin fIx (dVar 1) (dLit (.int 0))) (dCons (dBin fAdd (dBin fAdd (dSl (dBin fIx (dVar 1) (dLit (.int 1))) dNoP (dPart (dVar 7))) (dSl (dBin fIx (dVar 1) (dLit (.int 1))) (dPart (dVar 8)) (dPart (dBin fAdd (dVar 8) (dLit (.int 1)))))) (dSl (dBin fIx (dVar 1) (dLit (.int 1))) (dPart (dBin fAdd (dVar 7) (dLit (.int 1)))) dNoP)) dNil))))) dSkip)
    (dRet (dIf (dAndT (dCmp (fCmpI fun i j => decide (j < i)) (dVar 7) (dLit (.int 0))) (dCmp (fCmpI fun i j => decide (j < i)) (dVar 8) (dLit (.int 0)))) (dBin fAdd (dBin fAdd (dSl (dVar 1) dNoP (dPart (dVar 7))) (dSl (dVar 1) (dPart (dVar 8)) (dPart (dBin fAdd (dVar 8) (dLit (.int 1)))))) (dSl (dVar 1) (dPart (dBin fAdd (dVar 7) (dLit (.int 1)))) dNoP)) (dVar 1)))))))))
def g__law_odd : Sx :=
    (dSeq (dSet 2 (fz (dLst (dCons (dLit .none) (dCons (dLit (.str "")) (dCons (dLit (.str "yes")) (dCons dEmptyD (dCons (dTup dNil) (dCons (dSl (dVar 1) dNoP (dPart (dLit (.int 1)))) (dCons (fz (dListOf (dVar 1))) (dCons (dBin fAdd (dVar 1) (dTup (dCons (dLit (.int 0)) dNil))) (dCons (dBin fAdd (dTup (dCons (fz (dLst (dCons (dBin fIx (dVar 1) (dLit (.int 0))) dNil))) dNil)) (dSl (dVar 1) (dPart (dLit (.int 1))) dNoP)) (dCons (dBin fAdd (dTup (dCons (dLit (.str "none such")) dNil)) (dSl (dVar 1) (dPart (dLit (.int 1))) dNoP)) (dCons (dLit (.int 7)) dNil))))))))))))))
    (dSeq (dSet 3 (dCallIo "_law_next" (dCons (dVar 0) (dCons (dLit (.int 9)) dNil))))
    (dSeq (dIfS (dCmp (fCmpI fun i j => decide (j < i)) (dVar 3) (dLit (.int 4))) (dRet (dCallIo "_law_turned_about" (dCons (dVar 0) (dCons (dVar 1) dNil)))) dSkip)
    (dRet (dIf (dCmp (fEq) (dVar 3) (dLit (.int 0))) (dBin fIx (dVar 2) (dCallIo "_law_next" (dCons (dVar 0) (dCons (dCall fLen (dCons (dVar 2) dNil)) dNil)))) (dCallIo "_law_changed" (dCons (dVar 0) (dCons (dVar 1) dNil))))))))
def g__law_mixed : Sx :=
    (dSeq (dSetO 2 (dListOf (dVar 1)))
    (dRet (dCall fTuple (dCons (fz (dLc (dRange1 (dCons (dCall fLen (dCons (dVar 1) dNil)) dNil)) [3] (gSlot 3) dYes (dMeth 2 fPopAt (dCons (dCallIo "_law_next" (dCons (dVar 0) (dCons (dCall fLen (dCons (dVar 2) dNil)) dNil))) dNil)))) dNil))))
def g__law_cards : Sx :=
    (dRet (dSl (dCallIo "_law_mixed" (dCons (dVar 0) (dCons (dTupRg1 (dVar 3)) dNil))) dNoP (dPart (dBin fAdd (dVar 1) (dCallIo "_law_next" (dCons (dVar 0) (dCons (dBin fAdd (dBin fSub (dVar 2) (dVar 1)) (dLit (.int 1))) dNil)))))))
def g__law_neighbour : Sx :=
    (dSeq (dSet 2 (dBin fIx (fz (dLst (dCons (dLit (.int 1)) (dCons (dNeg (dLit (.int 1))) dNil)))) (dCallIo "_law_next" (dCons (dVar 0) (dCons (dLit (.int 2)) dNil)))))
    (dSeq (dIfS (dTru (dIsi [.str] (dVar 1))) (dRet (dVar 1)) dSkip)
    (dSeq (dIfS (dTru (dIsi [.int] (dVar 1))) (dRet (dBin fAdd (dVar 1) (dVar 2))) dSkip)
    (dSeq (dIfS (dCmp (fEq) (dVar 1) (dTup dNil)) (dRet (dVar 1)) dSkip)
    (dSeq (dIfS (dTru (dIsi [.str] (dBin fIx (dVar 1) (dLit (.int 0))))) (dRet (dTup (dCons (dBin fIx (dVar 1) (dLit (.int 0))) (dCons (dBin fAdd (dBin fIx (dVar 1) (dLit (.int 1))) (dVar 2)) dNil)))) dSkip)
    (dSeq (dSet 3 (dCallIo "_law_next" (dCons (dVar 0) (dCons (dCall fLen (dCons (dVar 1) dNil)) dNil))))
    (dSeq (dIfS (dAndT (dCmp (fEq) (dCallIo "_law_next" (dCons (dVar 0) (dCons (dLit (.int 3)) dNil))) (dLit (.int 0))) (dCmp (fCmpI fun i j => decide (j < i)) (dCall fLen (dCons (dVar 1) dNil)) (dLit (.int 1)))) (dRet (dBin fAdd (dSl (dVar 1) dNoP (dPart (dVar 3))) (dSl (dVar 1) (dPart (dBin fAdd (dVar 3) (dLit (.int 1)))) dNoP))) dSkip)
    (dRet (dBin fAdd (dBin fAdd (dSl (dVar 1) dNoP (dPart (dVar 3))) (dTup (dCons (dCallIo "_law_neighbour" (dCons (dVar 0) (dCons (dBin fIx (dVar 1) (dVar 3)) dNil))) dNil))) (dSl (dVar 1) (dPart (dBin fAdd (dVar 3) (dLit (.int 1)))) dNoP))))))))))
def g__law_next_place : Sx :=
    (dSeq (dSet 3 (dBin fDiv (dVar 0) (dLit (.int 2))))
    (dRet (dIf (dCmp (fCmpI fun i j => decide (i < j)) (dVar 1) (dVar 3)) (dBin fAdd (dBin fMul (dLit (.int 2)) (dVar 1)) (dVar 2)) (dBin fSub (dBin fAdd (dBin fMul (dLit (.int 2)) (dBin fSub (dVar 1) (dVar 3))) (dLit (.int 1))) (dVar 2)))))
def g__law_accepts : Sx :=
    (dSeq (dPar2 3 4 (dCons (fz (dLst (dCons (dLit (.int 0)) dNil))) (dCons (dLit (.int 0)) dNil)))
    (dSeq (dWhile (dCmp (fIn true) (dVar 1) (dVar 3)) (dPar2 3 4 (dCons (fz (dUpSet (fz (dLc (dSrc (dBin fAdd (fz (dLc (dSrc (dVar 3)) [7] (gSlot 7) dYes (dTup (dCons (dVar 7) (dCons (dLit (.int 0)) dNil))))) (fz (dLc (dSrc (dVar 3)) [7] (gSlot 7) dYes (dTup (dCons (dVar 7) (dCons (dLit (.int 1)) dNil))))))) [5, 6] (gTupD [5, 6]) dYes (dCallF "_law_next_place" (dCons (dVar 0) (dCons (dVar 5) (dCons (dVar 6) dNil)))))))) (dCons (dBin fAdd (dVar 4) (dLit (.int 1))) dNil))))
    (dSeq (dIfS (dOrT (dNotT (dTru (dCallF "_law_is" (dCons (dVar 2) (dCons (dLit (.str "kinds")) (dCons (dLit (.int 2)) dNil)))))) (dOrT (dNotT (dTru (dCallF "_law_are_places" (dCons (dBin fIx (dVar 2) (dLit (.int 1))) (dCons (dLit (.int 2)) dNil))))) (dCmp (fNe) (dCall fLen (dCons (dBin fIx (dVar 2) (dLit (.int 1))) dNil)) (dVar 4)))) (dRet (dLit (.bool false))) dSkip)
    (dSeq (dSet 5 (dLit (.int 0)))
    (dSeq (dFor (dSrc (dBin fIx (dVar 2) (dLit (.int 1)))) (gSlot 6) (dSet 5 (dCallF "_law_next_place" (dCons (dVar 0) (dCons (dVar 5) (dCons (dVar 6) dNil))))))
    (dRet (dOfT (dCmp (fEq) (dVar 5) (dVar 1)))))))))
def g__law_told_near : Sx :=
    (dSeq (dSetO 3 (dLst (dCons (dVar 1) (dCons (dVar 2) dNil))))
    (dSeq (dSet 4 (dCallIo "_law_next" (dCons (dVar 0) (dCons (dLit (.int 2)) dNil))))
    (dSeq (dSetIx 3 (dVar 4) (dCallIo "_law_neighbour" (dCons (dVar 0) (dCons (dBin fIx (dVar 3) (dVar 4)) dNil))))
    (dTry known isub (dRet (dCallF "to_place" (dCons (dBin fIx (dVar 3) (dLit (.int 0))) (dCons (dBin fIx (dVar 3) (dLit (.int 1))) dNil)))) [("UnfitCard", 5, .empty), ("TooWide", 5, .empty)]))))
def g__law_unfit : Sx :=
    (dSeq (dFor (dSrc (fz (dLst (dCons (dLit (.bool false)) (dCons (dLit (.bool true)) dNil))))) (gSlot 2) (dTry known isub (dSeq (dIfS (dTru (dVar 2)) (dDrop (dCallF "judge_to_place" (dCons (dVar 0) (dCons (dVar 1) (dCons (dLit .none) dNil))))) (dDrop (dCallF "to_place" (dCons (dVar 0) (dCons (dVar 1) dNil)))))
    (dRet (dLit (.bool false)))) [("UnfitCard", 3, .pass)]))
    (dRet (dLit (.bool true))))
def g__law_accepts_too : Sx :=
    (dSeq (dSet 4 (dBin fDiv (dCall fLen (dCons (dVar 0) dNil)) (dVar 1)))
    (dSeq (dSetO 5 (dLst dNil))
    (dSeq (dFor (dRange1 (dCons (dVar 1) dNil)) (gSlot 6) (dDrop (dMeth 5 fAppend (dCons (dCall fTuple (dCons (fz (dLc (dRange1 (dCons (dBin fMul (dVar 4) (dVar 1)) dNil)) [7] (gSlot 7) (dCmp (fEq) (dIf (dCmp (fEq) (dVar 2) (dLit (.int 0))) (dBin fMod (dVar 7) (dVar 1)) (dBin fDiv (dVar 7) (dVar 4))) (dVar 6)) (dBin fIx (dVar 0) (dVar 7)))) dNil)) dNil))))
    (dRet (dCallF "_law_same" (dCons (dVar 3) (dCons (dTup (dCons (dLit (.str "hands")) (dCons (dCall fTuple (dCons (dVar 5) dNil)) (dCons (dSl (dVar 0) (dPart (dBin fMul (dVar 4) (dVar 1))) dNoP) dNil)))) dNil)))))))
def g__law_told_near_too : Sx :=
    (dSeq (dSetO 4 (dLst (dCons (dVar 1) (dCons (dVar 2) (dCons (dVar 3) dNil)))))
    (dSeq (dSet 5 (dCallIo "_law_next" (dCons (dVar 0) (dCons (dLit (.int 3)) dNil))))
    (dSeq (dSetIx 4 (dVar 5) (dCallIo "_law_neighbour" (dCons (dVar 0) (dCons (dBin fIx (dVar 4) (dVar 5)) dNil))))
    (dTry known isub (dRet (dCallF "dealt" (dCons (dBin fIx (dVar 4) (dLit (.int 0))) (dCons (dBin fIx (dVar 4) (dLit (.int 1))) (dCons (dBin fIx (dVar 4) (dLit (.int 2))) dNil))))) [("UnfitCard", 6, .empty), ("TooWide", 6, .empty)]))))
def g__law_unfit_too : Sx :=
    (dSeq (dFor (dSrc (fz (dLst (dCons (dLit (.bool false)) (dCons (dLit (.bool true)) dNil))))) (gSlot 3) (dTry known isub (dSeq (dIfS (dTru (dVar 3)) (dDrop (dCallF "judge_dealt" (dCons (dVar 0) (dCons (dVar 1) (dCons (dVar 2) (dCons (dLit .none) dNil)))))) (dDrop (dCallF "dealt" (dCons (dVar 0) (dCons (dVar 1) (dCons (dVar 2) dNil))))))
    (dRet (dLit (.bool false)))) [("UnfitCard", 4, .pass)]))
    (dRet (dLit (.bool true))))
def a_law_1 : Sx :=
    (dFor (dRange1 (dCons (dBin fAdd (dLit (.int 8)) (dCall fLen (dCons (dVar 2) dNil))) dNil)) (gSlot 9) (dSeq (dSet 10 (dIf (dCmp (fCmpI fun i j => decide (i < j)) (dVar 9) (dLit (.int 8))) (dCallIo "_law_odd" (dCons (dVar 1) (dCons (dVar 7) dNil))) (dBin fIx (dVar 2) (dBin fSub (dVar 9) (dLit (.int 8))))))
    (dIfS (dNotT (dTru (dCallF "_law_same" (dCons (dCallF "judge_to_place" (dCons (dVar 5) (dCons (dVar 6) (dCons (dVar 10) dNil)))) (dCons (dCallF "_law_accepts" (dCons (dVar 5) (dCons (dVar 6) (dCons (dVar 10) dNil)))) dNil))))) (dRet (dLit (.bool false))) dSkip)))
def a_law_2 : Sx :=
    (dFor (dRange1 (dCons (dBin fAdd (dLit (.int 8)) (dCall fLen (dCons (dVar 3) dNil))) dNil)) (gSlot 9) (dSeq (dSet 10 (dIf (dCmp (fCmpI fun i j => decide (i < j)) (dVar 9) (dLit (.int 8))) (dCallIo "_law_odd" (dCons (dVar 1) (dCons (dVar 7) dNil))) (dBin fIx (dVar 3) (dBin fSub (dVar 9) (dLit (.int 8))))))
    (dIfS (dNotT (dTru (dCallF "_law_same" (dCons (dCallF "judge_dealt" (dCons (dVar 11) (dCons (dVar 12) (dCons (dVar 13) (dCons (dVar 10) dNil))))) (dCons (dCallF "_law_accepts_too" (dCons (dVar 11) (dCons (dVar 12) (dCons (dVar 13) (dCons (dVar 10) dNil))))) dNil))))) (dRet (dLit (.bool false))) dSkip)))
def g_law : Sx :=
    (dSeq (dSetO 1 (dLst (dCons (fz (dListOf (dVar 0))) (dCons (dLit (.int 0)) (dCons (dLit (.int 0)) (dCons (dLit (.int 1)) dNil))))))
    (dSeq (dSet 2 (fz (dLst dNil)))
    (dSeq (dSet 3 (fz (dLst dNil)))
    (dSeq (dFor (dRange1 (dCons (dLit (.int 3)) dNil)) (gSlot 4) (dSeq (dSet 5 (dBin fAdd (dLit (.int 2)) (dBin fMul (dLit (.int 2)) (dCallIo "_law_next" (dCons (dVar 1) (dCons (dLit (.int 12)) dNil))))))
    (dSeq (dSet 6 (dCallIo "_law_next" (dCons (dVar 1) (dCons (dVar 5) dNil))))
    (dSeq (dSet 7 (dCallF "to_place" (dCons (dVar 5) (dCons (dVar 6) dNil))))
    (dSeq (dSet 8 (dCallIo "_law_told_near" (dCons (dVar 1) (dCons (dVar 5) (dCons (dVar 6) dNil)))))
    (dSeq (dIfS (dOrT (dNotT (dTru (dCallF "_law_accepts" (dCons (dVar 5) (dCons (dVar 6) (dCons (dVar 7) dNil)))))) (dCmp (fIsB true) (dCallF "judge_to_place" (dCons (dVar 5) (dCons (dVar 6) (dCons (dVar 7) dNil)))) (dLit (.bool true)))) (dRet (dLit (.bool false))) dSkip)
    (dSeq (dIfS (dOrT (dNotT (dTru (dCallF "_law_unfit" (dCons (dLit (.int 1)) (dCons (dLit (.int 0)) dNil))))) (dOrT (dNotT (dTru (dCallF "_law_unfit" (dCons (dLit (.int 0)) (dCons (dLit (.int 0)) dNil))))) (dOrT (dNotT (dTru (dCallF "_law_unfit" (dCons (dVar 5) (dCons (dVar 5) dNil))))) (dNotT (dTru (dCallF "_law_unfit" (dCons (dVar 5) (dCons (dNeg (dLit (.int 1))) dNil)))))))) (dRet (dLit (.bool false))) dSkip)
    (dSeq (dSet 2 (dBin fAdd (dSl (dVar 2) (dPart (dNeg (dLit (.int 3)))) dNoP) (fz (dLst (dCons (dVar 7) (dCons (dVar 8) dNil))))))
    (dSeq a_law_1
    (dSeq (dSet 11 (dCallIo "_law_cards" (dCons (dVar 1) (dCons (dLit (.int 0)) (dCons (dLit (.int 10)) (dCons (dLit (.int 20)) dNil))))))
    (dSeq (dPar2 12 13 (dCons (dBin fAdd (dLit (.int 1)) (dCallIo "_law_next" (dCons (dVar 1) (dCons (dLit (.int 4)) dNil)))) (dCons (dCallIo "_law_next" (dCons (dVar 1) (dCons (dLit (.int 2)) dNil))) dNil)))
    (dSeq (dSet 7 (dCallF "dealt" (dCons (dVar 11) (dCons (dVar 12) (dCons (dVar 13) dNil)))))
    (dSeq (dSet 8 (dCallIo "_law_told_near_too" (dCons (dVar 1) (dCons (dVar 11) (dCons (dVar 12) (dCons (dVar 13) dNil))))))
    (dSeq (dIfS (dOrT (dNotT (dTru (dCallF "_law_accepts_too" (dCons (dVar 11) (dCons (dVar 12) (dCons (dVar 13) (dCons (dVar 7) dNil))))))) (dCmp (fIsB true) (dCallF "judge_dealt" (dCons (dVar 11) (dCons (dVar 12) (dCons (dVar 13) (dCons (dVar 7) dNil))))) (dLit (.bool true)))) (dRet (dLit (.bool false))) dSkip)
    (dSeq (dIfS (dOrT (dNotT (dTru (dCallF "_law_unfit_too" (dCons (dVar 11) (dCons (dLit (.int 0)) (dCons (dVar 13) dNil)))))) (dOrT (dNotT (dTru (dCallF "_law_unfit_too" (dCons (dVar 11) (dCons (dVar 12) (dCons (dLit (.int 2)) dNil)))))) (dNotT (dTru (dCallF "_law_unfit_too" (dCons (dTup (dCons (dLit (.int 1)) (dCons (dLit (.int 1)) dNil))) (dCons (dVar 12) (dCons (dVar 13) dNil)))))))) (dRet (dLit (.bool false))) dSkip)
    (dSeq (dSet 3 (dBin fAdd (dSl (dVar 3) (dPart (dNeg (dLit (.int 3)))) dNoP) (fz (dLst (dCons (dVar 7) (dCons (dVar 8) dNil))))))
    a_law_2))))))))))))))))
    (dRet (dLit (.bool true)))))))
theorem nd_MOST_CARDS : (("MOST_CARDS" : Str) == ("__debug__" : Str)) = false := by decide +kernel
theorem nd_TooWide : (("TooWide" : Str) == ("__debug__" : Str)) = false := by decide +kernel
theorem nd_UnfitCard : (("UnfitCard" : Str) == ("__debug__" : Str)) = false := by decide +kernel
theorem nd__law_accepts : (("_law_accepts" : Str) == ("__debug__" : Str)) = false := by decide +kernel
theorem nd__law_accepts_too : (("_law_accepts_too" : Str) == ("__debug__" : Str)) = false := by decide +kernel
theorem nd__law_are_places : (("_law_are_places" : Str) == ("__debug__" : Str)) = false := by decide +kernel
theorem nd__law_cards : (("_law_cards" : Str) == ("__debug__" : Str)) = false := by decide +kernel
theorem nd__law_changed : (("_law_changed" : Str) == ("__debug__" : Str)) = false := by decide +kernel
theorem nd__law_cut : (("_law_cut" : Str) == ("__debug__" : Str)) = false := by decide +kernel
theorem nd__law_exchanged : (("_law_exchanged" : Str) == ("__debug__" : Str)) = false := by decide +kernel
theorem nd__law_ints : (("_law_ints" : Str) == ("__debug__" : Str)) = false := by decide +kernel
theorem nd__law_is : (("_law_is" : Str) == ("__debug__" : Str)) = false := by decide +kernel
theorem nd__law_is_place : (("_law_is_place" : Str) == ("__debug__" : Str)) = false := by decide +kernel
theorem nd__law_is_whole : (("_law_is_whole" : Str) == ("__debug__" : Str)) = false := by decide +kernel
theorem nd__law_mixed : (("_law_mixed" : Str) == ("__debug__" : Str)) = false := by decide +kernel
theorem nd__law_neighbour : (("_law_neighbour" : Str) == ("__debug__" : Str)) = false := by decide +kernel
theorem nd__law_next : (("_law_next" : Str) == ("__debug__" : Str)) = false := by decide +kernel
theorem nd__law_next_place : (("_law_next_place" : Str) == ("__debug__" : Str)) = false := by decide +kernel
theorem nd__law_odd : (("_law_odd" : Str) == ("__debug__" : Str)) = false := by decide +kernel
theorem nd__law_same : (("_law_same" : Str) == ("__debug__" : Str)) = false := by decide +kernel
theorem nd__law_told_near : (("_law_told_near" : Str) == ("__debug__" : Str)) = false := by decide +kernel
theorem nd__law_told_near_too : (("_law_told_near_too" : Str) == ("__debug__" : Str)) = false := by decide +kernel
theorem nd__law_turned_about : (("_law_turned_about" : Str) == ("__debug__" : Str)) = false := by decide +kernel
theorem nd__law_unfit : (("_law_unfit" : Str) == ("__debug__" : Str)) = false := by decide +kernel
theorem nd__law_unfit_too : (("_law_unfit_too" : Str) == ("__debug__" : Str)) = false := by decide +kernel
theorem nd_actual : (("actual" : Str) == ("__debug__" : Str)) = false := by decide +kernel
theorem nc_actual : (("actual" : Str) == ("__classdict__" : Str)) = false := by decide +kernel
theorem nd_are_wholes : (("are_wholes" : Str) == ("__debug__" : Str)) = false := by decide +kernel
theorem nd_asked : (("asked" : Str) == ("__debug__" : Str)) = false := by decide +kernel
theorem nc_asked : (("asked" : Str) == ("__classdict__" : Str)) = false := by decide +kernel
theorem nd_at : (("at" : Str) == ("__debug__" : Str)) = false := by decide +kernel
theorem nc_at : (("at" : Str) == ("__classdict__" : Str)) = false := by decide +kernel
theorem nd_bool : (("bool" : Str) == ("__debug__" : Str)) = false := by decide +kernel
theorem nn_bool : ("bool" : Str) ≠ "__name__" := by decide +kernel
theorem nd_cell : (("cell" : Str) == ("__debug__" : Str)) = false := by decide +kernel
theorem nc_cell : (("cell" : Str) == ("__classdict__" : Str)) = false := by decide +kernel
theorem nd_check_pack : (("check_pack" : Str) == ("__debug__" : Str)) = false := by decide +kernel
theorem nd_count : (("count" : Str) == ("__debug__" : Str)) = false := by decide +kernel
theorem nc_count : (("count" : Str) == ("__classdict__" : Str)) = false := by decide +kernel
theorem nd_dealt : (("dealt" : Str) == ("__debug__" : Str)) = false := by decide +kernel
theorem nd_due : (("due" : Str) == ("__debug__" : Str)) = false := by decide +kernel
theorem nc_due : (("due" : Str) == ("__classdict__" : Str)) = false := by decide +kernel
theorem nd_error : (("error" : Str) == ("__debug__" : Str)) = false := by decide +kernel
theorem nc_error : (("error" : Str) == ("__classdict__" : Str)) = false := by decide +kernel
theorem nd_expected : (("expected" : Str) == ("__debug__" : Str)) = false := by decide +kernel
theorem nc_expected : (("expected" : Str) == ("__classdict__" : Str)) = false := by decide +kernel
theorem nd_found : (("found" : Str) == ("__debug__" : Str)) = false := by decide +kernel
theorem nc_found : (("found" : Str) == ("__classdict__" : Str)) = false := by decide +kernel
theorem nd_goal : (("goal" : Str) == ("__debug__" : Str)) = false := by decide +kernel
theorem nc_goal : (("goal" : Str) == ("__classdict__" : Str)) = false := by decide +kernel
theorem nd_half : (("half" : Str) == ("__debug__" : Str)) = false := by decide +kernel
theorem nc_half : (("half" : Str) == ("__classdict__" : Str)) = false := by decide +kernel
theorem nd_hands : (("hands" : Str) == ("__debug__" : Str)) = false := by decide +kernel
theorem nc_hands : (("hands" : Str) == ("__classdict__" : Str)) = false := by decide +kernel
theorem nd_high : (("high" : Str) == ("__debug__" : Str)) = false := by decide +kernel
theorem nc_high : (("high" : Str) == ("__classdict__" : Str)) = false := by decide +kernel
theorem nd_int : (("int" : Str) == ("__debug__" : Str)) = false := by decide +kernel
theorem nn_int : ("int" : Str) ≠ "__name__" := by decide +kernel
theorem nd_is_told : (("is_told" : Str) == ("__debug__" : Str)) = false := by decide +kernel
theorem nd_is_whole : (("is_whole" : Str) == ("__debug__" : Str)) = false := by decide +kernel
theorem nd_j : (("j" : Str) == ("__debug__" : Str)) = false := by decide +kernel
theorem nc_j : (("j" : Str) == ("__classdict__" : Str)) = false := by decide +kernel
theorem nd_judge_dealt : (("judge_dealt" : Str) == ("__debug__" : Str)) = false := by decide +kernel
theorem nd_judge_to_place : (("judge_to_place" : Str) == ("__debug__" : Str)) = false := by decide +kernel
theorem nd_judged : (("judged" : Str) == ("__debug__" : Str)) = false := by decide +kernel
theorem nc_judged : (("judged" : Str) == ("__classdict__" : Str)) = false := by decide +kernel
theorem nd_k : (("k" : Str) == ("__debug__" : Str)) = false := by decide +kernel
theorem nc_k : (("k" : Str) == ("__classdict__" : Str)) = false := by decide +kernel
theorem nd_kind : (("kind" : Str) == ("__debug__" : Str)) = false := by decide +kernel
theorem nc_kind : (("kind" : Str) == ("__classdict__" : Str)) = false := by decide +kernel
theorem nd_kinds : (("kinds" : Str) == ("__debug__" : Str)) = false := by decide +kernel
theorem nc_kinds : (("kinds" : Str) == ("__classdict__" : Str)) = false := by decide +kernel
theorem nd_left : (("left" : Str) == ("__debug__" : Str)) = false := by decide +kernel
theorem nc_left : (("left" : Str) == ("__classdict__" : Str)) = false := by decide +kernel
theorem nd_len : (("len" : Str) == ("__debug__" : Str)) = false := by decide +kernel
theorem nn_len : ("len" : Str) ≠ "__name__" := by decide +kernel
theorem nd_limit : (("limit" : Str) == ("__debug__" : Str)) = false := by decide +kernel
theorem nc_limit : (("limit" : Str) == ("__classdict__" : Str)) = false := by decide +kernel
theorem nd_list : (("list" : Str) == ("__debug__" : Str)) = false := by decide +kernel
theorem nn_list : ("list" : Str) ≠ "__name__" := by decide +kernel
theorem nd_low : (("low" : Str) == ("__debug__" : Str)) = false := by decide +kernel
theorem nc_low : (("low" : Str) == ("__classdict__" : Str)) = false := by decide +kernel
theorem nd_more : (("more" : Str) == ("__debug__" : Str)) = false := by decide +kernel
theorem nc_more : (("more" : Str) == ("__classdict__" : Str)) = false := by decide +kernel
theorem nd_most : (("most" : Str) == ("__debug__" : Str)) = false := by decide +kernel
theorem nc_most : (("most" : Str) == ("__classdict__" : Str)) = false := by decide +kernel
theorem nd_near_told : (("near_told" : Str) == ("__debug__" : Str)) = false := by decide +kernel
theorem nc_near_told : (("near_told" : Str) == ("__classdict__" : Str)) = false := by decide +kernel
theorem nd_now : (("now" : Str) == ("__debug__" : Str)) = false := by decide +kernel
theorem nc_now : (("now" : Str) == ("__classdict__" : Str)) = false := by decide +kernel
theorem nd_number : (("number" : Str) == ("__debug__" : Str)) = false := by decide +kernel
theorem nc_number : (("number" : Str) == ("__classdict__" : Str)) = false := by decide +kernel
theorem nd_numbers : (("numbers" : Str) == ("__debug__" : Str)) = false := by decide +kernel
theorem nc_numbers : (("numbers" : Str) == ("__classdict__" : Str)) = false := by decide +kernel
theorem nd_odd : (("odd" : Str) == ("__debug__" : Str)) = false := by decide +kernel
theorem nc_odd : (("odd" : Str) == ("__classdict__" : Str)) = false := by decide +kernel
theorem nd_one : (("one" : Str) == ("__debug__" : Str)) = false := by decide +kernel
theorem nc_one : (("one" : Str) == ("__classdict__" : Str)) = false := by decide +kernel
theorem nd_other : (("other" : Str) == ("__debug__" : Str)) = false := by decide +kernel
theorem nc_other : (("other" : Str) == ("__classdict__" : Str)) = false := by decide +kernel
theorem nd_others : (("others" : Str) == ("__debug__" : Str)) = false := by decide +kernel
theorem nc_others : (("others" : Str) == ("__classdict__" : Str)) = false := by decide +kernel
theorem nd_p : (("p" : Str) == ("__debug__" : Str)) = false := by decide +kernel
theorem nc_p : (("p" : Str) == ("__classdict__" : Str)) = false := by decide +kernel
theorem nd_part : (("part" : Str) == ("__debug__" : Str)) = false := by decide +kernel
theorem nc_part : (("part" : Str) == ("__classdict__" : Str)) = false := by decide +kernel
theorem nd_pick : (("pick" : Str) == ("__debug__" : Str)) = false := by decide +kernel
theorem nc_pick : (("pick" : Str) == ("__classdict__" : Str)) = false := by decide +kernel
theorem nd_place : (("place" : Str) == ("__debug__" : Str)) = false := by decide +kernel
theorem nc_place : (("place" : Str) == ("__classdict__" : Str)) = false := by decide +kernel
theorem nd_place_after : (("place_after" : Str) == ("__debug__" : Str)) = false := by decide +kernel
theorem nd_repr : (("repr" : Str) == ("__debug__" : Str)) = false := by decide +kernel
theorem nn_repr : ("repr" : Str) ≠ "__name__" := by decide +kernel
theorem nd_rest : (("rest" : Str) == ("__debug__" : Str)) = false := by decide +kernel
theorem nc_rest : (("rest" : Str) == ("__classdict__" : Str)) = false := by decide +kernel
theorem nd_row : (("row" : Str) == ("__debug__" : Str)) = false := by decide +kernel
theorem nc_row : (("row" : Str) == ("__classdict__" : Str)) = false := by decide +kernel
theorem nd_script : (("script" : Str) == ("__debug__" : Str)) = false := by decide +kernel
theorem nc_script : (("script" : Str) == ("__classdict__" : Str)) = false := by decide +kernel
theorem nd_seen : (("seen" : Str) == ("__debug__" : Str)) = false := by decide +kernel
theorem nc_seen : (("seen" : Str) == ("__classdict__" : Str)) = false := by decide +kernel
theorem nd_seen_too : (("seen_too" : Str) == ("__debug__" : Str)) = false := by decide +kernel
theorem nc_seen_too : (("seen_too" : Str) == ("__classdict__" : Str)) = false := by decide +kernel
theorem nd_size : (("size" : Str) == ("__debug__" : Str)) = false := by decide +kernel
theorem nc_size : (("size" : Str) == ("__classdict__" : Str)) = false := by decide +kernel
theorem nd_state : (("state" : Str) == ("__debug__" : Str)) = false := by decide +kernel
theorem nc_state : (("state" : Str) == ("__classdict__" : Str)) = false := by decide +kernel
theorem nd_step : (("step" : Str) == ("__debug__" : Str)) = false := by decide +kernel
theorem nc_step : (("step" : Str) == ("__classdict__" : Str)) = false := by decide +kernel
theorem nd_steps : (("steps" : Str) == ("__debug__" : Str)) = false := by decide +kernel
theorem nc_steps : (("steps" : Str) == ("__classdict__" : Str)) = false := by decide +kernel
theorem nd_str : (("str" : Str) == ("__debug__" : Str)) = false := by decide +kernel
theorem nn_str : ("str" : Str) ≠ "__name__" := by decide +kernel
theorem nd_things : (("things" : Str) == ("__debug__" : Str)) = false := by decide +kernel
theorem nc_things : (("things" : Str) == ("__classdict__" : Str)) = false := by decide +kernel
theorem nd_to_place : (("to_place" : Str) == ("__debug__" : Str)) = false := by decide +kernel
theorem nd_told : (("told" : Str) == ("__debug__" : Str)) = false := by decide +kernel
theorem nc_told : (("told" : Str) == ("__classdict__" : Str)) = false := by decide +kernel
theorem nd_tuple : (("tuple" : Str) == ("__debug__" : Str)) = false := by decide +kernel
theorem nn_tuple : ("tuple" : Str) ≠ "__name__" := by decide +kernel
theorem nd_value : (("value" : Str) == ("__debug__" : Str)) = false := by decide +kernel
theorem nc_value : (("value" : Str) == ("__classdict__" : Str)) = false := by decide +kernel
theorem nd_ways : (("ways" : Str) == ("__debug__" : Str)) = false := by decide +kernel
theorem nc_ways : (("ways" : Str) == ("__classdict__" : Str)) = false := by decide +kernel
theorem nd_word : (("word" : Str) == ("__debug__" : Str)) = false := by decide +kernel
theorem nc_word : (("word" : Str) == ("__classdict__" : Str)) = false := by decide +kernel
structure Gs (K : PySem.W.Frag) (mg : Str → Option Value) : Prop where
  b_ValueError : mg "ValueError" = none
  b_bool : mg "bool" = none
  b_int : mg "int" = none
  b_isinstance : mg "isinstance" = none
  b_len : mg "len" = none
  b_list : mg "list" = none
  b_range : mg "range" = none
  b_repr : mg "repr" = none
  b_set : mg "set" = none
  b_sorted : mg "sorted" = none
  b_str : mg "str" = none
  b_tuple : mg "tuple" = none
  x_CardwholeError : mg "CardwholeError" = some (.ref (He.ga K "CardwholeError"))
  x_UnfitCard : mg "UnfitCard" = some (.ref (He.ga K "UnfitCard"))
  x_TooWide : mg "TooWide" = some (.ref (He.ga K "TooWide"))
  i_MOST_CARDS : ∃ t, mg "MOST_CARDS" = some (.int 60 t)
  er : Errs K known isub ∧ ∀ c ∈ known, ExcR K c
structure Fs (P : Program) (w : World) (K : PySem.W.Frag) (mg : Str → Option Value) (base : Heap) (k : Nat) (T : Tab) : Prop where
  c_is_whole : FnAt P w K mg base k T "is_whole" 1 false ["value"]
  c_is_told : FnAt P w K mg base k T "is_told" 3 false ["told", "word", "count"]
  c_are_wholes : FnAt P w K mg base k T "are_wholes" 2 false ["value", "count"]
  c_check_pack : FnAt P w K mg base k T "check_pack" 1 false ["row"]
  c_to_place : FnAt P w K mg base k T "to_place" 2 false ["size", "goal"]
  c_place_after : FnAt P w K mg base k T "place_after" 3 false ["size", "place", "kind"]
  c_judge_to_place : FnAt P w K mg base k T "judge_to_place" 3 false ["size", "goal", "told"]
  c_dealt : FnAt P w K mg base k T "dealt" 3 false ["row", "hands", "kind"]
  c_judge_dealt : FnAt P w K mg base k T "judge_dealt" 4 false ["row", "hands", "kind", "told"]
  c__law_next : FnAt P w K mg base k T "_law_next" 2 true ["state", "limit"]
  c__law_same : FnAt P w K mg base k T "_law_same" 2 false ["actual", "expected"]
  c__law_is_whole : FnAt P w K mg base k T "_law_is_whole" 1 false ["value"]
  c__law_is_place : FnAt P w K mg base k T "_law_is_place" 2 false ["value", "most"]
  c__law_are_places : FnAt P w K mg base k T "_law_are_places" 2 false ["value", "most"]
  c__law_is : FnAt P w K mg base k T "_law_is" 3 false ["told", "word", "count"]
  c__law_changed : FnAt P w K mg base k T "_law_changed" 2 true ["state", "value"]
  c__law_ints : FnAt P w K mg base k T "_law_ints" 1 false ["value"]
  c__law_exchanged : FnAt P w K mg base k T "_law_exchanged" 3 false ["value", "one", "other"]
  c__law_cut : FnAt P w K mg base k T "_law_cut" 2 true ["state", "value"]
  c__law_turned_about : FnAt P w K mg base k T "_law_turned_about" 2 true ["state", "told"]
  c__law_odd : FnAt P w K mg base k T "_law_odd" 2 true ["state", "told"]
  c__law_mixed : FnAt P w K mg base k T "_law_mixed" 2 true ["state", "row"]
  c__law_cards : FnAt P w K mg base k T "_law_cards" 4 true ["state", "low", "high", "most"]
  c__law_neighbour : FnAt P w K mg base k T "_law_neighbour" 2 true ["state", "value"]
  c__law_next_place : FnAt P w K mg base k T "_law_next_place" 3 false ["size", "place", "kind"]
  c__law_accepts : FnAt P w K mg base k T "_law_accepts" 3 false ["size", "goal", "told"]
  c__law_told_near : FnAt P w K mg base k T "_law_told_near" 3 true ["state", "size", "goal"]
  c__law_unfit : FnAt P w K mg base k T "_law_unfit" 2 false ["size", "goal"]
  c__law_accepts_too : FnAt P w K mg base k T "_law_accepts_too" 4 false ["row", "hands", "kind", "told"]
  c__law_told_near_too : FnAt P w K mg base k T "_law_told_near_too" 4 true ["state", "row", "hands", "kind"]
  c__law_unfit_too : FnAt P w K mg base k T "_law_unfit_too" 3 false ["row", "hands", "kind"]
section
variable {P : Program} {w : World} {K : PySem.W.Frag} {mg : Str → Option Value} {base : Heap} {k : Nat} {T : Tab}
theorem w_is_whole (G : Gs K mg) (F : Fs P w K mg base k T) : BodyAt P w K mg base k T "is_whole" d_is_whole g_is_whole := by
  intro f cdv A outer s H E hr
  have tk : Takes (cxOf (L2.CX P w) P w K mg base d_is_whole.N "is_whole" (defScope d_is_whole.st) f cdv A outer s H E) (fun cls d _ H => E cls d H) := takes_of rfl rfl rfl rfl
  have ow : PassesOwn (model P w) (cxOf (L2.CX P w) P w K mg base d_is_whole.N "is_whole" (defScope d_is_whole.st) f cdv A outer s H E).A (cxOf (L2.CX P w) P w K mg base d_is_whole.N "is_whole" (defScope d_is_whole.st) f cdv A outer s H E).env (cxOf (L2.CX P w) P w K mg base d_is_whole.N "is_whole" (defScope d_is_whole.st) f cdv A outer s H E).xe := passes_of (X := cxOf (L2.CX P w) P w K mg base d_is_whole.N "is_whole" (defScope d_is_whole.st) f cdv A outer s H E) rfl
  exact (pds_one (pd_ret (pd_and rfl (pd_isi .int rfl rfl G.b_isinstance rfl G.b_int bt_int nn_int nd_int (pd_var (i := 0) rfl (.inl rfl) nd_value nc_value) rfl rfl) (pe_one (pd_not rfl (pd_isi .bool rfl rfl G.b_isinstance rfl G.b_bool bt_bool nn_bool nd_bool (pd_var (i := 0) rfl (.inl rfl) nd_value nc_value) rfl rfl))))))
theorem w_is_told (G : Gs K mg) (F : Fs P w K mg base k T) : BodyAt P w K mg base k T "is_told" d_is_told g_is_told := by
  intro f cdv A outer s H E hr
  have tk : Takes (cxOf (L2.CX P w) P w K mg base d_is_told.N "is_told" (defScope d_is_told.st) f cdv A outer s H E) (fun cls d _ H => E cls d H) := takes_of rfl rfl rfl rfl
  have ow : PassesOwn (model P w) (cxOf (L2.CX P w) P w K mg base d_is_told.N "is_told" (defScope d_is_told.st) f cdv A outer s H E).A (cxOf (L2.CX P w) P w K mg base d_is_told.N "is_told" (defScope d_is_told.st) f cdv A outer s H E).env (cxOf (L2.CX P w) P w K mg base d_is_told.N "is_told" (defScope d_is_told.st) f cdv A outer s H E).xe := passes_of (X := cxOf (L2.CX P w) P w K mg base d_is_told.N "is_told" (defScope d_is_told.st) f cdv A outer s H E) rfl
  exact (pds_cons (pd_if (PW.pt (pdw_or (pdt_not (pd_truth rfl (pd_isi .tuple rfl rfl G.b_isinstance rfl G.b_tuple bt_tuple nn_tuple nd_tuple (pd_var (i := 0) rfl (.inl rfl) nd_told nc_told) rfl rfl) fun _ => rfl)) (pw_or1 (pdt_cmp (op_neD (rm64 hr)) (neD _) (pd_callB call_lenA (lenD _) rfl G.b_len bt_len (pda_cons (pd_var (i := 0) rfl (.inl rfl) nd_told nc_told) pda_nil rfl) nn_len nd_len rfl rfl) (pd_var (i := 2) rfl (.inl rfl) nd_count nc_count) (nobehind _ (by decide) (by decide)))))) (pds_one (pd_ret (pd_const pe_bl fun _ _ => .bl _))) pds_nil)
    (pds_one (pd_ret (pd_and rfl (pd_isi .str rfl rfl G.b_isinstance rfl G.b_str bt_str nn_str nd_str (pd_ix rfl (pd_var (i := 0) rfl (.inl rfl) nd_told nc_told) (pd_const pe_int fun _ _ => .int _) fun _ _ => rfl) rfl rfl) (pe_one (pd_cmp (op_eqD (rm64 hr)) (eqD _) (pd_ix rfl (pd_var (i := 0) rfl (.inl rfl) nd_told nc_told) (pd_const pe_int fun _ _ => .int _) fun _ _ => rfl) (pd_var (i := 1) rfl (.inl rfl) nd_word nc_word) (nobehind _ (by decide) (by decide))))))))
theorem w_are_wholes (G : Gs K mg) (F : Fs P w K mg base k T) : BodyAt P w K mg base k T "are_wholes" d_are_wholes g_are_wholes := by
  intro f cdv A outer s H E hr
  have tk : Takes (cxOf (L2.CX P w) P w K mg base d_are_wholes.N "are_wholes" (defScope d_are_wholes.st) f cdv A outer s H E) (fun cls d _ H => E cls d H) := takes_of rfl rfl rfl rfl
  have ow : PassesOwn (model P w) (cxOf (L2.CX P w) P w K mg base d_are_wholes.N "are_wholes" (defScope d_are_wholes.st) f cdv A outer s H E).A (cxOf (L2.CX P w) P w K mg base d_are_wholes.N "are_wholes" (defScope d_are_wholes.st) f cdv A outer s H E).env (cxOf (L2.CX P w) P w K mg base d_are_wholes.N "are_wholes" (defScope d_are_wholes.st) f cdv A outer s H E).xe := passes_of (X := cxOf (L2.CX P w) P w K mg base d_are_wholes.N "are_wholes" (defScope d_are_wholes.st) f cdv A outer s H E) rfl
  exact (pds_one (pd_ret (pd_and rfl (pd_isi .tuple rfl rfl G.b_isinstance rfl G.b_tuple bt_tuple nn_tuple nd_tuple (pd_var (i := 0) rfl (.inl rfl) nd_value nc_value) rfl rfl) (pd_and rfl (pd_cmp (op_eqD (rm64 hr)) (eqD _) (pd_callB call_lenA (lenD _) rfl G.b_len bt_len (pda_cons (pd_var (i := 0) rfl (.inl rfl) nd_value nc_value) pda_nil rfl) nn_len nd_len rfl rfl) (pd_var (i := 1) rfl (.inl rfl) nd_count nc_count) (nobehind _ (by decide) (by decide))) (pe_one (pd_cmp (op_notInE (rm65 hr)) (notInD _) (pd_const pe_bl fun _ _ => .bl _) (pd_fz (pd_lc (own := [("part", 2)]) (is := [2]) rfl (by decide) rfl nN_are_wholes (pd_src rfl (pd_var (i := 0) rfl (.inl rfl) nd_value nc_value)) (show blkC d_are_wholes.N (defScope d_are_wholes.st) _ _ = true from by decide +kernel) (fun _ _ _ _ _ => (pdg_name (i := 2) nN_are_wholes rfl (.inl rfl) (.inr rfl))) (fun _ _ _ _ _ => pdts_nil) (fun _ _ _ _ _ => (pd_call F.c_is_whole rfl takes_none5 hr rfl (pda_cons (pd_var (i := 2) rfl (.inl rfl) nd_part nc_part) pda_nil rfl) nd_is_whole rfl rfl)) fun _ => rfl)) rfl))))))
theorem w_check_pack (G : Gs K mg) (F : Fs P w K mg base k T) : BodyAt P w K mg base k T "check_pack" d_check_pack g_check_pack := by
  intro f cdv A outer s H E hr
  have tk : Takes (cxOf (L2.CX P w) P w K mg base d_check_pack.N "check_pack" (defScope d_check_pack.st) f cdv A outer s H E) (fun cls d _ H => E cls d H) := takes_of rfl rfl rfl rfl
  have ow : PassesOwn (model P w) (cxOf (L2.CX P w) P w K mg base d_check_pack.N "check_pack" (defScope d_check_pack.st) f cdv A outer s H E).A (cxOf (L2.CX P w) P w K mg base d_check_pack.N "check_pack" (defScope d_check_pack.st) f cdv A outer s H E).env (cxOf (L2.CX P w) P w K mg base d_check_pack.N "check_pack" (defScope d_check_pack.st) f cdv A outer s H E).xe := passes_of (X := cxOf (L2.CX P w) P w K mg base d_check_pack.N "check_pack" (defScope d_check_pack.st) f cdv A outer s H E) rfl
  exact (pds_cons (pd_if (pdt_cmp opLt (cmpD _) (pd_lenSet rfl rfl G.b_len rfl G.b_set (pd_var (i := 0) rfl (.inl rfl) nd_row nc_row) rfl rfl) (pd_callB call_lenA (lenD _) rfl G.b_len bt_len (pda_cons (pd_var (i := 0) rfl (.inl rfl) nd_row nc_row) pda_nil rfl) nn_len nd_len rfl rfl) (nobehind _ (by decide) (by decide))) (pds_one (pd_raiseE rfl rfl tk (G.er.2 "UnfitCard" (by decide)) G.x_UnfitCard rfl nd_UnfitCard)) pds_nil)
    (pds_one (pd_if (pdt_cmp opGt (cmpD _) (pd_callB call_lenA (lenD _) rfl G.b_len bt_len (pda_cons (pd_var (i := 0) rfl (.inl rfl) nd_row nc_row) pda_nil rfl) nn_len nd_len rfl rfl) (pd_gint G.i_MOST_CARDS rfl nd_MOST_CARDS) (nobehind _ (by decide) (by decide))) (pds_one (pd_raiseE rfl rfl tk (G.er.2 "TooWide" (by decide)) G.x_TooWide rfl nd_TooWide)) pds_nil)))
theorem w_to_place (G : Gs K mg) (F : Fs P w K mg base k T) : BodyAt P w K mg base k T "to_place" d_to_place g_to_place := by
  intro f cdv A outer s H E hr
  have tk : Takes (cxOf (L2.CX P w) P w K mg base d_to_place.N "to_place" (defScope d_to_place.st) f cdv A outer s H E) (fun cls d _ H => E cls d H) := takes_of rfl rfl rfl rfl
  have ow : PassesOwn (model P w) (cxOf (L2.CX P w) P w K mg base d_to_place.N "to_place" (defScope d_to_place.st) f cdv A outer s H E).A (cxOf (L2.CX P w) P w K mg base d_to_place.N "to_place" (defScope d_to_place.st) f cdv A outer s H E).env (cxOf (L2.CX P w) P w K mg base d_to_place.N "to_place" (defScope d_to_place.st) f cdv A outer s H E).xe := passes_of (X := cxOf (L2.CX P w) P w K mg base d_to_place.N "to_place" (defScope d_to_place.st) f cdv A outer s H E) rfl
  exact (pds_cons (pd_if (PW.pt (pdw_or (pdt_cmp opLt (cmpD _) (pd_var (i := 0) rfl (.inl rfl) nd_size nc_size) (pd_const pe_int fun _ _ => .int _) (nobehind _ (by decide) (by decide))) (pdw_or (pdt_cmp (op_eqD (rm64 hr)) (eqD _) (pd_bin op_modN (modD) (pd_var (i := 0) rfl (.inl rfl) nd_size nc_size) (pd_const pe_int fun _ _ => .int _)) (pd_const pe_int fun _ _ => .int _) (nobehind _ (by decide) (by decide))) (pw_or1 (pdt_not (pdt_chain opLe opLt (cmpD _) (cmpD _) (pd_const pe_int fun _ _ => .int _) (pd_var (i := 1) rfl (.inl rfl) nd_goal nc_goal) (pd_var (i := 0) rfl (.inl rfl) nd_size nc_size) rfl)))))) (pds_one (pd_raiseE rfl rfl tk (G.er.2 "UnfitCard" (by decide)) G.x_UnfitCard rfl nd_UnfitCard)) pds_nil)
    (pds_cons (pd_if (pdt_cmp opGt (cmpD _) (pd_var (i := 0) rfl (.inl rfl) nd_size nc_size) (pd_gint G.i_MOST_CARDS rfl nd_MOST_CARDS) (nobehind _ (by decide) (by decide))) (pds_one (pd_raiseE rfl rfl tk (G.er.2 "TooWide" (by decide)) G.x_TooWide rfl nd_TooWide)) pds_nil)
    (pds_cons (pd_set (i := 2) nN_to_place rfl (.inl rfl) (pd_tup pda_nil) rfl (.inr rfl))
    (pds_cons (pd_set (i := 3) nN_to_place rfl (.inl rfl) (pd_var (i := 1) rfl (.inl rfl) nd_goal nc_goal) rfl (.inr rfl))
    (pds_cons (pd_while ow (pdt_cmp opGt (cmpD _) (pd_var (i := 3) rfl (.inl rfl) nd_left nc_left) (pd_const pe_int fun _ _ => .int _) (nobehind _ (by decide) (by decide))) (pds_cons (pd_set (i := 2) nN_to_place rfl (.inl rfl) (pd_bin op_addD (addD _) (pd_tup (pda_cons (pd_bin op_modN (modD) (pd_var (i := 3) rfl (.inl rfl) nd_left nc_left) (pd_const pe_int fun _ _ => .int _)) pda_nil rfl)) (pd_var (i := 2) rfl (.inl rfl) nd_kinds nc_kinds)) rfl (.inr rfl))
    (pds_one (pd_set (i := 3) nN_to_place rfl (.inl rfl) (pd_bin op_fdivN (divD) (pd_var (i := 3) rfl (.inl rfl) nd_left nc_left) (pd_const pe_int fun _ _ => .int _)) rfl (.inr rfl)))))
    (pds_one (pd_ret (pd_tup (pda_cons (pd_const pe_str fun _ _ => .str _) (pda_cons (pd_var (i := 2) rfl (.inl rfl) nd_kinds nc_kinds) pda_nil rfl) rfl)))))))))
theorem w_place_after (G : Gs K mg) (F : Fs P w K mg base k T) : BodyAt P w K mg base k T "place_after" d_place_after g_place_after := by
  intro f cdv A outer s H E hr
  have tk : Takes (cxOf (L2.CX P w) P w K mg base d_place_after.N "place_after" (defScope d_place_after.st) f cdv A outer s H E) (fun cls d _ H => E cls d H) := takes_of rfl rfl rfl rfl
  have ow : PassesOwn (model P w) (cxOf (L2.CX P w) P w K mg base d_place_after.N "place_after" (defScope d_place_after.st) f cdv A outer s H E).A (cxOf (L2.CX P w) P w K mg base d_place_after.N "place_after" (defScope d_place_after.st) f cdv A outer s H E).env (cxOf (L2.CX P w) P w K mg base d_place_after.N "place_after" (defScope d_place_after.st) f cdv A outer s H E).xe := passes_of (X := cxOf (L2.CX P w) P w K mg base d_place_after.N "place_after" (defScope d_place_after.st) f cdv A outer s H E) rfl
  exact (pds_cons (pd_set (i := 3) nN_place_after rfl (.inl rfl) (pd_bin op_fdivN (divD) (pd_var (i := 0) rfl (.inl rfl) nd_size nc_size) (pd_const pe_int fun _ _ => .int _)) rfl (.inr rfl))
    (pds_cons (pd_if (pdt_cmp opLt (cmpD _) (pd_var (i := 1) rfl (.inl rfl) nd_place nc_place) (pd_var (i := 3) rfl (.inl rfl) nd_half nc_half) (nobehind _ (by decide) (by decide))) (pds_one (pd_ret (pd_bin op_addD (addD _) (pd_bin op_mulD (mulD) (pd_const pe_int fun _ _ => .int _) (pd_var (i := 1) rfl (.inl rfl) nd_place nc_place)) (pd_var (i := 2) rfl (.inl rfl) nd_kind nc_kind)))) pds_nil)
    (pds_one (pd_ret (pd_bin op_sub (subD) (pd_bin op_addD (addD _) (pd_bin op_mulD (mulD) (pd_const pe_int fun _ _ => .int _) (pd_bin op_sub (subD) (pd_var (i := 1) rfl (.inl rfl) nd_place nc_place) (pd_var (i := 3) rfl (.inl rfl) nd_half nc_half))) (pd_const pe_int fun _ _ => .int _)) (pd_var (i := 2) rfl (.inl rfl) nd_kind nc_kind))))))
theorem w_judge_to_place (G : Gs K mg) (F : Fs P w K mg base k T) : BodyAt P w K mg base k T "judge_to_place" d_judge_to_place g_judge_to_place := by
  intro f cdv A outer s H E hr
  have tk : Takes (cxOf (L2.CX P w) P w K mg base d_judge_to_place.N "judge_to_place" (defScope d_judge_to_place.st) f cdv A outer s H E) (fun cls d _ H => E cls d H) := takes_of rfl rfl rfl rfl
  have ow : PassesOwn (model P w) (cxOf (L2.CX P w) P w K mg base d_judge_to_place.N "judge_to_place" (defScope d_judge_to_place.st) f cdv A outer s H E).A (cxOf (L2.CX P w) P w K mg base d_judge_to_place.N "judge_to_place" (defScope d_judge_to_place.st) f cdv A outer s H E).env (cxOf (L2.CX P w) P w K mg base d_judge_to_place.N "judge_to_place" (defScope d_judge_to_place.st) f cdv A outer s H E).xe := passes_of (X := cxOf (L2.CX P w) P w K mg base d_judge_to_place.N "judge_to_place" (defScope d_judge_to_place.st) f cdv A outer s H E) rfl
  exact (pds_cons (pd_set (i := 3) nN_judge_to_place rfl (.inl rfl) (pd_call F.c_to_place rfl tk hr rfl (pda_cons (pd_var (i := 0) rfl (.inl rfl) nd_size nc_size) (pda_cons (pd_var (i := 1) rfl (.inl rfl) nd_goal nc_goal) pda_nil rfl) rfl) nd_to_place rfl rfl) rfl (.inr rfl))
    (pds_cons (pd_if (PW.pt (pdw_or (pdt_not (pd_truth rfl (pd_call F.c_is_told rfl tk hr rfl (pda_cons (pd_var (i := 2) rfl (.inl rfl) nd_told nc_told) (pda_cons (pd_const pe_str fun _ _ => .str _) (pda_cons (pd_const pe_int fun _ _ => .int _) pda_nil rfl) rfl) rfl) nd_is_told rfl rfl) fun _ => rfl)) (pw_or1 (pdt_not (pd_truth rfl (pd_call F.c_are_wholes rfl tk hr rfl (pda_cons (pd_ix rfl (pd_var (i := 2) rfl (.inl rfl) nd_told nc_told) (pd_const pe_int fun _ _ => .int _) fun _ _ => rfl) (pda_cons (pd_callB call_lenA (lenD _) rfl G.b_len bt_len (pda_cons (pd_ix rfl (pd_var (i := 3) rfl (.inl rfl) nd_due nc_due) (pd_const pe_int fun _ _ => .int _) fun _ _ => rfl) pda_nil rfl) nn_len nd_len rfl rfl) pda_nil rfl) rfl) nd_are_wholes rfl rfl) fun _ => rfl))))) (pds_one (pd_ret (pd_const pe_bl fun _ _ => .bl _))) pds_nil)
    (pds_cons (pd_set (i := 4) nN_judge_to_place rfl (.inl rfl) (pd_const pe_int fun _ _ => .int _) rfl (.inr rfl))
    (pds_cons (pd_for ow rfl (pd_src rfl (pd_ix rfl (pd_var (i := 2) rfl (.inl rfl) nd_told nc_told) (pd_const pe_int fun _ _ => .int _) fun _ _ => rfl)) (pdg_name (i := 5) nN_judge_to_place rfl (.inl rfl) (.inr rfl)) (pds_cons (pd_if (pdt_cmp (op_notInE (rm65 hr)) (notInD _) (pd_var (i := 5) rfl (.inl rfl) nd_kind nc_kind) (pd_tup (pda_cons (pd_const pe_int fun _ _ => .int _) (pda_cons (pd_const pe_int fun _ _ => .int _) pda_nil rfl) rfl)) rfl) (pds_one (pd_ret (pd_const pe_bl fun _ _ => .bl _))) pds_nil)
    (pds_one (pd_set (i := 4) nN_judge_to_place rfl (.inl rfl) (pd_call F.c_place_after rfl tk hr rfl (pda_cons (pd_var (i := 0) rfl (.inl rfl) nd_size nc_size) (pda_cons (pd_var (i := 4) rfl (.inl rfl) nd_place nc_place) (pda_cons (pd_var (i := 5) rfl (.inl rfl) nd_kind nc_kind) pda_nil rfl) rfl) rfl) nd_place_after rfl rfl) rfl (.inr rfl)))) fun _ => rfl)
    (pds_one (pd_ret (pd_cmp (op_eqD (rm64 hr)) (eqD _) (pd_var (i := 4) rfl (.inl rfl) nd_place nc_place) (pd_var (i := 1) rfl (.inl rfl) nd_goal nc_goal) (nobehind _ (by decide) (by decide)))))))))
theorem w_dealt (G : Gs K mg) (F : Fs P w K mg base k T) : BodyAt P w K mg base k T "dealt" d_dealt g_dealt := by
  intro f cdv A outer s H E hr
  have tk : Takes (cxOf (L2.CX P w) P w K mg base d_dealt.N "dealt" (defScope d_dealt.st) f cdv A outer s H E) (fun cls d _ H => E cls d H) := takes_of rfl rfl rfl rfl
  have ow : PassesOwn (model P w) (cxOf (L2.CX P w) P w K mg base d_dealt.N "dealt" (defScope d_dealt.st) f cdv A outer s H E).A (cxOf (L2.CX P w) P w K mg base d_dealt.N "dealt" (defScope d_dealt.st) f cdv A outer s H E).env (cxOf (L2.CX P w) P w K mg base d_dealt.N "dealt" (defScope d_dealt.st) f cdv A outer s H E).xe := passes_of (X := cxOf (L2.CX P w) P w K mg base d_dealt.N "dealt" (defScope d_dealt.st) f cdv A outer s H E) rfl
  exact (pds_cons (pd_expr (pd_call F.c_check_pack rfl tk hr rfl (pda_cons (pd_var (i := 0) rfl (.inr (.inl rfl)) nd_row nc_row) pda_nil rfl) nd_check_pack rfl rfl) rfl)
    (pds_cons (pd_if (PW.pt (pdw_or (pdt_cmp opLt (cmpD _) (pd_var (i := 1) rfl (.inr (.inl rfl)) nd_hands nc_hands) (pd_const pe_int fun _ _ => .int _) (nobehind _ (by decide) (by decide))) (pw_or1 (pdt_cmp (op_notInE (rm65 hr)) (notInD _) (pd_var (i := 2) rfl (.inl rfl) nd_kind nc_kind) (pd_tup (pda_cons (pd_const pe_int fun _ _ => .int _) (pda_cons (pd_const pe_int fun _ _ => .int _) pda_nil rfl) rfl)) rfl)))) (pds_one (pd_raiseE rfl rfl tk (G.er.2 "UnfitCard" (by decide)) G.x_UnfitCard rfl nd_UnfitCard)) pds_nil)
    (pds_cons (pd_if (pdt_cmp opGt (cmpD _) (pd_var (i := 1) rfl (.inr (.inl rfl)) nd_hands nc_hands) (pd_const pe_int fun _ _ => .int _) (nobehind _ (by decide) (by decide))) (pds_one (pd_raiseE rfl rfl tk (G.er.2 "TooWide" (by decide)) G.x_TooWide rfl nd_TooWide)) pds_nil)
    (pds_cons (pd_set (i := 3) nN_dealt rfl (.inr rfl) (pd_bin op_fdivN (divD) (pd_callB call_lenA (lenD _) rfl G.b_len bt_len (pda_cons (pd_var (i := 0) rfl (.inr (.inl rfl)) nd_row nc_row) pda_nil rfl) nn_len nd_len rfl rfl) (pd_var (i := 1) rfl (.inr (.inl rfl)) nd_hands nc_hands)) rfl (.inl rfl))
    (pds_cons (pd_set (i := 4) nN_dealt rfl (.inl rfl) (pd_callTy call_tupA (tupD _) rfl G.b_tuple bt_tuple (pda_cons (pd_slice rfl (pd_var (i := 0) rfl (.inr (.inl rfl)) nd_row nc_row) (pdp_some (pd_bin op_mulD (mulD) (pd_var (i := 3) rfl (.inr (.inl rfl)) nd_size nc_size) (pd_var (i := 1) rfl (.inr (.inl rfl)) nd_hands nc_hands))) pdp_none) pda_nil rfl) nn_tuple nd_tuple rfl rfl) rfl (.inr rfl))
    (pds_cons (pd_if (pdt_cmp (op_eqD (rm64 hr)) (eqD _) (pd_var (i := 2) rfl (.inl rfl) nd_kind nc_kind) (pd_const pe_int fun _ _ => .int _) (nobehind _ (by decide) (by decide))) (pds_one (pd_ret (pd_tup (pda_cons (pd_const pe_str fun _ _ => .str _) (pda_cons (pd_callTy call_tupA (tupD _) rfl G.b_tuple bt_tuple (pda_cons (pd_fz (pd_lc (own := [("at", 5)]) (is := [5]) rfl (by decide) rfl nN_dealt (pd_range1 rfl G.b_range (pda_cons (pd_var (i := 1) rfl (.inr (.inl rfl)) nd_hands nc_hands) pda_nil rfl) rfl) (show blkC d_dealt.N (defScope d_dealt.st) _ _ = true from by decide +kernel) (fun _ _ _ _ _ => (pdg_name (i := 5) nN_dealt rfl (.inl rfl) (.inr rfl))) (fun _ _ _ _ _ => pdts_nil) (fun _ _ _ _ _ => (pd_callTy call_tupA (tupD _) rfl G.b_tuple bt_tuple (pda_cons (pd_slS rfl (pd_var (i := 0) rfl (.inr (.inl rfl)) nd_row nc_row) (pdp_some (pd_var (i := 5) rfl (.inl rfl) nd_at nc_at)) (pdp_some (pd_bin op_mulD (mulD) (pd_var (i := 3) rfl (.inr (.inl rfl)) nd_size nc_size) (pd_var (i := 1) rfl (.inr (.inl rfl)) nd_hands nc_hands))) (pdp_some (pd_var (i := 1) rfl (.inr (.inl rfl)) nd_hands nc_hands))) pda_nil rfl) nn_tuple nd_tuple rfl rfl)) fun _ => rfl)) pda_nil rfl) nn_tuple nd_tuple rfl rfl) (pda_cons (pd_var (i := 4) rfl (.inl rfl) nd_rest nc_rest) pda_nil rfl) rfl) rfl)))) pds_nil)
    (pds_one (pd_ret (pd_tup (pda_cons (pd_const pe_str fun _ _ => .str _) (pda_cons (pd_callTy call_tupA (tupD _) rfl G.b_tuple bt_tuple (pda_cons (pd_fz (pd_lc (own := [("at", 5)]) (is := [5]) rfl (by decide) rfl nN_dealt (pd_range1 rfl G.b_range (pda_cons (pd_var (i := 1) rfl (.inr (.inl rfl)) nd_hands nc_hands) pda_nil rfl) rfl) (show blkC d_dealt.N (defScope d_dealt.st) _ _ = true from by decide +kernel) (fun _ _ _ _ _ => (pdg_name (i := 5) nN_dealt rfl (.inl rfl) (.inr rfl))) (fun _ _ _ _ _ => pdts_nil) (fun _ _ _ _ _ => (pd_callTy call_tupA (tupD _) rfl G.b_tuple bt_tuple (pda_cons (pd_slice rfl (pd_var (i := 0) rfl (.inr (.inl rfl)) nd_row nc_row) (pdp_some (pd_bin op_mulD (mulD) (pd_var (i := 5) rfl (.inl rfl) nd_at nc_at) (pd_var (i := 3) rfl (.inr (.inl rfl)) nd_size nc_size))) (pdp_some (pd_bin op_addD (addD _) (pd_bin op_mulD (mulD) (pd_var (i := 5) rfl (.inl rfl) nd_at nc_at) (pd_var (i := 3) rfl (.inr (.inl rfl)) nd_size nc_size)) (pd_var (i := 3) rfl (.inr (.inl rfl)) nd_size nc_size)))) pda_nil rfl) nn_tuple nd_tuple rfl rfl)) fun _ => rfl)) pda_nil rfl) nn_tuple nd_tuple rfl rfl) (pda_cons (pd_var (i := 4) rfl (.inl rfl) nd_rest nc_rest) pda_nil rfl) rfl) rfl))))))))))
theorem w_judge_dealt (G : Gs K mg) (F : Fs P w K mg base k T) : BodyAt P w K mg base k T "judge_dealt" d_judge_dealt g_judge_dealt := by
  intro f cdv A outer s H E hr
  have tk : Takes (cxOf (L2.CX P w) P w K mg base d_judge_dealt.N "judge_dealt" (defScope d_judge_dealt.st) f cdv A outer s H E) (fun cls d _ H => E cls d H) := takes_of rfl rfl rfl rfl
  have ow : PassesOwn (model P w) (cxOf (L2.CX P w) P w K mg base d_judge_dealt.N "judge_dealt" (defScope d_judge_dealt.st) f cdv A outer s H E).A (cxOf (L2.CX P w) P w K mg base d_judge_dealt.N "judge_dealt" (defScope d_judge_dealt.st) f cdv A outer s H E).env (cxOf (L2.CX P w) P w K mg base d_judge_dealt.N "judge_dealt" (defScope d_judge_dealt.st) f cdv A outer s H E).xe := passes_of (X := cxOf (L2.CX P w) P w K mg base d_judge_dealt.N "judge_dealt" (defScope d_judge_dealt.st) f cdv A outer s H E) rfl
  exact (pds_cons (pd_set (i := 4) nN_judge_dealt rfl (.inl rfl) (pd_call F.c_dealt rfl tk hr rfl (pda_cons (pd_var (i := 0) rfl (.inl rfl) nd_row nc_row) (pda_cons (pd_var (i := 1) rfl (.inl rfl) nd_hands nc_hands) (pda_cons (pd_var (i := 2) rfl (.inl rfl) nd_kind nc_kind) pda_nil rfl) rfl) rfl) nd_dealt rfl rfl) rfl (.inr rfl))
    (pds_one (pd_ret (pd_and rfl (pd_call F.c_is_told rfl tk hr rfl (pda_cons (pd_var (i := 3) rfl (.inl rfl) nd_told nc_told) (pda_cons (pd_const pe_str fun _ _ => .str _) (pda_cons (pd_const pe_int fun _ _ => .int _) pda_nil rfl) rfl) rfl) nd_is_told rfl rfl) (pd_and rfl (pd_isi .tuple rfl rfl G.b_isinstance rfl G.b_tuple bt_tuple nn_tuple nd_tuple (pd_ix rfl (pd_var (i := 3) rfl (.inl rfl) nd_told nc_told) (pd_const pe_int fun _ _ => .int _) fun _ _ => rfl) rfl rfl) (pe_one (pd_cmp op_eq (eqSD) (pd_callB (cr_repr hr) (reprD _) rfl G.b_repr bt_repr (pda_cons (pd_var (i := 3) rfl (.inl rfl) nd_told nc_told) pda_nil rfl) nn_repr nd_repr rfl rfl) (pd_callB (cr_repr hr) (reprD _) rfl G.b_repr bt_repr (pda_cons (pd_var (i := 4) rfl (.inl rfl) nd_due nc_due) pda_nil rfl) nn_repr nd_repr rfl rfl) (nobehind _ (by decide) (by decide)))))))))
theorem w__law_next (G : Gs K mg) (F : Fs P w K mg base k T) : BodyAt P w K mg base k T "_law_next" d__law_next g__law_next := by
  intro f cdv A outer s H E hr
  have tk : Takes (cxOf (L2.CX P w) P w K mg base d__law_next.N "_law_next" (defScope d__law_next.st) f cdv A outer s H E) (fun cls d _ H => E cls d H) := takes_of rfl rfl rfl rfl
  have ow : PassesOwn (model P w) (cxOf (L2.CX P w) P w K mg base d__law_next.N "_law_next" (defScope d__law_next.st) f cdv A outer s H E).A (cxOf (L2.CX P w) P w K mg base d__law_next.N "_law_next" (defScope d__law_next.st) f cdv A outer s H E).env (cxOf (L2.CX P w) P w K mg base d__law_next.N "_law_next" (defScope d__law_next.st) f cdv A outer s H E).xe := passes_of (X := cxOf (L2.CX P w) P w K mg base d__law_next.N "_law_next" (defScope d__law_next.st) f cdv A outer s H E) rfl
  exact (pds_cons (pd_if (PW.pt (pdw_and (pdt_cmp (op_eqD (rm64 hr)) (eqD _) (pd_ix rfl (pd_var (i := 0) rfl (.inl rfl) nd_state nc_state) (pd_const pe_int fun _ _ => .int _) fun _ _ => rfl) (pd_const pe_int fun _ _ => .int _) (nobehind _ (by decide) (by decide))) (pw_and1 (pdt_cmp opLt (cmpD _) (pd_ix rfl (pd_var (i := 0) rfl (.inl rfl) nd_state nc_state) (pd_const pe_int fun _ _ => .int _) fun _ _ => rfl) (pd_callB call_lenA (lenD _) rfl G.b_len bt_len (pda_cons (pd_ix rfl (pd_var (i := 0) rfl (.inl rfl) nd_state nc_state) (pd_const pe_int fun _ _ => .int _) fun _ _ => rfl) pda_nil rfl) nn_len nd_len rfl rfl) (nobehind _ (by decide) (by decide)))))) (pds_cons (pd_set (i := 2) nN__law_next rfl (.inl rfl) (pd_ix rfl (pd_ix rfl (pd_var (i := 0) rfl (.inl rfl) nd_state nc_state) (pd_const pe_int fun _ _ => .int _) fun _ _ => rfl) (pd_ix rfl (pd_var (i := 0) rfl (.inl rfl) nd_state nc_state) (pd_const pe_int fun _ _ => .int _) fun _ _ => rfl) fun _ _ => rfl) rfl (.inr rfl))
    (pds_cons (pd_augIx rfl (pe_var (i := 0) rfl (.inl rfl) nd_state nc_state) (pd_const pe_int fun _ _ => .int _) (pd_const pe_int fun _ _ => .int _) iop_add (addID) fun _ _ _ => rfl)
    (pds_one (pd_if (pdt_cmp opGe (cmpD _) (pd_var (i := 2) rfl (.inl rfl) nd_cell nc_cell) (pd_bin op_pow (powD) (pd_const pe_int fun _ _ => .int _) (pd_const pe_int fun _ _ => .int _)) (nobehind _ (by decide) (by decide))) (pds_one (pd_setIx (pe_var (i := 0) rfl (.inl rfl) nd_state nc_state) (pd_const pe_int fun _ _ => .int _) (pd_var (i := 2) rfl (.inl rfl) nd_cell nc_cell) rfl rfl rfl fun _ => rfl)) (pds_one (pd_setIx (pe_var (i := 0) rfl (.inl rfl) nd_state nc_state) (pd_const pe_int fun _ _ => .int _) (pd_bin op_modN (modD) (pd_callTy call_intA (intD) rfl G.b_int bt_int (pda_cons (pd_bin op_addD (addD _) (pd_bin op_addD (addD _) (pd_bin op_mulD (mulD) (pd_ix rfl (pd_var (i := 0) rfl (.inl rfl) nd_state nc_state) (pd_const pe_int fun _ _ => .int _) fun _ _ => rfl) (pd_const pe_int fun _ _ => .int _)) (pd_bin op_modN (modD) (pd_callTy call_intA (intD) rfl G.b_int bt_int (pda_cons (pd_var (i := 2) rfl (.inl rfl) nd_cell nc_cell) pda_nil rfl) nn_int nd_int rfl rfl) (pd_const pe_int fun _ _ => .int _))) (pd_const pe_int fun _ _ => .int _)) pda_nil rfl) nn_int nd_int rfl rfl) (pd_const pe_int fun _ _ => .int _)) rfl rfl rfl fun _ => rfl)))))) pds_nil)
    (pds_cons (pd_if (pdt_cmp opGt (cmpD _) (pd_ix rfl (pd_var (i := 0) rfl (.inl rfl) nd_state nc_state) (pd_const pe_int fun _ _ => .int _) fun _ _ => rfl) (pd_const pe_int fun _ _ => .int _) (nobehind _ (by decide) (by decide))) (pds_cons (pd_set (i := 3) nN__law_next rfl (.inl rfl) (pd_bin op_modN (modD) (pd_callTy call_intA (intD) rfl G.b_int bt_int (pda_cons (pd_ix rfl (pd_var (i := 0) rfl (.inl rfl) nd_state nc_state) (pd_const pe_int fun _ _ => .int _) fun _ _ => rfl) pda_nil rfl) nn_int nd_int rfl rfl) (pd_var (i := 1) rfl (.inl rfl) nd_limit nc_limit)) rfl (.inr rfl))
    (pds_cons (pd_setIx (pe_var (i := 0) rfl (.inl rfl) nd_state nc_state) (pd_const pe_int fun _ _ => .int _) (pd_bin op_fdivN (divD) (pd_ix rfl (pd_var (i := 0) rfl (.inl rfl) nd_state nc_state) (pd_const pe_int fun _ _ => .int _) fun _ _ => rfl) (pd_var (i := 1) rfl (.inl rfl) nd_limit nc_limit)) rfl rfl rfl fun _ => rfl)
    (pds_one (pd_ret (pd_var (i := 3) rfl (.inl rfl) nd_value nc_value))))) pds_nil)
    (pds_cons (pd_setIx (pe_var (i := 0) rfl (.inl rfl) nd_state nc_state) (pd_const pe_int fun _ _ => .int _) (pd_bin op_modN (modD) (pd_callTy call_intA (intD) rfl G.b_int bt_int (pda_cons (pd_bin op_addD (addD _) (pd_bin op_mulD (mulD) (pd_ix rfl (pd_var (i := 0) rfl (.inl rfl) nd_state nc_state) (pd_const pe_int fun _ _ => .int _) fun _ _ => rfl) (pd_const pe_int fun _ _ => .int _)) (pd_const pe_int fun _ _ => .int _)) pda_nil rfl) nn_int nd_int rfl rfl) (pd_const pe_int fun _ _ => .int _)) rfl rfl rfl fun _ => rfl)
    (pds_one (pd_ret (pd_bin op_modN (modD) (pd_callTy call_intA (intD) rfl G.b_int bt_int (pda_cons (pd_bin op_fdivN (divD) (pd_ix rfl (pd_var (i := 0) rfl (.inl rfl) nd_state nc_state) (pd_const pe_int fun _ _ => .int _) fun _ _ => rfl) (pd_const pe_int fun _ _ => .int _)) pda_nil rfl) nn_int nd_int rfl rfl) (pd_var (i := 1) rfl (.inl rfl) nd_limit nc_limit)))))))
theorem w__law_same (G : Gs K mg) (F : Fs P w K mg base k T) : BodyAt P w K mg base k T "_law_same" d__law_same g__law_same := by
  intro f cdv A outer s H E hr
  have tk : Takes (cxOf (L2.CX P w) P w K mg base d__law_same.N "_law_same" (defScope d__law_same.st) f cdv A outer s H E) (fun cls d _ H => E cls d H) := takes_of rfl rfl rfl rfl
  have ow : PassesOwn (model P w) (cxOf (L2.CX P w) P w K mg base d__law_same.N "_law_same" (defScope d__law_same.st) f cdv A outer s H E).A (cxOf (L2.CX P w) P w K mg base d__law_same.N "_law_same" (defScope d__law_same.st) f cdv A outer s H E).env (cxOf (L2.CX P w) P w K mg base d__law_same.N "_law_same" (defScope d__law_same.st) f cdv A outer s H E).xe := passes_of (X := cxOf (L2.CX P w) P w K mg base d__law_same.N "_law_same" (defScope d__law_same.st) f cdv A outer s H E) rfl
  exact (pds_cons (pd_if (pdt_isN (pd_var (i := 1) rfl (.inl rfl) nd_expected nc_expected)) (pds_one (pd_ret (pd_isN (pd_var (i := 0) rfl (.inl rfl) nd_actual nc_actual)))) pds_nil)
    (pds_cons (pd_if (pd_truth rfl (pd_isi .bool rfl rfl G.b_isinstance rfl G.b_bool bt_bool nn_bool nd_bool (pd_var (i := 1) rfl (.inl rfl) nd_expected nc_expected) rfl rfl) fun _ => rfl) (pds_one (pd_ret (pd_and rfl (pd_isi .bool rfl rfl G.b_isinstance rfl G.b_bool bt_bool nn_bool nd_bool (pd_var (i := 0) rfl (.inl rfl) nd_actual nc_actual) rfl rfl) (pe_one (pd_cmp (op_eqD (rm64 hr)) (eqD _) (pd_var (i := 0) rfl (.inl rfl) nd_actual nc_actual) (pd_var (i := 1) rfl (.inl rfl) nd_expected nc_expected) (nobehind _ (by decide) (by decide))))))) pds_nil)
    (pds_cons (pd_if (pd_truth rfl (pd_isi .int rfl rfl G.b_isinstance rfl G.b_int bt_int nn_int nd_int (pd_var (i := 1) rfl (.inl rfl) nd_expected nc_expected) rfl rfl) fun _ => rfl) (pds_one (pd_ret (pd_and rfl (pd_isi .int rfl rfl G.b_isinstance rfl G.b_int bt_int nn_int nd_int (pd_var (i := 0) rfl (.inl rfl) nd_actual nc_actual) rfl rfl) (pd_and rfl (pd_not rfl (pd_isi .bool rfl rfl G.b_isinstance rfl G.b_bool bt_bool nn_bool nd_bool (pd_var (i := 0) rfl (.inl rfl) nd_actual nc_actual) rfl rfl)) (pe_one (pd_cmp (op_eqD (rm64 hr)) (eqD _) (pd_var (i := 0) rfl (.inl rfl) nd_actual nc_actual) (pd_var (i := 1) rfl (.inl rfl) nd_expected nc_expected) (nobehind _ (by decide) (by decide)))))))) pds_nil)
    (pds_cons (pd_if (pd_truth rfl (pd_isi .str rfl rfl G.b_isinstance rfl G.b_str bt_str nn_str nd_str (pd_var (i := 1) rfl (.inl rfl) nd_expected nc_expected) rfl rfl) fun _ => rfl) (pds_one (pd_ret (pd_and rfl (pd_isi .str rfl rfl G.b_isinstance rfl G.b_str bt_str nn_str nd_str (pd_var (i := 0) rfl (.inl rfl) nd_actual nc_actual) rfl rfl) (pe_one (pd_cmp (op_eqD (rm64 hr)) (eqD _) (pd_var (i := 0) rfl (.inl rfl) nd_actual nc_actual) (pd_var (i := 1) rfl (.inl rfl) nd_expected nc_expected) (nobehind _ (by decide) (by decide))))))) pds_nil)
    (pds_cons (pd_if (PW.pt (pdw_and (pd_truth rfl (pd_isi .tuple rfl rfl G.b_isinstance rfl G.b_tuple bt_tuple nn_tuple nd_tuple (pd_var (i := 1) rfl (.inl rfl) nd_expected nc_expected) rfl rfl) fun _ => rfl) (pw_and1 (pdt_not (pd_truth rfl (pd_isi .tuple rfl rfl G.b_isinstance rfl G.b_tuple bt_tuple nn_tuple nd_tuple (pd_var (i := 0) rfl (.inl rfl) nd_actual nc_actual) rfl rfl) fun _ => rfl))))) (pds_one (pd_ret (pd_const pe_bl fun _ _ => .bl _))) pds_nil)
    (pds_cons (pd_if (PW.pt (pdw_and (pd_truth rfl (pd_isi .list rfl rfl G.b_isinstance rfl G.b_list bt_list nn_list nd_list (pd_var (i := 1) rfl (.inl rfl) nd_expected nc_expected) rfl rfl) fun _ => rfl) (pw_and1 (pdt_not (pd_truth rfl (pd_isi .list rfl rfl G.b_isinstance rfl G.b_list bt_list nn_list nd_list (pd_var (i := 0) rfl (.inl rfl) nd_actual nc_actual) rfl rfl) fun _ => rfl))))) (pds_one (pd_ret (pd_const pe_bl fun _ _ => .bl _))) pds_nil)
    (pds_cons (pd_if (pdt_cmp (op_neD (rm64 hr)) (neD _) (pd_callB call_lenA (lenD _) rfl G.b_len bt_len (pda_cons (pd_var (i := 0) rfl (.inl rfl) nd_actual nc_actual) pda_nil rfl) nn_len nd_len rfl rfl) (pd_callB call_lenA (lenD _) rfl G.b_len bt_len (pda_cons (pd_var (i := 1) rfl (.inl rfl) nd_expected nc_expected) pda_nil rfl) nn_len nd_len rfl rfl) (nobehind _ (by decide) (by decide))) (pds_one (pd_ret (pd_const pe_bl fun _ _ => .bl _))) pds_nil)
    (pds_cons (pd_for ow rfl (pd_range1 rfl G.b_range (pda_cons (pd_callB call_lenA (lenD _) rfl G.b_len bt_len (pda_cons (pd_var (i := 1) rfl (.inl rfl) nd_expected nc_expected) pda_nil rfl) nn_len nd_len rfl rfl) pda_nil rfl) rfl) (pdg_name (i := 2) nN__law_same rfl (.inl rfl) (.inr rfl)) (pds_one (pd_if (pdt_not (pd_truth rfl (pd_call F.c__law_same rfl tk hr rfl (pda_cons (pd_ix rfl (pd_var (i := 0) rfl (.inl rfl) nd_actual nc_actual) (pd_var (i := 2) rfl (.inl rfl) nd_k nc_k) fun _ _ => rfl) (pda_cons (pd_ix rfl (pd_var (i := 1) rfl (.inl rfl) nd_expected nc_expected) (pd_var (i := 2) rfl (.inl rfl) nd_k nc_k) fun _ _ => rfl) pda_nil rfl) rfl) nd__law_same rfl rfl) fun _ => rfl)) (pds_one (pd_ret (pd_const pe_bl fun _ _ => .bl _))) pds_nil)) fun _ => rfl)
    (pds_one (pd_ret (pd_const pe_bl fun _ _ => .bl _)))))))))))
theorem w__law_is_whole (G : Gs K mg) (F : Fs P w K mg base k T) : BodyAt P w K mg base k T "_law_is_whole" d__law_is_whole g__law_is_whole := by
  intro f cdv A outer s H E hr
  have tk : Takes (cxOf (L2.CX P w) P w K mg base d__law_is_whole.N "_law_is_whole" (defScope d__law_is_whole.st) f cdv A outer s H E) (fun cls d _ H => E cls d H) := takes_of rfl rfl rfl rfl
  have ow : PassesOwn (model P w) (cxOf (L2.CX P w) P w K mg base d__law_is_whole.N "_law_is_whole" (defScope d__law_is_whole.st) f cdv A outer s H E).A (cxOf (L2.CX P w) P w K mg base d__law_is_whole.N "_law_is_whole" (defScope d__law_is_whole.st) f cdv A outer s H E).env (cxOf (L2.CX P w) P w K mg base d__law_is_whole.N "_law_is_whole" (defScope d__law_is_whole.st) f cdv A outer s H E).xe := passes_of (X := cxOf (L2.CX P w) P w K mg base d__law_is_whole.N "_law_is_whole" (defScope d__law_is_whole.st) f cdv A outer s H E) rfl
  exact (pds_one (pd_ret (pd_and rfl (pd_isi .int rfl rfl G.b_isinstance rfl G.b_int bt_int nn_int nd_int (pd_var (i := 0) rfl (.inl rfl) nd_value nc_value) rfl rfl) (pe_one (pd_not rfl (pd_isi .bool rfl rfl G.b_isinstance rfl G.b_bool bt_bool nn_bool nd_bool (pd_var (i := 0) rfl (.inl rfl) nd_value nc_value) rfl rfl))))))
theorem w__law_is_place (G : Gs K mg) (F : Fs P w K mg base k T) : BodyAt P w K mg base k T "_law_is_place" d__law_is_place g__law_is_place := by
  intro f cdv A outer s H E hr
  have tk : Takes (cxOf (L2.CX P w) P w K mg base d__law_is_place.N "_law_is_place" (defScope d__law_is_place.st) f cdv A outer s H E) (fun cls d _ H => E cls d H) := takes_of rfl rfl rfl rfl
  have ow : PassesOwn (model P w) (cxOf (L2.CX P w) P w K mg base d__law_is_place.N "_law_is_place" (defScope d__law_is_place.st) f cdv A outer s H E).A (cxOf (L2.CX P w) P w K mg base d__law_is_place.N "_law_is_place" (defScope d__law_is_place.st) f cdv A outer s H E).env (cxOf (L2.CX P w) P w K mg base d__law_is_place.N "_law_is_place" (defScope d__law_is_place.st) f cdv A outer s H E).xe := passes_of (X := cxOf (L2.CX P w) P w K mg base d__law_is_place.N "_law_is_place" (defScope d__law_is_place.st) f cdv A outer s H E) rfl
  exact (pds_one (pd_ret (pd_and rfl (pd_call F.c__law_is_whole rfl tk hr rfl (pda_cons (pd_var (i := 0) rfl (.inl rfl) nd_value nc_value) pda_nil rfl) nd__law_is_whole rfl rfl) (pe_one (pd_chain opLe opLt (cmpD _) (cmpD _) (pd_const pe_int fun _ _ => .int _) (pd_var (i := 0) rfl (.inl rfl) nd_value nc_value) (pd_var (i := 1) rfl (.inl rfl) nd_most nc_most) rfl)))))
theorem w__law_are_places (G : Gs K mg) (F : Fs P w K mg base k T) : BodyAt P w K mg base k T "_law_are_places" d__law_are_places g__law_are_places := by
  intro f cdv A outer s H E hr
  have tk : Takes (cxOf (L2.CX P w) P w K mg base d__law_are_places.N "_law_are_places" (defScope d__law_are_places.st) f cdv A outer s H E) (fun cls d _ H => E cls d H) := takes_of rfl rfl rfl rfl
  have ow : PassesOwn (model P w) (cxOf (L2.CX P w) P w K mg base d__law_are_places.N "_law_are_places" (defScope d__law_are_places.st) f cdv A outer s H E).A (cxOf (L2.CX P w) P w K mg base d__law_are_places.N "_law_are_places" (defScope d__law_are_places.st) f cdv A outer s H E).env (cxOf (L2.CX P w) P w K mg base d__law_are_places.N "_law_are_places" (defScope d__law_are_places.st) f cdv A outer s H E).xe := passes_of (X := cxOf (L2.CX P w) P w K mg base d__law_are_places.N "_law_are_places" (defScope d__law_are_places.st) f cdv A outer s H E) rfl
  exact (pds_one (pd_ret (pd_and rfl (pd_isi .tuple rfl rfl G.b_isinstance rfl G.b_tuple bt_tuple nn_tuple nd_tuple (pd_var (i := 0) rfl (.inl rfl) nd_value nc_value) rfl rfl) (pe_one (pd_cmp (op_eqD (rm64 hr)) (eqD _) (pd_fz (pd_lc (own := [("part", 2)]) (is := [2]) rfl (by decide) rfl nN__law_are_places (pd_src rfl (pd_var (i := 0) rfl (.inl rfl) nd_value nc_value)) (show blkC d__law_are_places.N (defScope d__law_are_places.st) _ _ = true from by decide +kernel) (fun _ _ _ _ _ => (pdg_name (i := 2) nN__law_are_places rfl (.inl rfl) (.inr rfl))) (fun _ _ _ _ _ => (pts_one (pdt_not (pd_truth rfl (pd_call F.c__law_is_place rfl takes_none5 hr rfl (pda_cons (pd_var (i := 2) rfl (.inl rfl) nd_part nc_part) (pda_cons (pd_var (i := 1) rfl (.inr (.inl rfl)) nd_most nc_most) pda_nil rfl) rfl) nd__law_is_place rfl rfl) fun _ => rfl)))) (fun _ _ _ _ _ => (pd_var (i := 2) rfl (.inl rfl) nd_part nc_part)) fun _ => rfl)) (pd_fz (pd_lst pda_nil)) (nobehind _ (by decide) (by decide)))))))
theorem w__law_is (G : Gs K mg) (F : Fs P w K mg base k T) : BodyAt P w K mg base k T "_law_is" d__law_is g__law_is := by
  intro f cdv A outer s H E hr
  have tk : Takes (cxOf (L2.CX P w) P w K mg base d__law_is.N "_law_is" (defScope d__law_is.st) f cdv A outer s H E) (fun cls d _ H => E cls d H) := takes_of rfl rfl rfl rfl
  have ow : PassesOwn (model P w) (cxOf (L2.CX P w) P w K mg base d__law_is.N "_law_is" (defScope d__law_is.st) f cdv A outer s H E).A (cxOf (L2.CX P w) P w K mg base d__law_is.N "_law_is" (defScope d__law_is.st) f cdv A outer s H E).env (cxOf (L2.CX P w) P w K mg base d__law_is.N "_law_is" (defScope d__law_is.st) f cdv A outer s H E).xe := passes_of (X := cxOf (L2.CX P w) P w K mg base d__law_is.N "_law_is" (defScope d__law_is.st) f cdv A outer s H E) rfl
  exact (pds_one (pd_ret (pd_and rfl (pd_isi .tuple rfl rfl G.b_isinstance rfl G.b_tuple bt_tuple nn_tuple nd_tuple (pd_var (i := 0) rfl (.inl rfl) nd_told nc_told) rfl rfl) (pd_and rfl (pd_cmp (op_eqD (rm64 hr)) (eqD _) (pd_callB call_lenA (lenD _) rfl G.b_len bt_len (pda_cons (pd_var (i := 0) rfl (.inl rfl) nd_told nc_told) pda_nil rfl) nn_len nd_len rfl rfl) (pd_var (i := 2) rfl (.inl rfl) nd_count nc_count) (nobehind _ (by decide) (by decide))) (pd_and rfl (pd_isi .str rfl rfl G.b_isinstance rfl G.b_str bt_str nn_str nd_str (pd_ix rfl (pd_var (i := 0) rfl (.inl rfl) nd_told nc_told) (pd_const pe_int fun _ _ => .int _) fun _ _ => rfl) rfl rfl) (pe_one (pd_cmp (op_eqD (rm64 hr)) (eqD _) (pd_ix rfl (pd_var (i := 0) rfl (.inl rfl) nd_told nc_told) (pd_const pe_int fun _ _ => .int _) fun _ _ => rfl) (pd_var (i := 1) rfl (.inl rfl) nd_word nc_word) (nobehind _ (by decide) (by decide)))))))))
theorem w__law_changed (G : Gs K mg) (F : Fs P w K mg base k T) : BodyAt P w K mg base k T "_law_changed" d__law_changed g__law_changed := by
  intro f cdv A outer s H E hr
  have tk : Takes (cxOf (L2.CX P w) P w K mg base d__law_changed.N "_law_changed" (defScope d__law_changed.st) f cdv A outer s H E) (fun cls d _ H => E cls d H) := takes_of rfl rfl rfl rfl
  have ow : PassesOwn (model P w) (cxOf (L2.CX P w) P w K mg base d__law_changed.N "_law_changed" (defScope d__law_changed.st) f cdv A outer s H E).A (cxOf (L2.CX P w) P w K mg base d__law_changed.N "_law_changed" (defScope d__law_changed.st) f cdv A outer s H E).env (cxOf (L2.CX P w) P w K mg base d__law_changed.N "_law_changed" (defScope d__law_changed.st) f cdv A outer s H E).xe := passes_of (X := cxOf (L2.CX P w) P w K mg base d__law_changed.N "_law_changed" (defScope d__law_changed.st) f cdv A outer s H E) rfl
  exact (pds_cons (pd_if (pd_truth rfl (pd_isi .bool rfl rfl G.b_isinstance rfl G.b_bool bt_bool nn_bool nd_bool (pd_var (i := 1) rfl (.inr (.inl rfl)) nd_value nc_value) rfl rfl) fun _ => rfl) (pds_one (pd_ret (pd_ix rfl (pd_fz (pd_lst (pda_cons (pd_not rfl (pd_var (i := 1) rfl (.inr (.inl rfl)) nd_value nc_value)) (pda_cons (pd_callTy call_intA (intD) rfl G.b_int bt_int (pda_cons (pd_var (i := 1) rfl (.inr (.inl rfl)) nd_value nc_value) pda_nil rfl) nn_int nd_int rfl rfl) pda_nil rfl) rfl))) (pd_callM F.c__law_next rfl tk hr rfl (pda_cons (pd_var (i := 0) rfl (.inl rfl) nd_state nc_state) (pda_cons (pd_const pe_int fun _ _ => .int _) pda_nil rfl) rfl) nd__law_next rfl rfl) fun _ _ => rfl))) pds_nil)
    (pds_cons (pd_if (PW.pt (pdw_or (pdt_isN (pd_var (i := 1) rfl (.inr (.inl rfl)) nd_value nc_value)) (pw_or1 (pd_truth rfl (pd_isi .int rfl rfl G.b_isinstance rfl G.b_int bt_int nn_int nd_int (pd_var (i := 1) rfl (.inr (.inl rfl)) nd_value nc_value) rfl rfl) fun _ => rfl)))) (pds_one (pd_ret (pd_ix rfl (pd_fz (pd_lst (pda_cons (pd_bin op_addD (addD _) (pd_or rfl (pd_var (i := 1) rfl (.inr (.inl rfl)) nd_value nc_value) (pe_one (pd_const pe_int fun _ _ => .int _))) (pd_const pe_int fun _ _ => .int _)) (pda_cons (pd_bin op_sub (subD) (pd_or rfl (pd_var (i := 1) rfl (.inr (.inl rfl)) nd_value nc_value) (pe_one (pd_const pe_int fun _ _ => .int _))) (pd_const pe_int fun _ _ => .int _)) (pda_cons (pd_const pe_int fun _ _ => .int _) (pda_cons (pd_const pe_non fun _ _ => .non) (pda_cons (pd_cmp (op_eqD (rm64 hr)) (eqD _) (pd_var (i := 1) rfl (.inr (.inl rfl)) nd_value nc_value) (pd_const pe_int fun _ _ => .int _) (nobehind _ (by decide) (by decide))) (pda_cons (pd_callTy call_strA (strD) rfl G.b_str bt_str (pda_cons (pd_var (i := 1) rfl (.inr (.inl rfl)) nd_value nc_value) pda_nil rfl) nn_str nd_str rfl rfl) (pda_cons (pd_bin op_mulD (mulD) (pd_const pe_int fun _ _ => .int _) (pd_or rfl (pd_var (i := 1) rfl (.inr (.inl rfl)) nd_value nc_value) (pe_one (pd_const pe_int fun _ _ => .int _)))) pda_nil rfl) rfl) rfl) rfl) rfl) rfl) rfl))) (pd_callM F.c__law_next rfl tk hr rfl (pda_cons (pd_var (i := 0) rfl (.inl rfl) nd_state nc_state) (pda_cons (pd_const pe_int fun _ _ => .int _) pda_nil rfl) rfl) nd__law_next rfl rfl) fun _ _ => rfl))) pds_nil)
    (pds_cons (pd_if (pd_truth rfl (pd_isi .str rfl rfl G.b_isinstance rfl G.b_str bt_str nn_str nd_str (pd_var (i := 1) rfl (.inr (.inl rfl)) nd_value nc_value) rfl rfl) fun _ => rfl) (pds_cons (pd_set (i := 2) nN__law_changed rfl (.inl rfl) (pd_fz (pd_lst (pda_cons (pd_slice rfl (pd_var (i := 1) rfl (.inr (.inl rfl)) nd_value nc_value) (pdp_some (pd_const pe_int fun _ _ => .int _)) pdp_none) (pda_cons (pd_bin op_addD (addD _) (pd_var (i := 1) rfl (.inr (.inl rfl)) nd_value nc_value) (pd_const pe_str fun _ _ => .str _)) (pda_cons (pd_rev rfl (pd_var (i := 1) rfl (.inr (.inl rfl)) nd_value nc_value)) (pda_cons (pd_bin op_addD (addD _) (pd_const pe_str fun _ _ => .str _) (pd_var (i := 1) rfl (.inr (.inl rfl)) nd_value nc_value)) (pda_cons (pd_const pe_str fun _ _ => .str _) (pda_cons (pd_slice rfl (pd_var (i := 1) rfl (.inr (.inl rfl)) nd_value nc_value) pdp_none (pdp_some (pd_neg (pd_const pe_int fun _ _ => .int _)))) (pda_cons (pd_const pe_str fun _ _ => .str _) (pda_cons (pd_const pe_int fun _ _ => .int _) (pda_cons (pd_const pe_str fun _ _ => .str _) pda_nil rfl) rfl) rfl) rfl) rfl) rfl) rfl) rfl) rfl))) rfl (.inr rfl))
    (pds_one (pd_ret (pd_ix rfl (pd_var (i := 2) rfl (.inl rfl) nd_others nc_others) (pd_callM F.c__law_next rfl tk hr rfl (pda_cons (pd_var (i := 0) rfl (.inl rfl) nd_state nc_state) (pda_cons (pd_callB call_lenA (lenD _) rfl G.b_len bt_len (pda_cons (pd_var (i := 2) rfl (.inl rfl) nd_others nc_others) pda_nil rfl) nn_len nd_len rfl rfl) pda_nil rfl) rfl) nd__law_next rfl rfl) fun _ _ => rfl)))) pds_nil)
    (pds_cons (pd_if (PW.pt (pdw_and (pd_truth rfl (pd_isi .tuple rfl rfl G.b_isinstance rfl G.b_tuple bt_tuple nn_tuple nd_tuple (pd_var (i := 1) rfl (.inr (.inl rfl)) nd_value nc_value) rfl rfl) fun _ => rfl) (pdw_and (pdt_cmp (op_neD (rm64 hr)) (neD _) (pd_var (i := 1) rfl (.inr (.inl rfl)) nd_value nc_value) (pd_tup pda_nil) (nobehind _ (by decide) (by decide))) (pw_and1 (pdt_cmp opGt (cmpD _) (pd_callM F.c__law_next rfl tk hr rfl (pda_cons (pd_var (i := 0) rfl (.inl rfl) nd_state nc_state) (pda_cons (pd_const pe_int fun _ _ => .int _) pda_nil rfl) rfl) nd__law_next rfl rfl) (pd_const pe_int fun _ _ => .int _) (nobehind _ (by decide) (by decide))))))) (pds_cons (pd_set (i := 3) nN__law_changed rfl (.inr rfl) (pd_callM F.c__law_next rfl tk hr rfl (pda_cons (pd_var (i := 0) rfl (.inl rfl) nd_state nc_state) (pda_cons (pd_callB call_lenA (lenD _) rfl G.b_len bt_len (pda_cons (pd_var (i := 1) rfl (.inr (.inl rfl)) nd_value nc_value) pda_nil rfl) nn_len nd_len rfl rfl) pda_nil rfl) rfl) nd__law_next rfl rfl) rfl (.inl rfl))
    (pds_one (pd_ret (pd_bin op_addD (addD _) (pd_bin op_addD (addD _) (pd_slice rfl (pd_var (i := 1) rfl (.inr (.inl rfl)) nd_value nc_value) pdp_none (pdp_some (pd_var (i := 3) rfl (.inr (.inl rfl)) nd_k nc_k))) (pd_tup (pda_cons (pd_callM F.c__law_changed rfl tk hr rfl (pda_cons (pd_var (i := 0) rfl (.inl rfl) nd_state nc_state) (pda_cons (pd_ix rfl (pd_var (i := 1) rfl (.inr (.inl rfl)) nd_value nc_value) (pd_var (i := 3) rfl (.inr (.inl rfl)) nd_k nc_k) fun _ _ => rfl) pda_nil rfl) rfl) nd__law_changed rfl rfl) pda_nil rfl))) (pd_slice rfl (pd_var (i := 1) rfl (.inr (.inl rfl)) nd_value nc_value) (pdp_some (pd_bin op_addD (addD _) (pd_var (i := 3) rfl (.inr (.inl rfl)) nd_k nc_k) (pd_const pe_int fun _ _ => .int _))) pdp_none))))) pds_nil)
    (pds_cons (pd_if (pdt_not (pd_truth rfl (pd_isi .tuple rfl rfl G.b_isinstance rfl G.b_tuple bt_tuple nn_tuple nd_tuple (pd_var (i := 1) rfl (.inr (.inl rfl)) nd_value nc_value) rfl rfl) fun _ => rfl)) (pds_one (pd_ret (pd_tup pda_nil))) pds_nil)
    (pds_cons (pd_set (i := 3) nN__law_changed rfl (.inr rfl) (pd_callM F.c__law_next rfl tk hr rfl (pda_cons (pd_var (i := 0) rfl (.inl rfl) nd_state nc_state) (pda_cons (pd_bin op_addD (addD _) (pd_callB call_lenA (lenD _) rfl G.b_len bt_len (pda_cons (pd_var (i := 1) rfl (.inr (.inl rfl)) nd_value nc_value) pda_nil rfl) nn_len nd_len rfl rfl) (pd_const pe_int fun _ _ => .int _)) pda_nil rfl) rfl) nd__law_next rfl rfl) rfl (.inl rfl))
    (pds_cons (pd_set (i := 4) nN__law_changed rfl (.inr rfl) (pd_callM F.c__law_next rfl tk hr rfl (pda_cons (pd_var (i := 0) rfl (.inl rfl) nd_state nc_state) (pda_cons (pd_bin op_addD (addD _) (pd_callB call_lenA (lenD _) rfl G.b_len bt_len (pda_cons (pd_var (i := 1) rfl (.inr (.inl rfl)) nd_value nc_value) pda_nil rfl) nn_len nd_len rfl rfl) (pd_const pe_int fun _ _ => .int _)) pda_nil rfl) rfl) nd__law_next rfl rfl) rfl (.inl rfl))
    (pds_cons (pd_set (i := 5) nN__law_changed rfl (.inl rfl) (pd_fz (pd_lst (pda_cons (pd_bin op_addD (addD _) (pd_slice rfl (pd_var (i := 1) rfl (.inr (.inl rfl)) nd_value nc_value) pdp_none (pdp_some (pd_var (i := 3) rfl (.inr (.inl rfl)) nd_k nc_k))) (pd_slice rfl (pd_var (i := 1) rfl (.inr (.inl rfl)) nd_value nc_value) (pdp_some (pd_bin op_addD (addD _) (pd_var (i := 3) rfl (.inr (.inl rfl)) nd_k nc_k) (pd_const pe_int fun _ _ => .int _))) pdp_none)) (pda_cons (pd_bin op_addD (addD _) (pd_var (i := 1) rfl (.inr (.inl rfl)) nd_value nc_value) (pd_slice rfl (pd_var (i := 1) rfl (.inr (.inl rfl)) nd_value nc_value) pdp_none (pdp_some (pd_const pe_int fun _ _ => .int _)))) (pda_cons (pd_rev rfl (pd_var (i := 1) rfl (.inr (.inl rfl)) nd_value nc_value)) (pda_cons (pd_bin op_addD (addD _) (pd_slice rfl (pd_var (i := 1) rfl (.inr (.inl rfl)) nd_value nc_value) (pdp_some (pd_var (i := 3) rfl (.inr (.inl rfl)) nd_k nc_k)) pdp_none) (pd_slice rfl (pd_var (i := 1) rfl (.inr (.inl rfl)) nd_value nc_value) pdp_none (pdp_some (pd_var (i := 3) rfl (.inr (.inl rfl)) nd_k nc_k)))) (pda_cons (pd_fz (pd_listOf rfl rfl G.b_list (pd_var (i := 1) rfl (.inr (.inl rfl)) nd_value nc_value) rfl rfl)) (pda_cons (pd_slice rfl (pd_var (i := 1) rfl (.inr (.inl rfl)) nd_value nc_value) pdp_none (pdp_some (pd_var (i := 3) rfl (.inr (.inl rfl)) nd_k nc_k))) (pda_cons (pd_tup pda_nil) (pda_cons (pd_bin op_addD (addD _) (pd_var (i := 1) rfl (.inr (.inl rfl)) nd_value nc_value) (pd_tup (pda_cons (pd_const pe_int fun _ _ => .int _) pda_nil rfl))) pda_nil rfl) rfl) rfl) rfl) rfl) rfl) rfl) rfl))) rfl (.inr rfl))
    (pds_cons (pd_if (pdt_chain opLt opLt (cmpD _) (cmpD _) (pd_var (i := 3) rfl (.inr (.inl rfl)) nd_k nc_k) (pd_var (i := 4) rfl (.inr (.inl rfl)) nd_j nc_j) (pd_callB call_lenA (lenD _) rfl G.b_len bt_len (pda_cons (pd_var (i := 1) rfl (.inr (.inl rfl)) nd_value nc_value) pda_nil rfl) nn_len nd_len rfl rfl) rfl) (pds_one (pd_set (i := 5) nN__law_changed rfl (.inl rfl) (pd_bin op_addD (addD _) (pd_var (i := 5) rfl (.inl rfl) nd_more nc_more) (pd_fz (pd_lc (own := [("turn", 6)]) (is := [6]) rfl (by decide) rfl nN__law_changed (pd_range1 rfl G.b_range (pda_cons (pd_const pe_int fun _ _ => .int _) pda_nil rfl) rfl) (show blkC d__law_changed.N (defScope d__law_changed.st) _ _ = true from by decide +kernel) (fun _ _ _ _ _ => (pdg_name (i := 6) nN__law_changed rfl (.inl rfl) (.inr rfl))) (fun _ _ _ _ _ => pdts_nil) (fun _ _ _ _ _ => (pd_bin op_addD (addD _) (pd_bin op_addD (addD _) (pd_bin op_addD (addD _) (pd_bin op_addD (addD _) (pd_slice rfl (pd_var (i := 1) rfl (.inr (.inl rfl)) nd_value nc_value) pdp_none (pdp_some (pd_var (i := 3) rfl (.inr (.inl rfl)) nd_k nc_k))) (pd_slice rfl (pd_var (i := 1) rfl (.inr (.inl rfl)) nd_value nc_value) (pdp_some (pd_var (i := 4) rfl (.inr (.inl rfl)) nd_j nc_j)) (pdp_some (pd_bin op_addD (addD _) (pd_var (i := 4) rfl (.inr (.inl rfl)) nd_j nc_j) (pd_const pe_int fun _ _ => .int _))))) (pd_slice rfl (pd_var (i := 1) rfl (.inr (.inl rfl)) nd_value nc_value) (pdp_some (pd_bin op_addD (addD _) (pd_var (i := 3) rfl (.inr (.inl rfl)) nd_k nc_k) (pd_const pe_int fun _ _ => .int _))) (pdp_some (pd_var (i := 4) rfl (.inr (.inl rfl)) nd_j nc_j)))) (pd_slice rfl (pd_var (i := 1) rfl (.inr (.inl rfl)) nd_value nc_value) (pdp_some (pd_var (i := 3) rfl (.inr (.inl rfl)) nd_k nc_k)) (pdp_some (pd_bin op_addD (addD _) (pd_var (i := 3) rfl (.inr (.inl rfl)) nd_k nc_k) (pd_const pe_int fun _ _ => .int _))))) (pd_slice rfl (pd_var (i := 1) rfl (.inr (.inl rfl)) nd_value nc_value) (pdp_some (pd_bin op_addD (addD _) (pd_var (i := 4) rfl (.inr (.inl rfl)) nd_j nc_j) (pd_const pe_int fun _ _ => .int _))) pdp_none))) fun _ => rfl))) rfl (.inr rfl))) pds_nil)
    (pds_one (pd_ret (pd_ix rfl (pd_var (i := 5) rfl (.inl rfl) nd_more nc_more) (pd_callM F.c__law_next rfl tk hr rfl (pda_cons (pd_var (i := 0) rfl (.inl rfl) nd_state nc_state) (pda_cons (pd_callB call_lenA (lenD _) rfl G.b_len bt_len (pda_cons (pd_var (i := 5) rfl (.inl rfl) nd_more nc_more) pda_nil rfl) nn_len nd_len rfl rfl) pda_nil rfl) rfl) nd__law_next rfl rfl) fun _ _ => rfl))))))))))))
theorem w__law_ints (G : Gs K mg) (F : Fs P w K mg base k T) : BodyAt P w K mg base k T "_law_ints" d__law_ints g__law_ints := by
  intro f cdv A outer s H E hr
  have tk : Takes (cxOf (L2.CX P w) P w K mg base d__law_ints.N "_law_ints" (defScope d__law_ints.st) f cdv A outer s H E) (fun cls d _ H => E cls d H) := takes_of rfl rfl rfl rfl
  have ow : PassesOwn (model P w) (cxOf (L2.CX P w) P w K mg base d__law_ints.N "_law_ints" (defScope d__law_ints.st) f cdv A outer s H E).A (cxOf (L2.CX P w) P w K mg base d__law_ints.N "_law_ints" (defScope d__law_ints.st) f cdv A outer s H E).env (cxOf (L2.CX P w) P w K mg base d__law_ints.N "_law_ints" (defScope d__law_ints.st) f cdv A outer s H E).xe := passes_of (X := cxOf (L2.CX P w) P w K mg base d__law_ints.N "_law_ints" (defScope d__law_ints.st) f cdv A outer s H E) rfl
  exact (pds_cons (pd_if (PW.pt (pdw_or (pd_truth rfl (pd_isi .bool rfl rfl G.b_isinstance rfl G.b_bool bt_bool nn_bool nd_bool (pd_var (i := 0) rfl (.inl rfl) nd_value nc_value) rfl rfl) fun _ => rfl) (pw_or1 (pdt_not (pd_truth rfl (pd_isi2 .int .tuple rfl rfl G.b_isinstance rfl G.b_int bt_int nn_int nd_int rfl G.b_tuple bt_tuple nn_tuple nd_tuple (pd_var (i := 0) rfl (.inl rfl) nd_value nc_value) rfl rfl) fun _ => rfl))))) (pds_one (pd_ret (pd_fz (pd_lst pda_nil)))) pds_nil)
    (pds_cons (pd_if (pd_truth rfl (pd_isi .int rfl rfl G.b_isinstance rfl G.b_int bt_int nn_int nd_int (pd_var (i := 0) rfl (.inl rfl) nd_value nc_value) rfl rfl) fun _ => rfl) (pds_one (pd_ret (pd_fz (pd_lst (pda_cons (pd_var (i := 0) rfl (.inl rfl) nd_value nc_value) pda_nil rfl))))) pds_nil)
    (pds_cons (pd_set (i := 1) nN__law_ints rfl (.inr rfl) (pd_fz (pd_lst pda_nil)) rfl (.inl rfl))
    (pds_cons (pd_for ow rfl (pd_src rfl (pd_var (i := 0) rfl (.inl rfl) nd_value nc_value)) (pdg_name (i := 2) nN__law_ints rfl (.inl rfl) (.inr rfl)) (pds_one (pd_set (i := 1) nN__law_ints rfl (.inr rfl) (pd_bin op_addD (addD _) (pd_var (i := 1) rfl (.inr (.inl rfl)) nd_found nc_found) (pd_fz (pd_lc (own := [("number", 3)]) (is := [3]) rfl (by decide) rfl nN__law_ints (pd_src rfl (pd_call F.c__law_ints rfl tk hr rfl (pda_cons (pd_var (i := 2) rfl (.inl rfl) nd_part nc_part) pda_nil rfl) nd__law_ints rfl rfl)) (show blkC d__law_ints.N (defScope d__law_ints.st) _ _ = true from by decide +kernel) (fun _ _ _ _ _ => (pdg_name (i := 3) nN__law_ints rfl (.inl rfl) (.inr rfl))) (fun _ _ _ _ _ => (pts_one (pdt_cmp (op_notInE (rm65 hr)) (notInD _) (pd_var (i := 3) rfl (.inl rfl) nd_number nc_number) (pd_var (i := 1) rfl (.inr (.inl rfl)) nd_found nc_found) rfl))) (fun _ _ _ _ _ => (pd_var (i := 3) rfl (.inl rfl) nd_number nc_number)) fun _ => rfl))) rfl (.inl rfl))) fun _ => rfl)
    (pds_one (pd_ret (pd_var (i := 1) rfl (.inr (.inl rfl)) nd_found nc_found)))))))
theorem w__law_exchanged (G : Gs K mg) (F : Fs P w K mg base k T) : BodyAt P w K mg base k T "_law_exchanged" d__law_exchanged g__law_exchanged := by
  intro f cdv A outer s H E hr
  have tk : Takes (cxOf (L2.CX P w) P w K mg base d__law_exchanged.N "_law_exchanged" (defScope d__law_exchanged.st) f cdv A outer s H E) (fun cls d _ H => E cls d H) := takes_of rfl rfl rfl rfl
  have ow : PassesOwn (model P w) (cxOf (L2.CX P w) P w K mg base d__law_exchanged.N "_law_exchanged" (defScope d__law_exchanged.st) f cdv A outer s H E).A (cxOf (L2.CX P w) P w K mg base d__law_exchanged.N "_law_exchanged" (defScope d__law_exchanged.st) f cdv A outer s H E).env (cxOf (L2.CX P w) P w K mg base d__law_exchanged.N "_law_exchanged" (defScope d__law_exchanged.st) f cdv A outer s H E).xe := passes_of (X := cxOf (L2.CX P w) P w K mg base d__law_exchanged.N "_law_exchanged" (defScope d__law_exchanged.st) f cdv A outer s H E) rfl
  exact (pds_cons (pd_if (PW.pt (pdw_or (pd_truth rfl (pd_isi .bool rfl rfl G.b_isinstance rfl G.b_bool bt_bool nn_bool nd_bool (pd_var (i := 0) rfl (.inl rfl) nd_value nc_value) rfl rfl) fun _ => rfl) (pw_or1 (pdt_not (pd_truth rfl (pd_isi2 .int .tuple rfl rfl G.b_isinstance rfl G.b_int bt_int nn_int nd_int rfl G.b_tuple bt_tuple nn_tuple nd_tuple (pd_var (i := 0) rfl (.inl rfl) nd_value nc_value) rfl rfl) fun _ => rfl))))) (pds_one (pd_ret (pd_var (i := 0) rfl (.inl rfl) nd_value nc_value))) pds_nil)
    (pds_cons (pd_if (pd_truth rfl (pd_isi .int rfl rfl G.b_isinstance rfl G.b_int bt_int nn_int nd_int (pd_var (i := 0) rfl (.inl rfl) nd_value nc_value) rfl rfl) fun _ => rfl) (pds_one (pd_ret (pd_ifExp (pdt_cmp (op_eqD (rm64 hr)) (eqD _) (pd_var (i := 0) rfl (.inl rfl) nd_value nc_value) (pd_var (i := 1) rfl (.inr (.inl rfl)) nd_one nc_one) (nobehind _ (by decide) (by decide))) (pd_var (i := 2) rfl (.inr (.inl rfl)) nd_other nc_other) (pd_ifExp (pdt_cmp (op_eqD (rm64 hr)) (eqD _) (pd_var (i := 0) rfl (.inl rfl) nd_value nc_value) (pd_var (i := 2) rfl (.inr (.inl rfl)) nd_other nc_other) (nobehind _ (by decide) (by decide))) (pd_var (i := 1) rfl (.inr (.inl rfl)) nd_one nc_one) (pd_var (i := 0) rfl (.inl rfl) nd_value nc_value))))) pds_nil)
    (pds_one (pd_ret (pd_callTy call_tupA (tupD _) rfl G.b_tuple bt_tuple (pda_cons (pd_fz (pd_lc (own := [("part", 3)]) (is := [3]) rfl (by decide) rfl nN__law_exchanged (pd_src rfl (pd_var (i := 0) rfl (.inl rfl) nd_value nc_value)) (show blkC d__law_exchanged.N (defScope d__law_exchanged.st) _ _ = true from by decide +kernel) (fun _ _ _ _ _ => (pdg_name (i := 3) nN__law_exchanged rfl (.inl rfl) (.inr rfl))) (fun _ _ _ _ _ => pdts_nil) (fun _ _ _ _ _ => (pd_call F.c__law_exchanged rfl takes_none5 hr rfl (pda_cons (pd_var (i := 3) rfl (.inl rfl) nd_part nc_part) (pda_cons (pd_var (i := 1) rfl (.inr (.inl rfl)) nd_one nc_one) (pda_cons (pd_var (i := 2) rfl (.inr (.inl rfl)) nd_other nc_other) pda_nil rfl) rfl) rfl) nd__law_exchanged rfl rfl)) fun _ => rfl)) pda_nil rfl) nn_tuple nd_tuple rfl rfl)))))
theorem w__law_cut (G : Gs K mg) (F : Fs P w K mg base k T) : BodyAt P w K mg base k T "_law_cut" d__law_cut g__law_cut := by
  intro f cdv A outer s H E hr
  have tk : Takes (cxOf (L2.CX P w) P w K mg base d__law_cut.N "_law_cut" (defScope d__law_cut.st) f cdv A outer s H E) (fun cls d _ H => E cls d H) := takes_of rfl rfl rfl rfl
  have ow : PassesOwn (model P w) (cxOf (L2.CX P w) P w K mg base d__law_cut.N "_law_cut" (defScope d__law_cut.st) f cdv A outer s H E).A (cxOf (L2.CX P w) P w K mg base d__law_cut.N "_law_cut" (defScope d__law_cut.st) f cdv A outer s H E).env (cxOf (L2.CX P w) P w K mg base d__law_cut.N "_law_cut" (defScope d__law_cut.st) f cdv A outer s H E).xe := passes_of (X := cxOf (L2.CX P w) P w K mg base d__law_cut.N "_law_cut" (defScope d__law_cut.st) f cdv A outer s H E) rfl
  exact (pds_cons (pd_if (PW.pt (pdw_or (pdt_not (pd_truth rfl (pd_isi .tuple rfl rfl G.b_isinstance rfl G.b_tuple bt_tuple nn_tuple nd_tuple (pd_var (i := 1) rfl (.inl rfl) nd_value nc_value) rfl rfl) fun _ => rfl)) (pw_or1 (pdt_cmp (op_eqD (rm64 hr)) (eqD _) (pd_var (i := 1) rfl (.inl rfl) nd_value nc_value) (pd_tup pda_nil) (nobehind _ (by decide) (by decide)))))) (pds_one (pd_ret (pd_var (i := 1) rfl (.inl rfl) nd_value nc_value))) pds_nil)
    (pds_cons (pd_if (pdt_cmp (op_neD (rm64 hr)) (neD _) (pd_fz (pd_lc (own := [("part", 2)]) (is := [2]) rfl (by decide) rfl nN__law_cut (pd_src rfl (pd_var (i := 1) rfl (.inl rfl) nd_value nc_value)) (show blkC d__law_cut.N (defScope d__law_cut.st) _ _ = true from by decide +kernel) (fun _ _ _ _ _ => (pdg_name (i := 2) nN__law_cut rfl (.inl rfl) (.inr rfl))) (fun _ _ _ _ _ => (pts_one (pdt_not (pd_truth rfl (pd_isi .str rfl rfl G.b_isinstance rfl G.b_str bt_str nn_str nd_str (pd_var (i := 2) rfl (.inl rfl) nd_part nc_part) rfl rfl) fun _ => rfl)))) (fun _ _ _ _ _ => (pd_var (i := 2) rfl (.inl rfl) nd_part nc_part)) fun _ => rfl)) (pd_fz (pd_lst pda_nil)) (nobehind _ (by decide) (by decide))) (pds_cons (pd_set (i := 3) nN__law_cut rfl (.inl rfl) (pd_callM F.c__law_next rfl tk hr rfl (pda_cons (pd_var (i := 0) rfl (.inl rfl) nd_state nc_state) (pda_cons (pd_callB call_lenA (lenD _) rfl G.b_len bt_len (pda_cons (pd_var (i := 1) rfl (.inl rfl) nd_value nc_value) pda_nil rfl) nn_len nd_len rfl rfl) pda_nil rfl) rfl) nd__law_next rfl rfl) rfl (.inr rfl))
    (pds_one (pd_ret (pd_bin op_addD (addD _) (pd_bin op_addD (addD _) (pd_slice rfl (pd_var (i := 1) rfl (.inl rfl) nd_value nc_value) pdp_none (pdp_some (pd_var (i := 3) rfl (.inl rfl) nd_k nc_k))) (pd_tup (pda_cons (pd_callM F.c__law_cut rfl tk hr rfl (pda_cons (pd_var (i := 0) rfl (.inl rfl) nd_state nc_state) (pda_cons (pd_ix rfl (pd_var (i := 1) rfl (.inl rfl) nd_value nc_value) (pd_var (i := 3) rfl (.inl rfl) nd_k nc_k) fun _ _ => rfl) pda_nil rfl) rfl) nd__law_cut rfl rfl) pda_nil rfl))) (pd_slice rfl (pd_var (i := 1) rfl (.inl rfl) nd_value nc_value) (pdp_some (pd_bin op_addD (addD _) (pd_var (i := 3) rfl (.inl rfl) nd_k nc_k) (pd_const pe_int fun _ _ => .int _))) pdp_none))))) pds_nil)
    (pds_cons (pd_set (i := 3) nN__law_cut rfl (.inl rfl) (pd_callM F.c__law_next rfl tk hr rfl (pda_cons (pd_var (i := 0) rfl (.inl rfl) nd_state nc_state) (pda_cons (pd_callB call_lenA (lenD _) rfl G.b_len bt_len (pda_cons (pd_var (i := 1) rfl (.inl rfl) nd_value nc_value) pda_nil rfl) nn_len nd_len rfl rfl) pda_nil rfl) rfl) nd__law_next rfl rfl) rfl (.inr rfl))
    (pds_cons (pd_set (i := 4) nN__law_cut rfl (.inl rfl) (pd_callM F.c__law_next rfl tk hr rfl (pda_cons (pd_var (i := 0) rfl (.inl rfl) nd_state nc_state) (pda_cons (pd_bin op_addD (addD _) (pd_callB call_lenA (lenD _) rfl G.b_len bt_len (pda_cons (pd_ix rfl (pd_var (i := 1) rfl (.inl rfl) nd_value nc_value) (pd_var (i := 3) rfl (.inl rfl) nd_k nc_k) fun _ _ => rfl) pda_nil rfl) nn_len nd_len rfl rfl) (pd_const pe_int fun _ _ => .int _)) pda_nil rfl) rfl) nd__law_next rfl rfl) rfl (.inr rfl))
    (pds_cons (pd_set (i := 5) nN__law_cut rfl (.inl rfl) (pd_fz (pd_lst (pda_cons (pd_bin op_addD (addD _) (pd_bin op_addD (addD _) (pd_slice rfl (pd_var (i := 1) rfl (.inl rfl) nd_value nc_value) pdp_none (pdp_some (pd_var (i := 3) rfl (.inl rfl) nd_k nc_k))) (pd_tup (pda_cons (pd_slice rfl (pd_ix rfl (pd_var (i := 1) rfl (.inl rfl) nd_value nc_value) (pd_var (i := 3) rfl (.inl rfl) nd_k nc_k) fun _ _ => rfl) pdp_none (pdp_some (pd_var (i := 4) rfl (.inl rfl) nd_at nc_at))) (pda_cons (pd_slice rfl (pd_ix rfl (pd_var (i := 1) rfl (.inl rfl) nd_value nc_value) (pd_var (i := 3) rfl (.inl rfl) nd_k nc_k) fun _ _ => rfl) (pdp_some (pd_var (i := 4) rfl (.inl rfl) nd_at nc_at)) pdp_none) pda_nil rfl) rfl))) (pd_slice rfl (pd_var (i := 1) rfl (.inl rfl) nd_value nc_value) (pdp_some (pd_bin op_addD (addD _) (pd_var (i := 3) rfl (.inl rfl) nd_k nc_k) (pd_const pe_int fun _ _ => .int _))) pdp_none)) (pda_cons (pd_bin op_addD (addD _) (pd_bin op_addD (addD _) (pd_slice rfl (pd_var (i := 1) rfl (.inl rfl) nd_value nc_value) pdp_none (pdp_some (pd_var (i := 3) rfl (.inl rfl) nd_k nc_k))) (pd_tup (pda_cons pe_bad pda_nil rfl))) (pd_slice rfl (pd_var (i := 1) rfl (.inl rfl) nd_value nc_value) (pdp_some (pd_bin op_addD (addD _) (pd_var (i := 3) rfl (.inl rfl) nd_k nc_k) (pd_const pe_int fun _ _ => .int _))) pdp_none)) pda_nil rfl) rfl))) rfl (.inr rfl))
    (pds_cons (pd_set (i := 5) nN__law_cut rfl (.inl rfl) (pd_bin op_addD (addD _) (pd_var (i := 5) rfl (.inl rfl) nd_ways nc_ways) (pd_fz (pd_lst (pda_cons (pd_tup (pda_cons pe_bad pda_nil rfl)) (pda_cons (pd_callTy call_tupA (tupD _) rfl G.b_tuple bt_tuple (pda_cons pe_bad pda_nil rfl) nn_tuple nd_tuple rfl rfl) (pda_cons (pd_bin op_addD (addD _) (pd_bin op_addD (addD _) (pd_slice rfl (pd_var (i := 1) rfl (.inl rfl) nd_value nc_value) pdp_none (pdp_some (pd_var (i := 3) rfl (.inl rfl) nd_k nc_k))) (pd_tup (pda_cons (pd_const pe_str fun _ _ => .str _) pda_nil rfl))) (pd_slice rfl (pd_var (i := 1) rfl (.inl rfl) nd_value nc_value) (pdp_some (pd_var (i := 3) rfl (.inl rfl) nd_k nc_k)) pdp_none)) (pda_cons (pd_bin op_addD (addD _) (pd_bin op_addD (addD _) (pd_slice rfl (pd_var (i := 1) rfl (.inl rfl) nd_value nc_value) pdp_none (pdp_some (pd_var (i := 3) rfl (.inl rfl) nd_k nc_k))) (pd_rev rfl (pd_slice rfl (pd_var (i := 1) rfl (.inl rfl) nd_value nc_value) (pdp_some (pd_var (i := 3) rfl (.inl rfl) nd_k nc_k)) (pdp_some (pd_bin op_addD (addD _) (pd_var (i := 3) rfl (.inl rfl) nd_k nc_k) (pd_const pe_int fun _ _ => .int _)))))) (pd_slice rfl (pd_var (i := 1) rfl (.inl rfl) nd_value nc_value) (pdp_some (pd_bin op_addD (addD _) (pd_var (i := 3) rfl (.inl rfl) nd_k nc_k) (pd_const pe_int fun _ _ => .int _))) pdp_none)) pda_nil rfl) rfl) rfl) rfl)))) rfl (.inr rfl))
    (pds_one (pd_ret (pd_ix rfl (pd_var (i := 5) rfl (.inl rfl) nd_ways nc_ways) (pd_callM F.c__law_next rfl tk hr rfl (pda_cons (pd_var (i := 0) rfl (.inl rfl) nd_state nc_state) (pda_cons (pd_callB call_lenA (lenD _) rfl G.b_len bt_len (pda_cons (pd_var (i := 5) rfl (.inl rfl) nd_ways nc_ways) pda_nil rfl) nn_len nd_len rfl rfl) pda_nil rfl) rfl) nd__law_next rfl rfl) fun _ _ => rfl)))))))))
theorem w__law_turned_about (G : Gs K mg) (F : Fs P w K mg base k T) : BodyAt P w K mg base k T "_law_turned_about" d__law_turned_about g__law_turned_about := by
  intro f cdv A outer s H E hr
  have tk : Takes (cxOf (L2.CX P w) P w K mg base d__law_turned_about.N "_law_turned_about" (defScope d__law_turned_about.st) f cdv A outer s H E) (fun cls d _ H => E cls d H) := takes_of rfl rfl rfl rfl
  have ow : PassesOwn (model P w) (cxOf (L2.CX P w) P w K mg base d__law_turned_about.N "_law_turned_about" (defScope d__law_turned_about.st) f cdv A outer s H E).A (cxOf (L2.CX P w) P w K mg base d__law_turned_about.N "_law_turned_about" (defScope d__law_turned_about.st) f cdv A outer s H E).env (cxOf (L2.CX P w) P w K mg base d__law_turned_about.N "_law_turned_about" (defScope d__law_turned_about.st) f cdv A outer s H E).xe := passes_of (X := cxOf (L2.CX P w) P w K mg base d__law_turned_about.N "_law_turned_about" (defScope d__law_turned_about.st) f cdv A outer s H E) rfl
  exact (pds_cons (pd_set (i := 2) nN__law_turned_about rfl (.inl rfl) (pd_call F.c__law_ints rfl tk hr rfl (pda_cons (pd_var (i := 1) rfl (.inl rfl) nd_told nc_told) pda_nil rfl) nd__law_ints rfl rfl) rfl (.inr rfl))
    (pds_cons (pd_set (i := 3) nN__law_turned_about rfl (.inl rfl) (pd_callM F.c__law_next rfl tk hr rfl (pda_cons (pd_var (i := 0) rfl (.inr (.inl rfl)) nd_state nc_state) (pda_cons (pd_const pe_int fun _ _ => .int _) pda_nil rfl) rfl) nd__law_next rfl rfl) rfl (.inr rfl))
    (pds_cons (pd_if (PW.pt (pdw_and (pdt_cmp opLt (cmpD _) (pd_var (i := 3) rfl (.inl rfl) nd_pick nc_pick) (pd_const pe_int fun _ _ => .int _) (nobehind _ (by decide) (by decide))) (pw_and1 (pdt_cmp (op_neD (rm64 hr)) (neD _) (pd_var (i := 2) rfl (.inl rfl) nd_numbers nc_numbers) (pd_fz (pd_lst pda_nil)) (nobehind _ (by decide) (by decide)))))) (pds_cons (pd_set (i := 4) nN__law_turned_about rfl (.inl rfl) (pd_ix rfl (pd_var (i := 2) rfl (.inl rfl) nd_numbers nc_numbers) (pd_callM F.c__law_next rfl tk hr rfl (pda_cons (pd_var (i := 0) rfl (.inr (.inl rfl)) nd_state nc_state) (pda_cons (pd_callB call_lenA (lenD _) rfl G.b_len bt_len (pda_cons (pd_var (i := 2) rfl (.inl rfl) nd_numbers nc_numbers) pda_nil rfl) nn_len nd_len rfl rfl) pda_nil rfl) rfl) nd__law_next rfl rfl) fun _ _ => rfl) rfl (.inr rfl))
    (pds_cons (pd_set (i := 5) nN__law_turned_about rfl (.inl rfl) (pd_ifExp (pdt_cmp (op_eqD (rm64 hr)) (eqD _) (pd_var (i := 3) rfl (.inl rfl) nd_pick nc_pick) (pd_const pe_int fun _ _ => .int _) (nobehind _ (by decide) (by decide))) (pd_bin op_addD (addD _) (pd_var (i := 4) rfl (.inl rfl) nd_one nc_one) (pd_const pe_int fun _ _ => .int _)) (pd_ix rfl (pd_var (i := 2) rfl (.inl rfl) nd_numbers nc_numbers) (pd_callM F.c__law_next rfl tk hr rfl (pda_cons (pd_var (i := 0) rfl (.inr (.inl rfl)) nd_state nc_state) (pda_cons (pd_callB call_lenA (lenD _) rfl G.b_len bt_len (pda_cons (pd_var (i := 2) rfl (.inl rfl) nd_numbers nc_numbers) pda_nil rfl) nn_len nd_len rfl rfl) pda_nil rfl) rfl) nd__law_next rfl rfl) fun _ _ => rfl)) rfl (.inr rfl))
    (pds_one (pd_ret (pd_call F.c__law_exchanged rfl tk hr rfl (pda_cons (pd_var (i := 1) rfl (.inl rfl) nd_told nc_told) (pda_cons (pd_var (i := 4) rfl (.inl rfl) nd_one nc_one) (pda_cons (pd_var (i := 5) rfl (.inl rfl) nd_other nc_other) pda_nil rfl) rfl) rfl) nd__law_exchanged rfl rfl))))) pds_nil)
    (pds_cons (pd_if (pdt_cmp (op_eqD (rm64 hr)) (eqD _) (pd_var (i := 3) rfl (.inl rfl) nd_pick nc_pick) (pd_const pe_int fun _ _ => .int _) (nobehind _ (by decide) (by decide))) (pds_one (pd_ret (pd_bin op_addD (addD _) (pd_slice rfl (pd_var (i := 1) rfl (.inl rfl) nd_told nc_told) pdp_none (pdp_some (pd_const pe_int fun _ _ => .int _))) (pd_ifExp (pdt_cmp opGt (cmpD _) (pd_callB call_lenA (lenD _) rfl G.b_len bt_len (pda_cons (pd_var (i := 1) rfl (.inl rfl) nd_told nc_told) pda_nil rfl) nn_len nd_len rfl rfl) (pd_const pe_int fun _ _ => .int _) (nobehind _ (by decide) (by decide))) (pd_callM F.c__law_cut rfl tk hr rfl (pda_cons (pd_var (i := 0) rfl (.inr (.inl rfl)) nd_state nc_state) (pda_cons (pd_slice rfl (pd_var (i := 1) rfl (.inl rfl) nd_told nc_told) (pdp_some (pd_const pe_int fun _ _ => .int _)) pdp_none) pda_nil rfl) rfl) nd__law_cut rfl rfl) (pd_callTy call_tupA (tupD _) rfl G.b_tuple bt_tuple (pda_cons (pd_fz (pd_lc (own := [("part", 6)]) (is := [6]) rfl (by decide) rfl nN__law_turned_about (pd_src rfl (pd_slice rfl (pd_var (i := 1) rfl (.inl rfl) nd_told nc_told) (pdp_some (pd_const pe_int fun _ _ => .int _)) pdp_none)) (show blkC d__law_turned_about.N (defScope d__law_turned_about.st) _ _ = true from by decide +kernel) (fun _ _ _ _ _ => (pdg_name (i := 6) nN__law_turned_about rfl (.inl rfl) (.inr rfl))) (fun _ _ _ _ _ => pdts_nil) (fun _ _ _ _ _ => (pd_callM F.c__law_cut rfl takes_none5 hr rfl (pda_cons (pd_var (i := 0) rfl (.inr (.inl rfl)) nd_state nc_state) (pda_cons (pd_var (i := 6) rfl (.inl rfl) nd_part nc_part) pda_nil rfl) rfl) nd__law_cut rfl rfl)) fun _ => rfl)) pda_nil rfl) nn_tuple nd_tuple rfl rfl))))) pds_nil)
    (pds_cons (pd_par2 (i := 7) (j := 8) rfl nN__law_turned_about rfl rfl (by decide) rfl rfl (pda_cons (pd_callM F.c__law_next rfl tk hr rfl (pda_cons (pd_var (i := 0) rfl (.inr (.inl rfl)) nd_state nc_state) (pda_cons (pd_callB call_lenA (lenD _) rfl G.b_len bt_len (pda_cons (pd_var (i := 1) rfl (.inl rfl) nd_told nc_told) pda_nil rfl) nn_len nd_len rfl rfl) pda_nil rfl) rfl) nd__law_next rfl rfl) (pda_cons (pd_callM F.c__law_next rfl tk hr rfl (pda_cons (pd_var (i := 0) rfl (.inr (.inl rfl)) nd_state nc_state) (pda_cons (pd_callB call_lenA (lenD _) rfl G.b_len bt_len (pda_cons (pd_var (i := 1) rfl (.inl rfl) nd_told nc_told) pda_nil rfl) nn_len nd_len rfl rfl) pda_nil rfl) rfl) nd__law_next rfl rfl) pda_nil rfl) rfl) rfl rfl)
    (pds_cons (pd_if (PW.pt (pdw_and (pdt_cmp (op_eqD (rm64 hr)) (eqD _) (pd_callB call_lenA (lenD _) rfl G.b_len bt_len (pda_cons (pd_var (i := 1) rfl (.inl rfl) nd_told nc_told) pda_nil rfl) nn_len nd_len rfl rfl) (pd_const pe_int fun _ _ => .int _) (nobehind _ (by decide) (by decide))) (pdw_and (pd_truth rfl (pd_isi .tuple rfl rfl G.b_isinstance rfl G.b_tuple bt_tuple nn_tuple nd_tuple (pd_ix rfl (pd_var (i := 1) rfl (.inl rfl) nd_told nc_told) (pd_const pe_int fun _ _ => .int _) fun _ _ => rfl) rfl rfl) fun _ => rfl) (pw_and1 (pdt_cmp (op_neD (rm64 hr)) (neD _) (pd_ix rfl (pd_var (i := 1) rfl (.inl rfl) nd_told nc_told) (pd_const pe_int fun _ _ => .int _) fun _ _ => rfl) (pd_tup pda_nil) (nobehind _ (by decide) (by decide))))))) (pds_cons (pd_par2 (i := 7) (j := 8) rfl nN__law_turned_about rfl rfl (by decide) rfl rfl (pda_cons (pd_callM F.c__law_next rfl tk hr rfl (pda_cons (pd_var (i := 0) rfl (.inr (.inl rfl)) nd_state nc_state) (pda_cons (pd_callB call_lenA (lenD _) rfl G.b_len bt_len (pda_cons (pd_ix rfl (pd_var (i := 1) rfl (.inl rfl) nd_told nc_told) (pd_const pe_int fun _ _ => .int _) fun _ _ => rfl) pda_nil rfl) nn_len nd_len rfl rfl) pda_nil rfl) rfl) nd__law_next rfl rfl) (pda_cons (pd_callM F.c__law_next rfl tk hr rfl (pda_cons (pd_var (i := 0) rfl (.inr (.inl rfl)) nd_state nc_state) (pda_cons (pd_callB call_lenA (lenD _) rfl G.b_len bt_len (pda_cons (pd_ix rfl (pd_var (i := 1) rfl (.inl rfl) nd_told nc_told) (pd_const pe_int fun _ _ => .int _) fun _ _ => rfl) pda_nil rfl) nn_len nd_len rfl rfl) pda_nil rfl) rfl) nd__law_next rfl rfl) pda_nil rfl) rfl) rfl rfl)
    (pds_one (pd_ret (pd_tup (pda_cons (pd_ix rfl (pd_var (i := 1) rfl (.inl rfl) nd_told nc_told) (pd_const pe_int fun _ _ => .int _) fun _ _ => rfl) (pda_cons (pd_bin op_addD (addD _) (pd_bin op_addD (addD _) (pd_slice rfl (pd_ix rfl (pd_var (i := 1) rfl (.inl rfl) nd_told nc_told) (pd_const pe_int fun _ _ => .int _) fun _ _ => rfl) pdp_none (pdp_some (pd_var (i := 7) rfl (.inl rfl) nd_k nc_k))) (pd_slice rfl (pd_ix rfl (pd_var (i := 1) rfl (.inl rfl) nd_told nc_told) (pd_const pe_int fun _ _ => .int _) fun _ _ => rfl) (pdp_some (pd_var (i := 8) rfl (.inl rfl) nd_j nc_j)) (pdp_some (pd_bin op_addD (addD _) (pd_var (i := 8) rfl (.inl rfl) nd_j nc_j) (pd_const pe_int fun _ _ => .int _))))) (pd_slice rfl (pd_ix rfl (pd_var (i := 1) rfl (.inl rfl) nd_told nc_told) (pd_const pe_int fun _ _ => .int _) fun _ _ => rfl) (pdp_some (pd_bin op_addD (addD _) (pd_var (i := 7) rfl (.inl rfl) nd_k nc_k) (pd_const pe_int fun _ _ => .int _))) pdp_none)) pda_nil rfl) rfl))))) pds_nil)
    (pds_one (pd_ret (pd_ifExp (PW.pt (pdw_and (pdt_cmp opGt (cmpD _) (pd_var (i := 7) rfl (.inl rfl) nd_k nc_k) (pd_const pe_int fun _ _ => .int _) (nobehind _ (by decide) (by decide))) (pw_and1 (pdt_cmp opGt (cmpD _) (pd_var (i := 8) rfl (.inl rfl) nd_j nc_j) (pd_const pe_int fun _ _ => .int _) (nobehind _ (by decide) (by decide)))))) (pd_bin op_addD (addD _) (pd_bin op_addD (addD _) (pd_slice rfl (pd_var (i := 1) rfl (.inl rfl) nd_told nc_told) pdp_none (pdp_some (pd_var (i := 7) rfl (.inl rfl) nd_k nc_k))) (pd_slice rfl (pd_var (i := 1) rfl (.inl rfl) nd_told nc_told) (pdp_some (pd_var (i := 8) rfl (.inl rfl) nd_j nc_j)) (pdp_some (pd_bin op_addD (addD _) (pd_var (i := 8) rfl (.inl rfl) nd_j nc_j) (pd_const pe_int fun _ _ => .int _))))) (pd_slice rfl (pd_var (i := 1) rfl (.inl rfl) nd_told nc_told) (pdp_some (pd_bin op_addD (addD _) (pd_var (i := 7) rfl (.inl rfl) nd_k nc_k) (pd_const pe_int fun _ _ => .int _))) pdp_none)) (pd_var (i := 1) rfl (.inl rfl) nd_told nc_told))))))))))
theorem w__law_odd (G : Gs K mg) (F : Fs P w K mg base k T) : BodyAt P w K mg base k T "_law_odd" d__law_odd g__law_odd := by
  intro f cdv A outer s H E hr
  have tk : Takes (cxOf (L2.CX P w) P w K mg base d__law_odd.N "_law_odd" (defScope d__law_odd.st) f cdv A outer s H E) (fun cls d _ H => E cls d H) := takes_of rfl rfl rfl rfl
  have ow : PassesOwn (model P w) (cxOf (L2.CX P w) P w K mg base d__law_odd.N "_law_odd" (defScope d__law_odd.st) f cdv A outer s H E).A (cxOf (L2.CX P w) P w K mg base d__law_odd.N "_law_odd" (defScope d__law_odd.st) f cdv A outer s H E).env (cxOf (L2.CX P w) P w K mg base d__law_odd.N "_law_odd" (defScope d__law_odd.st) f cdv A outer s H E).xe := passes_of (X := cxOf (L2.CX P w) P w K mg base d__law_odd.N "_law_odd" (defScope d__law_odd.st) f cdv A outer s H E) rfl
  exact (pds_cons (pd_set (i := 2) nN__law_odd rfl (.inl rfl) (pd_fz (pd_lst (pda_cons (pd_const pe_non fun _ _ => .non) (pda_cons (pd_const pe_str fun _ _ => .str _) (pda_cons (pd_const pe_str fun _ _ => .str _) (pda_cons pd_dict (pda_cons (pd_tup pda_nil) (pda_cons (pd_slice rfl (pd_var (i := 1) rfl (.inl rfl) nd_told nc_told) pdp_none (pdp_some (pd_const pe_int fun _ _ => .int _))) (pda_cons (pd_fz (pd_listOf rfl rfl G.b_list (pd_var (i := 1) rfl (.inl rfl) nd_told nc_told) rfl rfl)) (pda_cons (pd_bin op_addD (addD _) (pd_var (i := 1) rfl (.inl rfl) nd_told nc_told) (pd_tup (pda_cons (pd_const pe_int fun _ _ => .int _) pda_nil rfl))) (pda_cons (pd_bin op_addD (addD _) (pd_tup (pda_cons (pd_fz (pd_lst (pda_cons (pd_ix rfl (pd_var (i := 1) rfl (.inl rfl) nd_told nc_told) (pd_const pe_int fun _ _ => .int _) fun _ _ => rfl) pda_nil rfl))) pda_nil rfl)) (pd_slice rfl (pd_var (i := 1) rfl (.inl rfl) nd_told nc_told) (pdp_some (pd_const pe_int fun _ _ => .int _)) pdp_none)) (pda_cons (pd_bin op_addD (addD _) (pd_tup (pda_cons (pd_const pe_str fun _ _ => .str _) pda_nil rfl)) (pd_slice rfl (pd_var (i := 1) rfl (.inl rfl) nd_told nc_told) (pdp_some (pd_const pe_int fun _ _ => .int _)) pdp_none)) (pda_cons (pd_const pe_int fun _ _ => .int _) pda_nil rfl) rfl) rfl) rfl) rfl) rfl) rfl) rfl) rfl) rfl) rfl))) rfl (.inr rfl))
    (pds_cons (pd_set (i := 3) nN__law_odd rfl (.inl rfl) (pd_callM F.c__law_next rfl tk hr rfl (pda_cons (pd_var (i := 0) rfl (.inl rfl) nd_state nc_state) (pda_cons (pd_const pe_int fun _ _ => .int _) pda_nil rfl) rfl) nd__law_next rfl rfl) rfl (.inr rfl))
    (pds_cons (pd_if (pdt_cmp opGt (cmpD _) (pd_var (i := 3) rfl (.inl rfl) nd_pick nc_pick) (pd_const pe_int fun _ _ => .int _) (nobehind _ (by decide) (by decide))) (pds_one (pd_ret (pd_callM F.c__law_turned_about rfl tk hr rfl (pda_cons (pd_var (i := 0) rfl (.inl rfl) nd_state nc_state) (pda_cons (pd_var (i := 1) rfl (.inl rfl) nd_told nc_told) pda_nil rfl) rfl) nd__law_turned_about rfl rfl))) pds_nil)
    (pds_one (pd_ret (pd_ifExp (pdt_cmp (op_eqD (rm64 hr)) (eqD _) (pd_var (i := 3) rfl (.inl rfl) nd_pick nc_pick) (pd_const pe_int fun _ _ => .int _) (nobehind _ (by decide) (by decide))) (pd_ix rfl (pd_var (i := 2) rfl (.inl rfl) nd_odd nc_odd) (pd_callM F.c__law_next rfl tk hr rfl (pda_cons (pd_var (i := 0) rfl (.inl rfl) nd_state nc_state) (pda_cons (pd_callB call_lenA (lenD _) rfl G.b_len bt_len (pda_cons (pd_var (i := 2) rfl (.inl rfl) nd_odd nc_odd) pda_nil rfl) nn_len nd_len rfl rfl) pda_nil rfl) rfl) nd__law_next rfl rfl) fun _ _ => rfl) (pd_callM F.c__law_changed rfl tk hr rfl (pda_cons (pd_var (i := 0) rfl (.inl rfl) nd_state nc_state) (pda_cons (pd_var (i := 1) rfl (.inl rfl) nd_told nc_told) pda_nil rfl) rfl) nd__law_changed rfl rfl)))))))
theorem w__law_mixed (G : Gs K mg) (F : Fs P w K mg base k T) : BodyAt P w K mg base k T "_law_mixed" d__law_mixed g__law_mixed := by
  intro f cdv A outer s H E hr
  have tk : Takes (cxOf (L2.CX P w) P w K mg base d__law_mixed.N "_law_mixed" (defScope d__law_mixed.st) f cdv A outer s H E) (fun cls d _ H => E cls d H) := takes_of rfl rfl rfl rfl
  have ow : PassesOwn (model P w) (cxOf (L2.CX P w) P w K mg base d__law_mixed.N "_law_mixed" (defScope d__law_mixed.st) f cdv A outer s H E).A (cxOf (L2.CX P w) P w K mg base d__law_mixed.N "_law_mixed" (defScope d__law_mixed.st) f cdv A outer s H E).env (cxOf (L2.CX P w) P w K mg base d__law_mixed.N "_law_mixed" (defScope d__law_mixed.st) f cdv A outer s H E).xe := passes_of (X := cxOf (L2.CX P w) P w K mg base d__law_mixed.N "_law_mixed" (defScope d__law_mixed.st) f cdv A outer s H E) rfl
  exact (pds_cons (pd_setO (i := 2) nN__law_mixed rfl (.inr rfl) (pd_listOf rfl rfl G.b_list (pd_var (i := 1) rfl (.inl rfl) nd_row nc_row) rfl rfl) rfl (.inl rfl))
    (pds_one (pd_ret (pd_callTy call_tupA (tupD _) rfl G.b_tuple bt_tuple (pda_cons (pd_fz (pd_lc (own := [("k", 3)]) (is := [3]) rfl (by decide) rfl nN__law_mixed (pd_range1 rfl G.b_range (pda_cons (pd_callB call_lenA (lenD _) rfl G.b_len bt_len (pda_cons (pd_var (i := 1) rfl (.inl rfl) nd_row nc_row) pda_nil rfl) nn_len nd_len rfl rfl) pda_nil rfl) rfl) (show blkC d__law_mixed.N (defScope d__law_mixed.st) _ _ = true from by decide +kernel) (fun _ _ _ _ _ => (pdg_name (i := 3) nN__law_mixed rfl (.inl rfl) (.inr rfl))) (fun _ _ _ _ _ => pdts_nil) (fun _ _ _ _ _ => (pd_popAt rfl (pe_var (i := 2) rfl (.inr (.inl rfl)) nd_left nc_left) (pda_cons (pd_callM F.c__law_next rfl takes_none5 hr rfl (pda_cons (pd_var (i := 0) rfl (.inr (.inl rfl)) nd_state nc_state) (pda_cons (pd_callB call_lenA (lenD _) rfl G.b_len bt_len (pda_cons (pd_var (i := 2) rfl (.inr (.inl rfl)) nd_left nc_left) pda_nil rfl) nn_len nd_len rfl rfl) pda_nil rfl) rfl) nd__law_next rfl rfl) pda_nil rfl) rfl rfl rfl rfl)) fun _ => rfl)) pda_nil rfl) nn_tuple nd_tuple rfl rfl))))
theorem w__law_cards (G : Gs K mg) (F : Fs P w K mg base k T) : BodyAt P w K mg base k T "_law_cards" d__law_cards g__law_cards := by
  intro f cdv A outer s H E hr
  have tk : Takes (cxOf (L2.CX P w) P w K mg base d__law_cards.N "_law_cards" (defScope d__law_cards.st) f cdv A outer s H E) (fun cls d _ H => E cls d H) := takes_of rfl rfl rfl rfl
  have ow : PassesOwn (model P w) (cxOf (L2.CX P w) P w K mg base d__law_cards.N "_law_cards" (defScope d__law_cards.st) f cdv A outer s H E).A (cxOf (L2.CX P w) P w K mg base d__law_cards.N "_law_cards" (defScope d__law_cards.st) f cdv A outer s H E).env (cxOf (L2.CX P w) P w K mg base d__law_cards.N "_law_cards" (defScope d__law_cards.st) f cdv A outer s H E).xe := passes_of (X := cxOf (L2.CX P w) P w K mg base d__law_cards.N "_law_cards" (defScope d__law_cards.st) f cdv A outer s H E) rfl
  exact (pds_one (pd_ret (pd_slice rfl (pd_callM F.c__law_mixed rfl tk hr rfl (pda_cons (pd_var (i := 0) rfl (.inl rfl) nd_state nc_state) (pda_cons (pd_tupRg1 rfl rfl G.b_tuple rfl G.b_range (pd_var (i := 3) rfl (.inl rfl) nd_most nc_most) rfl rfl) pda_nil rfl) rfl) nd__law_mixed rfl rfl) pdp_none (pdp_some (pd_bin op_addD (addD _) (pd_var (i := 1) rfl (.inl rfl) nd_low nc_low) (pd_callM F.c__law_next rfl tk hr rfl (pda_cons (pd_var (i := 0) rfl (.inl rfl) nd_state nc_state) (pda_cons (pd_bin op_addD (addD _) (pd_bin op_sub (subD) (pd_var (i := 2) rfl (.inl rfl) nd_high nc_high) (pd_var (i := 1) rfl (.inl rfl) nd_low nc_low)) (pd_const pe_int fun _ _ => .int _)) pda_nil rfl) rfl) nd__law_next rfl rfl))))))
theorem w__law_neighbour (G : Gs K mg) (F : Fs P w K mg base k T) : BodyAt P w K mg base k T "_law_neighbour" d__law_neighbour g__law_neighbour := by
  intro f cdv A outer s H E hr
  have tk : Takes (cxOf (L2.CX P w) P w K mg base d__law_neighbour.N "_law_neighbour" (defScope d__law_neighbour.st) f cdv A outer s H E) (fun cls d _ H => E cls d H) := takes_of rfl rfl rfl rfl
  have ow : PassesOwn (model P w) (cxOf (L2.CX P w) P w K mg base d__law_neighbour.N "_law_neighbour" (defScope d__law_neighbour.st) f cdv A outer s H E).A (cxOf (L2.CX P w) P w K mg base d__law_neighbour.N "_law_neighbour" (defScope d__law_neighbour.st) f cdv A outer s H E).env (cxOf (L2.CX P w) P w K mg base d__law_neighbour.N "_law_neighbour" (defScope d__law_neighbour.st) f cdv A outer s H E).xe := passes_of (X := cxOf (L2.CX P w) P w K mg base d__law_neighbour.N "_law_neighbour" (defScope d__law_neighbour.st) f cdv A outer s H E) rfl
  exact (pds_cons (pd_set (i := 2) nN__law_neighbour rfl (.inl rfl) (pd_ix rfl (pd_fz (pd_lst (pda_cons (pd_const pe_int fun _ _ => .int _) (pda_cons (pd_neg (pd_const pe_int fun _ _ => .int _)) pda_nil rfl) rfl))) (pd_callM F.c__law_next rfl tk hr rfl (pda_cons (pd_var (i := 0) rfl (.inl rfl) nd_state nc_state) (pda_cons (pd_const pe_int fun _ _ => .int _) pda_nil rfl) rfl) nd__law_next rfl rfl) fun _ _ => rfl) rfl (.inr rfl))
    (pds_cons (pd_if (pd_truth rfl (pd_isi .str rfl rfl G.b_isinstance rfl G.b_str bt_str nn_str nd_str (pd_var (i := 1) rfl (.inl rfl) nd_value nc_value) rfl rfl) fun _ => rfl) (pds_one (pd_ret (pd_var (i := 1) rfl (.inl rfl) nd_value nc_value))) pds_nil)
    (pds_cons (pd_if (pd_truth rfl (pd_isi .int rfl rfl G.b_isinstance rfl G.b_int bt_int nn_int nd_int (pd_var (i := 1) rfl (.inl rfl) nd_value nc_value) rfl rfl) fun _ => rfl) (pds_one (pd_ret (pd_bin op_addD (addD _) (pd_var (i := 1) rfl (.inl rfl) nd_value nc_value) (pd_var (i := 2) rfl (.inl rfl) nd_step nc_step)))) pds_nil)
    (pds_cons (pd_if (pdt_cmp (op_eqD (rm64 hr)) (eqD _) (pd_var (i := 1) rfl (.inl rfl) nd_value nc_value) (pd_tup pda_nil) (nobehind _ (by decide) (by decide))) (pds_one (pd_ret (pd_var (i := 1) rfl (.inl rfl) nd_value nc_value))) pds_nil)
    (pds_cons (pd_if (pd_truth rfl (pd_isi .str rfl rfl G.b_isinstance rfl G.b_str bt_str nn_str nd_str (pd_ix rfl (pd_var (i := 1) rfl (.inl rfl) nd_value nc_value) (pd_const pe_int fun _ _ => .int _) fun _ _ => rfl) rfl rfl) fun _ => rfl) (pds_one (pd_ret (pd_tup (pda_cons (pd_ix rfl (pd_var (i := 1) rfl (.inl rfl) nd_value nc_value) (pd_const pe_int fun _ _ => .int _) fun _ _ => rfl) (pda_cons (pd_bin op_addD (addD _) (pd_ix rfl (pd_var (i := 1) rfl (.inl rfl) nd_value nc_value) (pd_const pe_int fun _ _ => .int _) fun _ _ => rfl) (pd_var (i := 2) rfl (.inl rfl) nd_step nc_step)) pda_nil rfl) rfl)))) pds_nil)
    (pds_cons (pd_set (i := 3) nN__law_neighbour rfl (.inl rfl) (pd_callM F.c__law_next rfl tk hr rfl (pda_cons (pd_var (i := 0) rfl (.inl rfl) nd_state nc_state) (pda_cons (pd_callB call_lenA (lenD _) rfl G.b_len bt_len (pda_cons (pd_var (i := 1) rfl (.inl rfl) nd_value nc_value) pda_nil rfl) nn_len nd_len rfl rfl) pda_nil rfl) rfl) nd__law_next rfl rfl) rfl (.inr rfl))
    (pds_cons (pd_if (PW.pt (pdw_and (pdt_cmp (op_eqD (rm64 hr)) (eqD _) (pd_callM F.c__law_next rfl tk hr rfl (pda_cons (pd_var (i := 0) rfl (.inl rfl) nd_state nc_state) (pda_cons (pd_const pe_int fun _ _ => .int _) pda_nil rfl) rfl) nd__law_next rfl rfl) (pd_const pe_int fun _ _ => .int _) (nobehind _ (by decide) (by decide))) (pw_and1 (pdt_cmp opGt (cmpD _) (pd_callB call_lenA (lenD _) rfl G.b_len bt_len (pda_cons (pd_var (i := 1) rfl (.inl rfl) nd_value nc_value) pda_nil rfl) nn_len nd_len rfl rfl) (pd_const pe_int fun _ _ => .int _) (nobehind _ (by decide) (by decide)))))) (pds_one (pd_ret (pd_bin op_addD (addD _) (pd_slice rfl (pd_var (i := 1) rfl (.inl rfl) nd_value nc_value) pdp_none (pdp_some (pd_var (i := 3) rfl (.inl rfl) nd_k nc_k))) (pd_slice rfl (pd_var (i := 1) rfl (.inl rfl) nd_value nc_value) (pdp_some (pd_bin op_addD (addD _) (pd_var (i := 3) rfl (.inl rfl) nd_k nc_k) (pd_const pe_int fun _ _ => .int _))) pdp_none)))) pds_nil)
    (pds_one (pd_ret (pd_bin op_addD (addD _) (pd_bin op_addD (addD _) (pd_slice rfl (pd_var (i := 1) rfl (.inl rfl) nd_value nc_value) pdp_none (pdp_some (pd_var (i := 3) rfl (.inl rfl) nd_k nc_k))) (pd_tup (pda_cons (pd_callM F.c__law_neighbour rfl tk hr rfl (pda_cons (pd_var (i := 0) rfl (.inl rfl) nd_state nc_state) (pda_cons (pd_ix rfl (pd_var (i := 1) rfl (.inl rfl) nd_value nc_value) (pd_var (i := 3) rfl (.inl rfl) nd_k nc_k) fun _ _ => rfl) pda_nil rfl) rfl) nd__law_neighbour rfl rfl) pda_nil rfl))) (pd_slice rfl (pd_var (i := 1) rfl (.inl rfl) nd_value nc_value) (pdp_some (pd_bin op_addD (addD _) (pd_var (i := 3) rfl (.inl rfl) nd_k nc_k) (pd_const pe_int fun _ _ => .int _))) pdp_none)))))))))))
theorem w__law_next_place (G : Gs K mg) (F : Fs P w K mg base k T) : BodyAt P w K mg base k T "_law_next_place" d__law_next_place g__law_next_place := by
  intro f cdv A outer s H E hr
  have tk : Takes (cxOf (L2.CX P w) P w K mg base d__law_next_place.N "_law_next_place" (defScope d__law_next_place.st) f cdv A outer s H E) (fun cls d _ H => E cls d H) := takes_of rfl rfl rfl rfl
  have ow : PassesOwn (model P w) (cxOf (L2.CX P w) P w K mg base d__law_next_place.N "_law_next_place" (defScope d__law_next_place.st) f cdv A outer s H E).A (cxOf (L2.CX P w) P w K mg base d__law_next_place.N "_law_next_place" (defScope d__law_next_place.st) f cdv A outer s H E).env (cxOf (L2.CX P w) P w K mg base d__law_next_place.N "_law_next_place" (defScope d__law_next_place.st) f cdv A outer s H E).xe := passes_of (X := cxOf (L2.CX P w) P w K mg base d__law_next_place.N "_law_next_place" (defScope d__law_next_place.st) f cdv A outer s H E) rfl
  exact (pds_cons (pd_set (i := 3) nN__law_next_place rfl (.inl rfl) (pd_bin op_fdivN (divD) (pd_var (i := 0) rfl (.inl rfl) nd_size nc_size) (pd_const pe_int fun _ _ => .int _)) rfl (.inr rfl))
    (pds_one (pd_ret (pd_ifExp (pdt_cmp opLt (cmpD _) (pd_var (i := 1) rfl (.inl rfl) nd_place nc_place) (pd_var (i := 3) rfl (.inl rfl) nd_half nc_half) (nobehind _ (by decide) (by decide))) (pd_bin op_addD (addD _) (pd_bin op_mulD (mulD) (pd_const pe_int fun _ _ => .int _) (pd_var (i := 1) rfl (.inl rfl) nd_place nc_place)) (pd_var (i := 2) rfl (.inl rfl) nd_kind nc_kind)) (pd_bin op_sub (subD) (pd_bin op_addD (addD _) (pd_bin op_mulD (mulD) (pd_const pe_int fun _ _ => .int _) (pd_bin op_sub (subD) (pd_var (i := 1) rfl (.inl rfl) nd_place nc_place) (pd_var (i := 3) rfl (.inl rfl) nd_half nc_half))) (pd_const pe_int fun _ _ => .int _)) (pd_var (i := 2) rfl (.inl rfl) nd_kind nc_kind))))))
theorem w__law_accepts (G : Gs K mg) (F : Fs P w K mg base k T) : BodyAt P w K mg base k T "_law_accepts" d__law_accepts g__law_accepts := by
  intro f cdv A outer s H E hr
  have tk : Takes (cxOf (L2.CX P w) P w K mg base d__law_accepts.N "_law_accepts" (defScope d__law_accepts.st) f cdv A outer s H E) (fun cls d _ H => E cls d H) := takes_of rfl rfl rfl rfl
  have ow : PassesOwn (model P w) (cxOf (L2.CX P w) P w K mg base d__law_accepts.N "_law_accepts" (defScope d__law_accepts.st) f cdv A outer s H E).A (cxOf (L2.CX P w) P w K mg base d__law_accepts.N "_law_accepts" (defScope d__law_accepts.st) f cdv A outer s H E).env (cxOf (L2.CX P w) P w K mg base d__law_accepts.N "_law_accepts" (defScope d__law_accepts.st) f cdv A outer s H E).xe := passes_of (X := cxOf (L2.CX P w) P w K mg base d__law_accepts.N "_law_accepts" (defScope d__law_accepts.st) f cdv A outer s H E) rfl
  exact (pds_cons (pd_par2 (i := 3) (j := 4) rfl nN__law_accepts rfl rfl (by decide) rfl rfl (pda_cons (pd_fz (pd_lst (pda_cons (pd_const pe_int fun _ _ => .int _) pda_nil rfl))) (pda_cons (pd_const pe_int fun _ _ => .int _) pda_nil rfl) rfl) rfl rfl)
    (pds_cons (pd_while ow (pdt_cmp (op_notInE (rm65 hr)) (notInD _) (pd_var (i := 1) rfl (.inl rfl) nd_goal nc_goal) (pd_var (i := 3) rfl (.inl rfl) nd_now nc_now) rfl) (pds_one (pd_par2 (i := 3) (j := 4) rfl nN__law_accepts rfl rfl (by decide) rfl rfl (pda_cons (pd_fz (pd_upSet rfl rfl G.b_sorted rfl G.b_set (pd_fz (pd_lc (own := [("place", 5), ("kind", 6)]) (is := [5, 6]) rfl (by decide) rfl nN__law_accepts (pd_src rfl (pd_bin op_addD (addD _) (pd_fz (pd_lc (own := [("p", 7)]) (is := [7]) rfl (by decide) rfl nN__law_accepts (pd_src rfl (pd_var (i := 3) rfl (.inl rfl) nd_now nc_now)) (show blkC d__law_accepts.N (defScope d__law_accepts.st) _ _ = true from by decide +kernel) (fun _ _ _ _ _ => (pdg_name (i := 7) nN__law_accepts rfl (.inl rfl) (.inr rfl))) (fun _ _ _ _ _ => pdts_nil) (fun _ _ _ _ _ => (pd_tup (pda_cons (pd_var (i := 7) rfl (.inl rfl) nd_p nc_p) (pda_cons (pd_const pe_int fun _ _ => .int _) pda_nil rfl) rfl))) fun _ => rfl)) (pd_fz (pd_lc (own := [("p", 7)]) (is := [7]) rfl (by decide) rfl nN__law_accepts (pd_src rfl (pd_var (i := 3) rfl (.inl rfl) nd_now nc_now)) (show blkC d__law_accepts.N (defScope d__law_accepts.st) _ _ = true from by decide +kernel) (fun _ _ _ _ _ => (pdg_name (i := 7) nN__law_accepts rfl (.inl rfl) (.inr rfl))) (fun _ _ _ _ _ => pdts_nil) (fun _ _ _ _ _ => (pd_tup (pda_cons (pd_var (i := 7) rfl (.inl rfl) nd_p nc_p) (pda_cons (pd_const pe_int fun _ _ => .int _) pda_nil rfl) rfl))) fun _ => rfl)))) (show blkC d__law_accepts.N (defScope d__law_accepts.st) _ _ = true from by decide +kernel) (fun _ _ _ _ _ => (pdg_tup (is := [5, 6]) rfl rfl nN__law_accepts (.cons rfl (.inl rfl) (.inr rfl) (.cons rfl (.inl rfl) (.inr rfl) .nil)))) (fun _ _ _ _ _ => pdts_nil) (fun _ _ _ _ _ => (pd_call F.c__law_next_place rfl takes_none5 hr rfl (pda_cons (pd_var (i := 0) rfl (.inr (.inl rfl)) nd_size nc_size) (pda_cons (pd_var (i := 5) rfl (.inl rfl) nd_place nc_place) (pda_cons (pd_var (i := 6) rfl (.inl rfl) nd_kind nc_kind) pda_nil rfl) rfl) rfl) nd__law_next_place rfl rfl)) fun _ => rfl)) rfl rfl)) (pda_cons (pd_bin op_addD (addD _) (pd_var (i := 4) rfl (.inl rfl) nd_steps nc_steps) (pd_const pe_int fun _ _ => .int _)) pda_nil rfl) rfl) rfl rfl)))
    (pds_cons (pd_if (PW.pt (pdw_or (pdt_not (pd_truth rfl (pd_call F.c__law_is rfl tk hr rfl (pda_cons (pd_var (i := 2) rfl (.inl rfl) nd_told nc_told) (pda_cons (pd_const pe_str fun _ _ => .str _) (pda_cons (pd_const pe_int fun _ _ => .int _) pda_nil rfl) rfl) rfl) nd__law_is rfl rfl) fun _ => rfl)) (pdw_or (pdt_not (pd_truth rfl (pd_call F.c__law_are_places rfl tk hr rfl (pda_cons (pd_ix rfl (pd_var (i := 2) rfl (.inl rfl) nd_told nc_told) (pd_const pe_int fun _ _ => .int _) fun _ _ => rfl) (pda_cons (pd_const pe_int fun _ _ => .int _) pda_nil rfl) rfl) nd__law_are_places rfl rfl) fun _ => rfl)) (pw_or1 (pdt_cmp (op_neD (rm64 hr)) (neD _) (pd_callB call_lenA (lenD _) rfl G.b_len bt_len (pda_cons (pd_ix rfl (pd_var (i := 2) rfl (.inl rfl) nd_told nc_told) (pd_const pe_int fun _ _ => .int _) fun _ _ => rfl) pda_nil rfl) nn_len nd_len rfl rfl) (pd_var (i := 4) rfl (.inl rfl) nd_steps nc_steps) (nobehind _ (by decide) (by decide))))))) (pds_one (pd_ret (pd_const pe_bl fun _ _ => .bl _))) pds_nil)
    (pds_cons (pd_set (i := 5) nN__law_accepts rfl (.inl rfl) (pd_const pe_int fun _ _ => .int _) rfl (.inr rfl))
    (pds_cons (pd_for ow rfl (pd_src rfl (pd_ix rfl (pd_var (i := 2) rfl (.inl rfl) nd_told nc_told) (pd_const pe_int fun _ _ => .int _) fun _ _ => rfl)) (pdg_name (i := 6) nN__law_accepts rfl (.inl rfl) (.inr rfl)) (pds_one (pd_set (i := 5) nN__law_accepts rfl (.inl rfl) (pd_call F.c__law_next_place rfl tk hr rfl (pda_cons (pd_var (i := 0) rfl (.inr (.inl rfl)) nd_size nc_size) (pda_cons (pd_var (i := 5) rfl (.inl rfl) nd_place nc_place) (pda_cons (pd_var (i := 6) rfl (.inl rfl) nd_kind nc_kind) pda_nil rfl) rfl) rfl) nd__law_next_place rfl rfl) rfl (.inr rfl))) fun _ => rfl)
    (pds_one (pd_ret (pd_cmp (op_eqD (rm64 hr)) (eqD _) (pd_var (i := 5) rfl (.inl rfl) nd_place nc_place) (pd_var (i := 1) rfl (.inl rfl) nd_goal nc_goal) (nobehind _ (by decide) (by decide))))))))))
theorem w__law_told_near (G : Gs K mg) (F : Fs P w K mg base k T) : BodyAt P w K mg base k T "_law_told_near" d__law_told_near g__law_told_near := by
  intro f cdv A outer s H E hr
  have tk : Takes (cxOf (L2.CX P w) P w K mg base d__law_told_near.N "_law_told_near" (defScope d__law_told_near.st) f cdv A outer s H E) (fun cls d _ H => E cls d H) := takes_of rfl rfl rfl rfl
  have ow : PassesOwn (model P w) (cxOf (L2.CX P w) P w K mg base d__law_told_near.N "_law_told_near" (defScope d__law_told_near.st) f cdv A outer s H E).A (cxOf (L2.CX P w) P w K mg base d__law_told_near.N "_law_told_near" (defScope d__law_told_near.st) f cdv A outer s H E).env (cxOf (L2.CX P w) P w K mg base d__law_told_near.N "_law_told_near" (defScope d__law_told_near.st) f cdv A outer s H E).xe := passes_of (X := cxOf (L2.CX P w) P w K mg base d__law_told_near.N "_law_told_near" (defScope d__law_told_near.st) f cdv A outer s H E) rfl
  exact (pds_cons (pd_setO (i := 3) nN__law_told_near rfl (.inl rfl) (pd_lst (pda_cons (pd_var (i := 1) rfl (.inl rfl) nd_size nc_size) (pda_cons (pd_var (i := 2) rfl (.inl rfl) nd_goal nc_goal) pda_nil rfl) rfl)) rfl (.inr rfl))
    (pds_cons (pd_set (i := 4) nN__law_told_near rfl (.inl rfl) (pd_callM F.c__law_next rfl tk hr rfl (pda_cons (pd_var (i := 0) rfl (.inl rfl) nd_state nc_state) (pda_cons (pd_const pe_int fun _ _ => .int _) pda_nil rfl) rfl) nd__law_next rfl rfl) rfl (.inr rfl))
    (pds_cons (pd_setIx (pe_var (i := 3) rfl (.inl rfl) nd_things nc_things) (pd_var (i := 4) rfl (.inl rfl) nd_pick nc_pick) (pd_callM F.c__law_neighbour rfl tk hr rfl (pda_cons (pd_var (i := 0) rfl (.inl rfl) nd_state nc_state) (pda_cons (pd_ix rfl (pd_var (i := 3) rfl (.inl rfl) nd_things nc_things) (pd_var (i := 4) rfl (.inl rfl) nd_pick nc_pick) fun _ _ => rfl) pda_nil rfl) rfl) nd__law_neighbour rfl rfl) rfl rfl rfl fun _ => rfl)
    (pds_one (pd_try (known := known) (isub := isub) (hs := [("UnfitCard", 5, .empty), ("TooWide", 5, .empty)]) rfl G.er.1 (by decide) rfl rfl nN__law_told_near tk (fun _ _ _ tk2 ow2 => (pds_one (pd_ret (pd_call F.c_to_place rfl tk2 hr rfl (pda_cons (pd_ix rfl (pd_var (i := 3) rfl (.inl rfl) nd_things nc_things) (pd_const pe_int fun _ _ => .int _) fun _ _ => rfl) (pda_cons (pd_ix rfl (pd_var (i := 3) rfl (.inl rfl) nd_things nc_things) (pd_const pe_int fun _ _ => .int _) fun _ _ => rfl) pda_nil rfl) rfl) nd_to_place rfl rfl)))) (.cons rfl rfl ⟨rfl, nd_UnfitCard, .inl G.x_UnfitCard⟩ (suite_empty rfl (i := 5) rfl (.inl rfl) nd_error nc_error rfl G.b_isinstance rfl G.b_ValueError rfl rfl) (.cons rfl rfl ⟨rfl, nd_TooWide, .inl G.x_TooWide⟩ (suite_empty rfl (i := 5) rfl (.inl rfl) nd_error nc_error rfl G.b_isinstance rfl G.b_ValueError rfl rfl) .nil)))))))
theorem w__law_unfit (G : Gs K mg) (F : Fs P w K mg base k T) : BodyAt P w K mg base k T "_law_unfit" d__law_unfit g__law_unfit := by
  intro f cdv A outer s H E hr
  have tk : Takes (cxOf (L2.CX P w) P w K mg base d__law_unfit.N "_law_unfit" (defScope d__law_unfit.st) f cdv A outer s H E) (fun cls d _ H => E cls d H) := takes_of rfl rfl rfl rfl
  have ow : PassesOwn (model P w) (cxOf (L2.CX P w) P w K mg base d__law_unfit.N "_law_unfit" (defScope d__law_unfit.st) f cdv A outer s H E).A (cxOf (L2.CX P w) P w K mg base d__law_unfit.N "_law_unfit" (defScope d__law_unfit.st) f cdv A outer s H E).env (cxOf (L2.CX P w) P w K mg base d__law_unfit.N "_law_unfit" (defScope d__law_unfit.st) f cdv A outer s H E).xe := passes_of (X := cxOf (L2.CX P w) P w K mg base d__law_unfit.N "_law_unfit" (defScope d__law_unfit.st) f cdv A outer s H E) rfl
  exact (pds_cons (pd_for ow rfl (pd_src rfl (pd_fz (pd_lst (pda_cons (pd_const pe_bl fun _ _ => .bl _) (pda_cons (pd_const pe_bl fun _ _ => .bl _) pda_nil rfl) rfl)))) (pdg_name (i := 2) nN__law_unfit rfl (.inl rfl) (.inr rfl)) (pds_one (pd_try (known := known) (isub := isub) (hs := [("UnfitCard", 3, .pass)]) rfl G.er.1 (by decide) rfl rfl nN__law_unfit tk (fun _ _ _ tk2 ow2 => (pds_cons (pd_if (pd_truth rfl (pd_var (i := 2) rfl (.inl rfl) nd_judged nc_judged) fun _ => rfl) (pds_one (pd_expr (pd_call F.c_judge_to_place rfl tk2 hr rfl (pda_cons (pd_var (i := 0) rfl (.inl rfl) nd_size nc_size) (pda_cons (pd_var (i := 1) rfl (.inl rfl) nd_goal nc_goal) (pda_cons (pd_const pe_non fun _ _ => .non) pda_nil rfl) rfl) rfl) nd_judge_to_place rfl rfl) rfl)) (pds_one (pd_expr (pd_call F.c_to_place rfl tk2 hr rfl (pda_cons (pd_var (i := 0) rfl (.inl rfl) nd_size nc_size) (pda_cons (pd_var (i := 1) rfl (.inl rfl) nd_goal nc_goal) pda_nil rfl) rfl) nd_to_place rfl rfl) rfl)))
    (pds_one (pd_ret (pd_const pe_bl fun _ _ => .bl _))))) (.cons rfl rfl ⟨rfl, nd_UnfitCard, .inl G.x_UnfitCard⟩ (suite_pass rfl (i := 3) rfl (.inl rfl) nd_error nc_error rfl G.b_isinstance rfl G.b_ValueError rfl rfl) .nil))) fun _ => rfl)
    (pds_one (pd_ret (pd_const pe_bl fun _ _ => .bl _))))
theorem w__law_accepts_too (G : Gs K mg) (F : Fs P w K mg base k T) : BodyAt P w K mg base k T "_law_accepts_too" d__law_accepts_too g__law_accepts_too := by
  intro f cdv A outer s H E hr
  have tk : Takes (cxOf (L2.CX P w) P w K mg base d__law_accepts_too.N "_law_accepts_too" (defScope d__law_accepts_too.st) f cdv A outer s H E) (fun cls d _ H => E cls d H) := takes_of rfl rfl rfl rfl
  have ow : PassesOwn (model P w) (cxOf (L2.CX P w) P w K mg base d__law_accepts_too.N "_law_accepts_too" (defScope d__law_accepts_too.st) f cdv A outer s H E).A (cxOf (L2.CX P w) P w K mg base d__law_accepts_too.N "_law_accepts_too" (defScope d__law_accepts_too.st) f cdv A outer s H E).env (cxOf (L2.CX P w) P w K mg base d__law_accepts_too.N "_law_accepts_too" (defScope d__law_accepts_too.st) f cdv A outer s H E).xe := passes_of (X := cxOf (L2.CX P w) P w K mg base d__law_accepts_too.N "_law_accepts_too" (defScope d__law_accepts_too.st) f cdv A outer s H E) rfl
  exact (pds_cons (pd_set (i := 4) nN__law_accepts_too rfl (.inr rfl) (pd_bin op_fdivN (divD) (pd_callB call_lenA (lenD _) rfl G.b_len bt_len (pda_cons (pd_var (i := 0) rfl (.inr (.inl rfl)) nd_row nc_row) pda_nil rfl) nn_len nd_len rfl rfl) (pd_var (i := 1) rfl (.inr (.inl rfl)) nd_hands nc_hands)) rfl (.inl rfl))
    (pds_cons (pd_setO (i := 5) nN__law_accepts_too rfl (.inl rfl) (pd_lst pda_nil) rfl (.inr rfl))
    (pds_cons (pd_for ow rfl (pd_range1 rfl G.b_range (pda_cons (pd_var (i := 1) rfl (.inr (.inl rfl)) nd_hands nc_hands) pda_nil rfl) rfl) (pdg_name (i := 6) nN__law_accepts_too rfl (.inr rfl) (.inl rfl)) (pds_one (pd_expr (pd_append rfl (pe_var (i := 5) rfl (.inl rfl) nd_found nc_found) (pda_cons (pd_callTy call_tupA (tupD _) rfl G.b_tuple bt_tuple (pda_cons (pd_fz (pd_lc (own := [("k", 7)]) (is := [7]) rfl (by decide) rfl nN__law_accepts_too (pd_range1 rfl G.b_range (pda_cons (pd_bin op_mulD (mulD) (pd_var (i := 4) rfl (.inr (.inl rfl)) nd_size nc_size) (pd_var (i := 1) rfl (.inr (.inl rfl)) nd_hands nc_hands)) pda_nil rfl) rfl) (show blkC d__law_accepts_too.N (defScope d__law_accepts_too.st) _ _ = true from by decide +kernel) (fun _ _ _ _ _ => (pdg_name (i := 7) nN__law_accepts_too rfl (.inl rfl) (.inr rfl))) (fun _ _ _ _ _ => (pts_one (pdt_cmp (op_eqD (rm64 hr)) (eqD _) (pd_ifExp (pdt_cmp (op_eqD (rm64 hr)) (eqD _) (pd_var (i := 2) rfl (.inr (.inl rfl)) nd_kind nc_kind) (pd_const pe_int fun _ _ => .int _) (nobehind _ (by decide) (by decide))) (pd_bin op_modN (modD) (pd_var (i := 7) rfl (.inl rfl) nd_k nc_k) (pd_var (i := 1) rfl (.inr (.inl rfl)) nd_hands nc_hands)) (pd_bin op_fdivN (divD) (pd_var (i := 7) rfl (.inl rfl) nd_k nc_k) (pd_var (i := 4) rfl (.inr (.inl rfl)) nd_size nc_size))) (pd_var (i := 6) rfl (.inr (.inl rfl)) nd_at nc_at) (nobehind _ (by decide) (by decide))))) (fun _ _ _ _ _ => (pd_ix rfl (pd_var (i := 0) rfl (.inr (.inl rfl)) nd_row nc_row) (pd_var (i := 7) rfl (.inl rfl) nd_k nc_k) fun _ _ => rfl)) fun _ => rfl)) pda_nil rfl) nn_tuple nd_tuple rfl rfl) pda_nil rfl) rfl rfl rfl rfl) rfl)) fun _ => rfl)
    (pds_one (pd_ret (pd_call F.c__law_same rfl tk hr rfl (pda_cons (pd_var (i := 3) rfl (.inl rfl) nd_told nc_told) (pda_cons (pd_tup (pda_cons (pd_const pe_str fun _ _ => .str _) (pda_cons (pd_callTy call_tupA (tupD _) rfl G.b_tuple bt_tuple (pda_cons (pd_var (i := 5) rfl (.inl rfl) nd_found nc_found) pda_nil rfl) nn_tuple nd_tuple rfl rfl) (pda_cons (pd_slice rfl (pd_var (i := 0) rfl (.inr (.inl rfl)) nd_row nc_row) (pdp_some (pd_bin op_mulD (mulD) (pd_var (i := 4) rfl (.inr (.inl rfl)) nd_size nc_size) (pd_var (i := 1) rfl (.inr (.inl rfl)) nd_hands nc_hands))) pdp_none) pda_nil rfl) rfl) rfl)) pda_nil rfl) rfl) nd__law_same rfl rfl))))))
theorem w__law_told_near_too (G : Gs K mg) (F : Fs P w K mg base k T) : BodyAt P w K mg base k T "_law_told_near_too" d__law_told_near_too g__law_told_near_too := by
  intro f cdv A outer s H E hr
  have tk : Takes (cxOf (L2.CX P w) P w K mg base d__law_told_near_too.N "_law_told_near_too" (defScope d__law_told_near_too.st) f cdv A outer s H E) (fun cls d _ H => E cls d H) := takes_of rfl rfl rfl rfl
  have ow : PassesOwn (model P w) (cxOf (L2.CX P w) P w K mg base d__law_told_near_too.N "_law_told_near_too" (defScope d__law_told_near_too.st) f cdv A outer s H E).A (cxOf (L2.CX P w) P w K mg base d__law_told_near_too.N "_law_told_near_too" (defScope d__law_told_near_too.st) f cdv A outer s H E).env (cxOf (L2.CX P w) P w K mg base d__law_told_near_too.N "_law_told_near_too" (defScope d__law_told_near_too.st) f cdv A outer s H E).xe := passes_of (X := cxOf (L2.CX P w) P w K mg base d__law_told_near_too.N "_law_told_near_too" (defScope d__law_told_near_too.st) f cdv A outer s H E) rfl
  exact (pds_cons (pd_setO (i := 4) nN__law_told_near_too rfl (.inl rfl) (pd_lst (pda_cons (pd_var (i := 1) rfl (.inl rfl) nd_row nc_row) (pda_cons (pd_var (i := 2) rfl (.inl rfl) nd_hands nc_hands) (pda_cons (pd_var (i := 3) rfl (.inl rfl) nd_kind nc_kind) pda_nil rfl) rfl) rfl)) rfl (.inr rfl))
    (pds_cons (pd_set (i := 5) nN__law_told_near_too rfl (.inl rfl) (pd_callM F.c__law_next rfl tk hr rfl (pda_cons (pd_var (i := 0) rfl (.inl rfl) nd_state nc_state) (pda_cons (pd_const pe_int fun _ _ => .int _) pda_nil rfl) rfl) nd__law_next rfl rfl) rfl (.inr rfl))
    (pds_cons (pd_setIx (pe_var (i := 4) rfl (.inl rfl) nd_things nc_things) (pd_var (i := 5) rfl (.inl rfl) nd_pick nc_pick) (pd_callM F.c__law_neighbour rfl tk hr rfl (pda_cons (pd_var (i := 0) rfl (.inl rfl) nd_state nc_state) (pda_cons (pd_ix rfl (pd_var (i := 4) rfl (.inl rfl) nd_things nc_things) (pd_var (i := 5) rfl (.inl rfl) nd_pick nc_pick) fun _ _ => rfl) pda_nil rfl) rfl) nd__law_neighbour rfl rfl) rfl rfl rfl fun _ => rfl)
    (pds_one (pd_try (known := known) (isub := isub) (hs := [("UnfitCard", 6, .empty), ("TooWide", 6, .empty)]) rfl G.er.1 (by decide) rfl rfl nN__law_told_near_too tk (fun _ _ _ tk2 ow2 => (pds_one (pd_ret (pd_call F.c_dealt rfl tk2 hr rfl (pda_cons (pd_ix rfl (pd_var (i := 4) rfl (.inl rfl) nd_things nc_things) (pd_const pe_int fun _ _ => .int _) fun _ _ => rfl) (pda_cons (pd_ix rfl (pd_var (i := 4) rfl (.inl rfl) nd_things nc_things) (pd_const pe_int fun _ _ => .int _) fun _ _ => rfl) (pda_cons (pd_ix rfl (pd_var (i := 4) rfl (.inl rfl) nd_things nc_things) (pd_const pe_int fun _ _ => .int _) fun _ _ => rfl) pda_nil rfl) rfl) rfl) nd_dealt rfl rfl)))) (.cons rfl rfl ⟨rfl, nd_UnfitCard, .inl G.x_UnfitCard⟩ (suite_empty rfl (i := 6) rfl (.inl rfl) nd_error nc_error rfl G.b_isinstance rfl G.b_ValueError rfl rfl) (.cons rfl rfl ⟨rfl, nd_TooWide, .inl G.x_TooWide⟩ (suite_empty rfl (i := 6) rfl (.inl rfl) nd_error nc_error rfl G.b_isinstance rfl G.b_ValueError rfl rfl) .nil)))))))
theorem w__law_unfit_too (G : Gs K mg) (F : Fs P w K mg base k T) : BodyAt P w K mg base k T "_law_unfit_too" d__law_unfit_too g__law_unfit_too := by
  intro f cdv A outer s H E hr
  have tk : Takes (cxOf (L2.CX P w) P w K mg base d__law_unfit_too.N "_law_unfit_too" (defScope d__law_unfit_too.st) f cdv A outer s H E) (fun cls d _ H => E cls d H) := takes_of rfl rfl rfl rfl
  have ow : PassesOwn (model P w) (cxOf (L2.CX P w) P w K mg base d__law_unfit_too.N "_law_unfit_too" (defScope d__law_unfit_too.st) f cdv A outer s H E).A (cxOf (L2.CX P w) P w K mg base d__law_unfit_too.N "_law_unfit_too" (defScope d__law_unfit_too.st) f cdv A outer s H E).env (cxOf (L2.CX P w) P w K mg base d__law_unfit_too.N "_law_unfit_too" (defScope d__law_unfit_too.st) f cdv A outer s H E).xe := passes_of (X := cxOf (L2.CX P w) P w K mg base d__law_unfit_too.N "_law_unfit_too" (defScope d__law_unfit_too.st) f cdv A outer s H E) rfl
  exact (pds_cons (pd_for ow rfl (pd_src rfl (pd_fz (pd_lst (pda_cons (pd_const pe_bl fun _ _ => .bl _) (pda_cons (pd_const pe_bl fun _ _ => .bl _) pda_nil rfl) rfl)))) (pdg_name (i := 3) nN__law_unfit_too rfl (.inl rfl) (.inr rfl)) (pds_one (pd_try (known := known) (isub := isub) (hs := [("UnfitCard", 4, .pass)]) rfl G.er.1 (by decide) rfl rfl nN__law_unfit_too tk (fun _ _ _ tk2 ow2 => (pds_cons (pd_if (pd_truth rfl (pd_var (i := 3) rfl (.inl rfl) nd_judged nc_judged) fun _ => rfl) (pds_one (pd_expr (pd_call F.c_judge_dealt rfl tk2 hr rfl (pda_cons (pd_var (i := 0) rfl (.inl rfl) nd_row nc_row) (pda_cons (pd_var (i := 1) rfl (.inl rfl) nd_hands nc_hands) (pda_cons (pd_var (i := 2) rfl (.inl rfl) nd_kind nc_kind) (pda_cons (pd_const pe_non fun _ _ => .non) pda_nil rfl) rfl) rfl) rfl) nd_judge_dealt rfl rfl) rfl)) (pds_one (pd_expr (pd_call F.c_dealt rfl tk2 hr rfl (pda_cons (pd_var (i := 0) rfl (.inl rfl) nd_row nc_row) (pda_cons (pd_var (i := 1) rfl (.inl rfl) nd_hands nc_hands) (pda_cons (pd_var (i := 2) rfl (.inl rfl) nd_kind nc_kind) pda_nil rfl) rfl) rfl) nd_dealt rfl rfl) rfl)))
    (pds_one (pd_ret (pd_const pe_bl fun _ _ => .bl _))))) (.cons rfl rfl ⟨rfl, nd_UnfitCard, .inl G.x_UnfitCard⟩ (suite_pass rfl (i := 4) rfl (.inl rfl) nd_error nc_error rfl G.b_isinstance rfl G.b_ValueError rfl rfl) .nil))) fun _ => rfl)
    (pds_one (pd_ret (pd_const pe_bl fun _ _ => .bl _))))
theorem w_law (G : Gs K mg) (F : Fs P w K mg base k T) : BodyAt P w K mg base k T "law" d_law g_law := by
  intro f cdv A outer s H E hr
  have tk : Takes (cxOf (L2.CX P w) P w K mg base d_law.N "law" (defScope d_law.st) f cdv A outer s H E) (fun cls d _ H => E cls d H) := takes_of rfl rfl rfl rfl
  have ow : PassesOwn (model P w) (cxOf (L2.CX P w) P w K mg base d_law.N "law" (defScope d_law.st) f cdv A outer s H E).A (cxOf (L2.CX P w) P w K mg base d_law.N "law" (defScope d_law.st) f cdv A outer s H E).env (cxOf (L2.CX P w) P w K mg base d_law.N "law" (defScope d_law.st) f cdv A outer s H E).xe := passes_of (X := cxOf (L2.CX P w) P w K mg base d_law.N "law" (defScope d_law.st) f cdv A outer s H E) rfl
  exact (pds_cons (pd_setO (i := 1) nN_law rfl (.inl rfl) (pd_lst (pda_cons (pd_fz (pd_listOf rfl rfl G.b_list (pd_var (i := 0) rfl (.inl rfl) nd_script nc_script) rfl rfl)) (pda_cons (pd_const pe_int fun _ _ => .int _) (pda_cons (pd_const pe_int fun _ _ => .int _) (pda_cons (pd_const pe_int fun _ _ => .int _) pda_nil rfl) rfl) rfl) rfl)) rfl (.inr rfl))
    (pds_cons (pd_set (i := 2) nN_law rfl (.inl rfl) (pd_fz (pd_lst pda_nil)) rfl (.inr rfl))
    (pds_cons (pd_set (i := 3) nN_law rfl (.inl rfl) (pd_fz (pd_lst pda_nil)) rfl (.inr rfl))
    (pds_cons (pd_for ow rfl (pd_range1 rfl G.b_range (pda_cons (pd_const pe_int fun _ _ => .int _) pda_nil rfl) rfl) (pdg_name (i := 4) nN_law rfl (.inl rfl) (.inr rfl)) (pds_cons (pd_set (i := 5) nN_law rfl (.inl rfl) (pd_bin op_addD (addD _) (pd_const pe_int fun _ _ => .int _) (pd_bin op_mulD (mulD) (pd_const pe_int fun _ _ => .int _) (pd_callM F.c__law_next rfl tk hr rfl (pda_cons (pd_var (i := 1) rfl (.inl rfl) nd_state nc_state) (pda_cons (pd_const pe_int fun _ _ => .int _) pda_nil rfl) rfl) nd__law_next rfl rfl))) rfl (.inr rfl))
    (pds_cons (pd_set (i := 6) nN_law rfl (.inl rfl) (pd_callM F.c__law_next rfl tk hr rfl (pda_cons (pd_var (i := 1) rfl (.inl rfl) nd_state nc_state) (pda_cons (pd_var (i := 5) rfl (.inl rfl) nd_size nc_size) pda_nil rfl) rfl) nd__law_next rfl rfl) rfl (.inr rfl))
    (pds_cons (pd_set (i := 7) nN_law rfl (.inl rfl) (pd_call F.c_to_place rfl tk hr rfl (pda_cons (pd_var (i := 5) rfl (.inl rfl) nd_size nc_size) (pda_cons (pd_var (i := 6) rfl (.inl rfl) nd_goal nc_goal) pda_nil rfl) rfl) nd_to_place rfl rfl) rfl (.inr rfl))
    (pds_cons (pd_set (i := 8) nN_law rfl (.inl rfl) (pd_callM F.c__law_told_near rfl tk hr rfl (pda_cons (pd_var (i := 1) rfl (.inl rfl) nd_state nc_state) (pda_cons (pd_var (i := 5) rfl (.inl rfl) nd_size nc_size) (pda_cons (pd_var (i := 6) rfl (.inl rfl) nd_goal nc_goal) pda_nil rfl) rfl) rfl) nd__law_told_near rfl rfl) rfl (.inr rfl))
    (pds_cons (pd_if (PW.pt (pdw_or (pdt_not (pd_truth rfl (pd_call F.c__law_accepts rfl tk hr rfl (pda_cons (pd_var (i := 5) rfl (.inl rfl) nd_size nc_size) (pda_cons (pd_var (i := 6) rfl (.inl rfl) nd_goal nc_goal) (pda_cons (pd_var (i := 7) rfl (.inl rfl) nd_told nc_told) pda_nil rfl) rfl) rfl) nd__law_accepts rfl rfl) fun _ => rfl)) (pw_or1 (pdt_cmp op_notBl (isNotBD) (pd_call F.c_judge_to_place rfl tk hr rfl (pda_cons (pd_var (i := 5) rfl (.inl rfl) nd_size nc_size) (pda_cons (pd_var (i := 6) rfl (.inl rfl) nd_goal nc_goal) (pda_cons (pd_var (i := 7) rfl (.inl rfl) nd_told nc_told) pda_nil rfl) rfl) rfl) nd_judge_to_place rfl rfl) (pd_const pe_bl fun _ _ => .bl _) (nobehind _ (by decide) (by decide)))))) (pds_one (pd_ret (pd_const pe_bl fun _ _ => .bl _))) pds_nil)
    (pds_cons (pd_if (PW.pt (pdw_or (pdt_not (pd_truth rfl (pd_call F.c__law_unfit rfl tk hr rfl (pda_cons (pd_const pe_int fun _ _ => .int _) (pda_cons (pd_const pe_int fun _ _ => .int _) pda_nil rfl) rfl) nd__law_unfit rfl rfl) fun _ => rfl)) (pdw_or (pdt_not (pd_truth rfl (pd_call F.c__law_unfit rfl tk hr rfl (pda_cons (pd_const pe_int fun _ _ => .int _) (pda_cons (pd_const pe_int fun _ _ => .int _) pda_nil rfl) rfl) nd__law_unfit rfl rfl) fun _ => rfl)) (pdw_or (pdt_not (pd_truth rfl (pd_call F.c__law_unfit rfl tk hr rfl (pda_cons (pd_var (i := 5) rfl (.inl rfl) nd_size nc_size) (pda_cons (pd_var (i := 5) rfl (.inl rfl) nd_size nc_size) pda_nil rfl) rfl) nd__law_unfit rfl rfl) fun _ => rfl)) (pw_or1 (pdt_not (pd_truth rfl (pd_call F.c__law_unfit rfl tk hr rfl (pda_cons (pd_var (i := 5) rfl (.inl rfl) nd_size nc_size) (pda_cons (pd_neg (pd_const pe_int fun _ _ => .int _)) pda_nil rfl) rfl) nd__law_unfit rfl rfl) fun _ => rfl))))))) (pds_one (pd_ret (pd_const pe_bl fun _ _ => .bl _))) pds_nil)
    (pds_cons (pd_set (i := 2) nN_law rfl (.inl rfl) (pd_bin op_addD (addD _) (pd_slice rfl (pd_var (i := 2) rfl (.inl rfl) nd_seen nc_seen) (pdp_some (pd_neg (pd_const pe_int fun _ _ => .int _))) pdp_none) (pd_fz (pd_lst (pda_cons (pd_var (i := 7) rfl (.inl rfl) nd_told nc_told) (pda_cons (pd_var (i := 8) rfl (.inl rfl) nd_near_told nc_near_told) pda_nil rfl) rfl)))) rfl (.inr rfl))
    (pds_cons (pd_for ow rfl (pd_range1 rfl G.b_range (pda_cons (pd_bin op_addD (addD _) (pd_const pe_int fun _ _ => .int _) (pd_callB call_lenA (lenD _) rfl G.b_len bt_len (pda_cons (pd_var (i := 2) rfl (.inl rfl) nd_seen nc_seen) pda_nil rfl) nn_len nd_len rfl rfl)) pda_nil rfl) rfl) (pdg_name (i := 9) nN_law rfl (.inl rfl) (.inr rfl)) (pds_cons (pd_set (i := 10) nN_law rfl (.inl rfl) (pd_ifExp (pdt_cmp opLt (cmpD _) (pd_var (i := 9) rfl (.inl rfl) nd_k nc_k) (pd_const pe_int fun _ _ => .int _) (nobehind _ (by decide) (by decide))) (pd_callM F.c__law_odd rfl tk hr rfl (pda_cons (pd_var (i := 1) rfl (.inl rfl) nd_state nc_state) (pda_cons (pd_var (i := 7) rfl (.inl rfl) nd_told nc_told) pda_nil rfl) rfl) nd__law_odd rfl rfl) (pd_ix rfl (pd_var (i := 2) rfl (.inl rfl) nd_seen nc_seen) (pd_bin op_sub (subD) (pd_var (i := 9) rfl (.inl rfl) nd_k nc_k) (pd_const pe_int fun _ _ => .int _)) fun _ _ => rfl)) rfl (.inr rfl))
    (pds_one (pd_if (pdt_not (pd_truth rfl (pd_call F.c__law_same rfl tk hr rfl (pda_cons (pd_call F.c_judge_to_place rfl tk hr rfl (pda_cons (pd_var (i := 5) rfl (.inl rfl) nd_size nc_size) (pda_cons (pd_var (i := 6) rfl (.inl rfl) nd_goal nc_goal) (pda_cons (pd_var (i := 10) rfl (.inl rfl) nd_asked nc_asked) pda_nil rfl) rfl) rfl) nd_judge_to_place rfl rfl) (pda_cons (pd_call F.c__law_accepts rfl tk hr rfl (pda_cons (pd_var (i := 5) rfl (.inl rfl) nd_size nc_size) (pda_cons (pd_var (i := 6) rfl (.inl rfl) nd_goal nc_goal) (pda_cons (pd_var (i := 10) rfl (.inl rfl) nd_asked nc_asked) pda_nil rfl) rfl) rfl) nd__law_accepts rfl rfl) pda_nil rfl) rfl) nd__law_same rfl rfl) fun _ => rfl)) (pds_one (pd_ret (pd_const pe_bl fun _ _ => .bl _))) pds_nil))) fun _ => rfl)
    (pds_cons (pd_set (i := 11) nN_law rfl (.inl rfl) (pd_callM F.c__law_cards rfl tk hr rfl (pda_cons (pd_var (i := 1) rfl (.inl rfl) nd_state nc_state) (pda_cons (pd_const pe_int fun _ _ => .int _) (pda_cons (pd_const pe_int fun _ _ => .int _) (pda_cons (pd_const pe_int fun _ _ => .int _) pda_nil rfl) rfl) rfl) rfl) nd__law_cards rfl rfl) rfl (.inr rfl))
    (pds_cons (pd_par2 (i := 12) (j := 13) rfl nN_law rfl rfl (by decide) rfl rfl (pda_cons (pd_bin op_addD (addD _) (pd_const pe_int fun _ _ => .int _) (pd_callM F.c__law_next rfl tk hr rfl (pda_cons (pd_var (i := 1) rfl (.inl rfl) nd_state nc_state) (pda_cons (pd_const pe_int fun _ _ => .int _) pda_nil rfl) rfl) nd__law_next rfl rfl)) (pda_cons (pd_callM F.c__law_next rfl tk hr rfl (pda_cons (pd_var (i := 1) rfl (.inl rfl) nd_state nc_state) (pda_cons (pd_const pe_int fun _ _ => .int _) pda_nil rfl) rfl) nd__law_next rfl rfl) pda_nil rfl) rfl) rfl rfl)
    (pds_cons (pd_set (i := 7) nN_law rfl (.inl rfl) (pd_call F.c_dealt rfl tk hr rfl (pda_cons (pd_var (i := 11) rfl (.inl rfl) nd_row nc_row) (pda_cons (pd_var (i := 12) rfl (.inl rfl) nd_hands nc_hands) (pda_cons (pd_var (i := 13) rfl (.inl rfl) nd_kind nc_kind) pda_nil rfl) rfl) rfl) nd_dealt rfl rfl) rfl (.inr rfl))
    (pds_cons (pd_set (i := 8) nN_law rfl (.inl rfl) (pd_callM F.c__law_told_near_too rfl tk hr rfl (pda_cons (pd_var (i := 1) rfl (.inl rfl) nd_state nc_state) (pda_cons (pd_var (i := 11) rfl (.inl rfl) nd_row nc_row) (pda_cons (pd_var (i := 12) rfl (.inl rfl) nd_hands nc_hands) (pda_cons (pd_var (i := 13) rfl (.inl rfl) nd_kind nc_kind) pda_nil rfl) rfl) rfl) rfl) nd__law_told_near_too rfl rfl) rfl (.inr rfl))
    (pds_cons (pd_if (PW.pt (pdw_or (pdt_not (pd_truth rfl (pd_call F.c__law_accepts_too rfl tk hr rfl (pda_cons (pd_var (i := 11) rfl (.inl rfl) nd_row nc_row) (pda_cons (pd_var (i := 12) rfl (.inl rfl) nd_hands nc_hands) (pda_cons (pd_var (i := 13) rfl (.inl rfl) nd_kind nc_kind) (pda_cons (pd_var (i := 7) rfl (.inl rfl) nd_told nc_told) pda_nil rfl) rfl) rfl) rfl) nd__law_accepts_too rfl rfl) fun _ => rfl)) (pw_or1 (pdt_cmp op_notBl (isNotBD) (pd_call F.c_judge_dealt rfl tk hr rfl (pda_cons (pd_var (i := 11) rfl (.inl rfl) nd_row nc_row) (pda_cons (pd_var (i := 12) rfl (.inl rfl) nd_hands nc_hands) (pda_cons (pd_var (i := 13) rfl (.inl rfl) nd_kind nc_kind) (pda_cons (pd_var (i := 7) rfl (.inl rfl) nd_told nc_told) pda_nil rfl) rfl) rfl) rfl) nd_judge_dealt rfl rfl) (pd_const pe_bl fun _ _ => .bl _) (nobehind _ (by decide) (by decide)))))) (pds_one (pd_ret (pd_const pe_bl fun _ _ => .bl _))) pds_nil)
    (pds_cons (pd_if (PW.pt (pdw_or (pdt_not (pd_truth rfl (pd_call F.c__law_unfit_too rfl tk hr rfl (pda_cons (pd_var (i := 11) rfl (.inl rfl) nd_row nc_row) (pda_cons (pd_const pe_int fun _ _ => .int _) (pda_cons (pd_var (i := 13) rfl (.inl rfl) nd_kind nc_kind) pda_nil rfl) rfl) rfl) nd__law_unfit_too rfl rfl) fun _ => rfl)) (pdw_or (pdt_not (pd_truth rfl (pd_call F.c__law_unfit_too rfl tk hr rfl (pda_cons (pd_var (i := 11) rfl (.inl rfl) nd_row nc_row) (pda_cons (pd_var (i := 12) rfl (.inl rfl) nd_hands nc_hands) (pda_cons (pd_const pe_int fun _ _ => .int _) pda_nil rfl) rfl) rfl) nd__law_unfit_too rfl rfl) fun _ => rfl)) (pw_or1 (pdt_not (pd_truth rfl (pd_call F.c__law_unfit_too rfl tk hr rfl (pda_cons (pd_tup (pda_cons (pd_const pe_int fun _ _ => .int _) (pda_cons (pd_const pe_int fun _ _ => .int _) pda_nil rfl) rfl)) (pda_cons (pd_var (i := 12) rfl (.inl rfl) nd_hands nc_hands) (pda_cons (pd_var (i := 13) rfl (.inl rfl) nd_kind nc_kind) pda_nil rfl) rfl) rfl) nd__law_unfit_too rfl rfl) fun _ => rfl)))))) (pds_one (pd_ret (pd_const pe_bl fun _ _ => .bl _))) pds_nil)
    (pds_cons (pd_set (i := 3) nN_law rfl (.inl rfl) (pd_bin op_addD (addD _) (pd_slice rfl (pd_var (i := 3) rfl (.inl rfl) nd_seen_too nc_seen_too) (pdp_some (pd_neg (pd_const pe_int fun _ _ => .int _))) pdp_none) (pd_fz (pd_lst (pda_cons (pd_var (i := 7) rfl (.inl rfl) nd_told nc_told) (pda_cons (pd_var (i := 8) rfl (.inl rfl) nd_near_told nc_near_told) pda_nil rfl) rfl)))) rfl (.inr rfl))
    (pds_one (pd_for ow rfl (pd_range1 rfl G.b_range (pda_cons (pd_bin op_addD (addD _) (pd_const pe_int fun _ _ => .int _) (pd_callB call_lenA (lenD _) rfl G.b_len bt_len (pda_cons (pd_var (i := 3) rfl (.inl rfl) nd_seen_too nc_seen_too) pda_nil rfl) nn_len nd_len rfl rfl)) pda_nil rfl) rfl) (pdg_name (i := 9) nN_law rfl (.inl rfl) (.inr rfl)) (pds_cons (pd_set (i := 10) nN_law rfl (.inl rfl) (pd_ifExp (pdt_cmp opLt (cmpD _) (pd_var (i := 9) rfl (.inl rfl) nd_k nc_k) (pd_const pe_int fun _ _ => .int _) (nobehind _ (by decide) (by decide))) (pd_callM F.c__law_odd rfl tk hr rfl (pda_cons (pd_var (i := 1) rfl (.inl rfl) nd_state nc_state) (pda_cons (pd_var (i := 7) rfl (.inl rfl) nd_told nc_told) pda_nil rfl) rfl) nd__law_odd rfl rfl) (pd_ix rfl (pd_var (i := 3) rfl (.inl rfl) nd_seen_too nc_seen_too) (pd_bin op_sub (subD) (pd_var (i := 9) rfl (.inl rfl) nd_k nc_k) (pd_const pe_int fun _ _ => .int _)) fun _ _ => rfl)) rfl (.inr rfl))
    (pds_one (pd_if (pdt_not (pd_truth rfl (pd_call F.c__law_same rfl tk hr rfl (pda_cons (pd_call F.c_judge_dealt rfl tk hr rfl (pda_cons (pd_var (i := 11) rfl (.inl rfl) nd_row nc_row) (pda_cons (pd_var (i := 12) rfl (.inl rfl) nd_hands nc_hands) (pda_cons (pd_var (i := 13) rfl (.inl rfl) nd_kind nc_kind) (pda_cons (pd_var (i := 10) rfl (.inl rfl) nd_asked nc_asked) pda_nil rfl) rfl) rfl) rfl) nd_judge_dealt rfl rfl) (pda_cons (pd_call F.c__law_accepts_too rfl tk hr rfl (pda_cons (pd_var (i := 11) rfl (.inl rfl) nd_row nc_row) (pda_cons (pd_var (i := 12) rfl (.inl rfl) nd_hands nc_hands) (pda_cons (pd_var (i := 13) rfl (.inl rfl) nd_kind nc_kind) (pda_cons (pd_var (i := 10) rfl (.inl rfl) nd_asked nc_asked) pda_nil rfl) rfl) rfl) rfl) nd__law_accepts_too rfl rfl) pda_nil rfl) rfl) nd__law_same rfl rfl) fun _ => rfl)) (pds_one (pd_ret (pd_const pe_bl fun _ _ => .bl _))) pds_nil))) fun _ => rfl))))))))))))))))) fun _ => rfl)
    (pds_one (pd_ret (pd_const pe_bl fun _ _ => .bl _)))))))
end
end W24
end
section
set_option Elab.async false
set_option linter.all false
set_option maxRecDepth 100000
set_option maxHeartbeats 4000000
set_option autoImplicit false
namespace W24
open PySem PySem.Spec PyProof.Rows L2 Pv
theorem sc_is_whole : FnScope d_is_whole.N d_is_whole.ps (defScope d_is_whole.st) := ⟨rfl, rfl, rfl, nN_is_whole, rfl, by decide +kernel, by decide +kernel⟩
theorem sc_is_told : FnScope d_is_told.N d_is_told.ps (defScope d_is_told.st) := ⟨rfl, rfl, rfl, nN_is_told, rfl, by decide +kernel, by decide +kernel⟩
theorem sc_are_wholes : FnScope d_are_wholes.N d_are_wholes.ps (defScope d_are_wholes.st) := ⟨rfl, rfl, rfl, nN_are_wholes, rfl, by decide +kernel, by decide +kernel⟩
theorem sc_check_pack : FnScope d_check_pack.N d_check_pack.ps (defScope d_check_pack.st) := ⟨rfl, rfl, rfl, nN_check_pack, rfl, by decide +kernel, by decide +kernel⟩
theorem sc_to_place : FnScope d_to_place.N d_to_place.ps (defScope d_to_place.st) := ⟨rfl, rfl, rfl, nN_to_place, rfl, by decide +kernel, by decide +kernel⟩
theorem sc_place_after : FnScope d_place_after.N d_place_after.ps (defScope d_place_after.st) := ⟨rfl, rfl, rfl, nN_place_after, rfl, by decide +kernel, by decide +kernel⟩
theorem sc_judge_to_place : FnScope d_judge_to_place.N d_judge_to_place.ps (defScope d_judge_to_place.st) := ⟨rfl, rfl, rfl, nN_judge_to_place, rfl, by decide +kernel, by decide +kernel⟩
theorem sc_dealt : FnScope d_dealt.N d_dealt.ps (defScope d_dealt.st) := ⟨rfl, rfl, rfl, nN_dealt, rfl, by decide +kernel, by decide +kernel⟩
theorem sc_judge_dealt : FnScope d_judge_dealt.N d_judge_dealt.ps (defScope d_judge_dealt.st) := ⟨rfl, rfl, rfl, nN_judge_dealt, rfl, by decide +kernel, by decide +kernel⟩
theorem sc__law_next : FnScope d__law_next.N d__law_next.ps (defScope d__law_next.st) := ⟨rfl, rfl, rfl, nN__law_next, rfl, by decide +kernel, by decide +kernel⟩
theorem sc__law_same : FnScope d__law_same.N d__law_same.ps (defScope d__law_same.st) := ⟨rfl, rfl, rfl, nN__law_same, rfl, by decide +kernel, by decide +kernel⟩
theorem sc__law_is_whole : FnScope d__law_is_whole.N d__law_is_whole.ps (defScope d__law_is_whole.st) := ⟨rfl, rfl, rfl, nN__law_is_whole, rfl, by decide +kernel, by decide +kernel⟩
theorem sc__law_is_place : FnScope d__law_is_place.N d__law_is_place.ps (defScope d__law_is_place.st) := ⟨rfl, rfl, rfl, nN__law_is_place, rfl, by decide +kernel, by decide +kernel⟩
theorem sc__law_are_places : FnScope d__law_are_places.N d__law_are_places.ps (defScope d__law_are_places.st) := ⟨rfl, rfl, rfl, nN__law_are_places, rfl, by decide +kernel, by decide +kernel⟩
theorem sc__law_is : FnScope d__law_is.N d__law_is.ps (defScope d__law_is.st) := ⟨rfl, rfl, rfl, nN__law_is, rfl, by decide +kernel, by decide +kernel⟩
theorem sc__law_changed : FnScope d__law_changed.N d__law_changed.ps (defScope d__law_changed.st) := ⟨rfl, rfl, rfl, nN__law_changed, rfl, by decide +kernel, by decide +kernel⟩
theorem sc__law_ints : FnScope d__law_ints.N d__law_ints.ps (defScope d__law_ints.st) := ⟨rfl, rfl, rfl, nN__law_ints, rfl, by decide +kernel, by decide +kernel⟩
theorem sc__law_exchanged : FnScope d__law_exchanged.N d__law_exchanged.ps (defScope d__law_exchanged.st) := ⟨rfl, rfl, rfl, nN__law_exchanged, rfl, by decide +kernel, by decide +kernel⟩
theorem sc__law_cut : FnScope d__law_cut.N d__law_cut.ps (defScope d__law_cut.st) := ⟨rfl, rfl, rfl, nN__law_cut, rfl, by decide +kernel, by decide +kernel⟩
theorem sc__law_turned_about : FnScope d__law_turned_about.N d__law_turned_about.ps (defScope d__law_turned_about.st) := ⟨rfl, rfl, rfl, nN__law_turned_about, rfl, by decide +kernel, by decide +kernel⟩
theorem sc__law_odd : FnScope d__law_odd.N d__law_odd.ps (defScope d__law_odd.st) := ⟨rfl, rfl, rfl, nN__law_odd, rfl, by decide +kernel, by decide +kernel⟩
theorem sc__law_mixed : FnScope d__law_mixed.N d__law_mixed.ps (defScope d__law_mixed.st) := ⟨rfl, rfl, rfl, nN__law_mixed, rfl, by decide +kernel, by decide +kernel⟩
theorem sc__law_cards : FnScope d__law_cards.N d__law_cards.ps (defScope d__law_cards.st) := ⟨rfl, rfl, rfl, nN__law_cards, rfl, by decide +kernel, by decide +kernel⟩
theorem sc__law_neighbour : FnScope d__law_neighbour.N d__law_neighbour.ps (defScope d__law_neighbour.st) := ⟨rfl, rfl, rfl, nN__law_neighbour, rfl, by decide +kernel, by decide +kernel⟩
theorem sc__law_next_place : FnScope d__law_next_place.N d__law_next_place.ps (defScope d__law_next_place.st) := ⟨rfl, rfl, rfl, nN__law_next_place, rfl, by decide +kernel, by decide +kernel⟩
theorem sc__law_accepts : FnScope d__law_accepts.N d__law_accepts.ps (defScope d__law_accepts.st) := ⟨rfl, rfl, rfl, nN__law_accepts, rfl, by decide +kernel, by decide +kernel⟩
theorem sc__law_told_near : FnScope d__law_told_near.N d__law_told_near.ps (defScope d__law_told_near.st) := ⟨rfl, rfl, rfl, nN__law_told_near, rfl, by decide +kernel, by decide +kernel⟩
theorem sc__law_unfit : FnScope d__law_unfit.N d__law_unfit.ps (defScope d__law_unfit.st) := ⟨rfl, rfl, rfl, nN__law_unfit, rfl, by decide +kernel, by decide +kernel⟩
theorem sc__law_accepts_too : FnScope d__law_accepts_too.N d__law_accepts_too.ps (defScope d__law_accepts_too.st) := ⟨rfl, rfl, rfl, nN__law_accepts_too, rfl, by decide +kernel, by decide +kernel⟩
theorem sc__law_told_near_too : FnScope d__law_told_near_too.N d__law_told_near_too.ps (defScope d__law_told_near_too.st) := ⟨rfl, rfl, rfl, nN__law_told_near_too, rfl, by decide +kernel, by decide +kernel⟩
theorem sc__law_unfit_too : FnScope d__law_unfit_too.N d__law_unfit_too.ps (defScope d__law_unfit_too.st) := ⟨rfl, rfl, rfl, nN__law_unfit_too, rfl, by decide +kernel, by decide +kernel⟩
theorem sc_law : FnScope d_law.N d_law.ps (defScope d_law.st) := ⟨rfl, rfl, rfl, nN_law, rfl, by decide +kernel, by decide +kernel⟩
def ents : List Ent := [⟨"is_whole", d_is_whole, false, g_is_whole⟩, ⟨"is_told", d_is_told, false, g_is_told⟩, ⟨"are_wholes", d_are_wholes, false, g_are_wholes⟩, ⟨"check_pack", d_check_pack, false, g_check_pack⟩, ⟨"to_place", d_to_place, false, g_to_place⟩, ⟨"place_after", d_place_after, false, g_place_after⟩, ⟨"judge_to_place", d_judge_to_place, false, g_judge_to_place⟩, ⟨"dealt", d_dealt, false, g_dealt⟩, ⟨"judge_dealt", d_judge_dealt, false, g_judge_dealt⟩, ⟨"_law_next", d__law_next, true, g__law_next⟩, ⟨"_law_same", d__law_same, false, g__law_same⟩, ⟨"_law_is_whole", d__law_is_whole, false, g__law_is_whole⟩, ⟨"_law_is_place", d__law_is_place, false, g__law_is_place⟩, ⟨"_law_are_places", d__law_are_places, false, g__law_are_places⟩, ⟨"_law_is", d__law_is, false, g__law_is⟩, ⟨"_law_changed", d__law_changed, true, g__law_changed⟩, ⟨"_law_ints", d__law_ints, false, g__law_ints⟩, ⟨"_law_exchanged", d__law_exchanged, false, g__law_exchanged⟩, ⟨"_law_cut", d__law_cut, true, g__law_cut⟩, ⟨"_law_turned_about", d__law_turned_about, true, g__law_turned_about⟩, ⟨"_law_odd", d__law_odd, true, g__law_odd⟩, ⟨"_law_mixed", d__law_mixed, true, g__law_mixed⟩, ⟨"_law_cards", d__law_cards, true, g__law_cards⟩, ⟨"_law_neighbour", d__law_neighbour, true, g__law_neighbour⟩, ⟨"_law_next_place", d__law_next_place, false, g__law_next_place⟩, ⟨"_law_accepts", d__law_accepts, false, g__law_accepts⟩, ⟨"_law_told_near", d__law_told_near, true, g__law_told_near⟩, ⟨"_law_unfit", d__law_unfit, false, g__law_unfit⟩, ⟨"_law_accepts_too", d__law_accepts_too, false, g__law_accepts_too⟩, ⟨"_law_told_near_too", d__law_told_near_too, true, g__law_told_near_too⟩, ⟨"_law_unfit_too", d__law_unfit_too, false, g__law_unfit_too⟩]
section
variable {P : Program} {w : World} {K : PySem.W.Frag} {mg : Str → Option Value} {base : Heap} {k : Nat} {T : Tab}
theorem fs_of (h : ∀ e ∈ ents, FnAt P w K mg base k T e.x e.d.ps.length e.io e.d.ps) : Fs P w K mg base k T := ⟨h _ (.head _), h _ (.tail _ (.head _)), h _ (.tail _ (.tail _ (.head _))), h _ (.tail _ (.tail _ (.tail _ (.head _)))), h _ (.tail _ (.tail _ (.tail _ (.tail _ (.head _))))), h _ (.tail _ (.tail _ (.tail _ (.tail _ (.tail _ (.head _)))))), h _ (.tail _ (.tail _ (.tail _ (.tail _ (.tail _ (.tail _ (.head _))))))), h _ (.tail _ (.tail _ (.tail _ (.tail _ (.tail _ (.tail _ (.tail _ (.head _)))))))), h _ (.tail _ (.tail _ (.tail _ (.tail _ (.tail _ (.tail _ (.tail _ (.tail _ (.head _))))))))), h _ (.tail _ (.tail _ (.tail _ (.tail _ (.tail _ (.tail _ (.tail _ (.tail _ (.tail _ (.head _)))))))))), h _ (.tail _ (.tail _ (.tail _ (.tail _ (.tail _ (.tail _ (.tail _ (.tail _ (.tail _ (.tail _ (.head _))))))))))), h _ (.tail _ (.tail _ (.tail _ (.tail _ (.tail _ (.tail _ (.tail _ (.tail _ (.tail _ (.tail _ (.tail _ (.head _)))))))))))), h _ (.tail _ (.tail _ (.tail _ (.tail _ (.tail _ (.tail _ (.tail _ (.tail _ (.tail _ (.tail _ (.tail _ (.tail _ (.head _))))))))))))), h _ (.tail _ (.tail _ (.tail _ (.tail _ (.tail _ (.tail _ (.tail _ (.tail _ (.tail _ (.tail _ (.tail _ (.tail _ (.tail _ (.head _)))))))))))))), h _ (.tail _ (.tail _ (.tail _ (.tail _ (.tail _ (.tail _ (.tail _ (.tail _ (.tail _ (.tail _ (.tail _ (.tail _ (.tail _ (.tail _ (.head _))))))))))))))), h _ (.tail _ (.tail _ (.tail _ (.tail _ (.tail _ (.tail _ (.tail _ (.tail _ (.tail _ (.tail _ (.tail _ (.tail _ (.tail _ (.tail _ (.tail _ (.head _)))))))))))))))), h _ (.tail _ (.tail _ (.tail _ (.tail _ (.tail _ (.tail _ (.tail _ (.tail _ (.tail _ (.tail _ (.tail _ (.tail _ (.tail _ (.tail _ (.tail _ (.tail _ (.head _))))))))))))))))), h _ (.tail _ (.tail _ (.tail _ (.tail _ (.tail _ (.tail _ (.tail _ (.tail _ (.tail _ (.tail _ (.tail _ (.tail _ (.tail _ (.tail _ (.tail _ (.tail _ (.tail _ (.head _)))))))))))))))))), h _ (.tail _ (.tail _ (.tail _ (.tail _ (.tail _ (.tail _ (.tail _ (.tail _ (.tail _ (.tail _ (.tail _ (.tail _ (.tail _ (.tail _ (.tail _ (.tail _ (.tail _ (.tail _ (.head _))))))))))))))))))), h _ (.tail _ (.tail _ (.tail _ (.tail _ (.tail _ (.tail _ (.tail _ (.tail _ (.tail _ (.tail _ (.tail _ (.tail _ (.tail _ (.tail _ (.tail _ (.tail _ (.tail _ (.tail _ (.tail _ (.head _)))))))))))))))))))), h _ (.tail _ (.tail _ (.tail _ (.tail _ (.tail _ (.tail _ (.tail _ (.tail _ (.tail _ (.tail _ (.tail _ (.tail _ (.tail _ (.tail _ (.tail _ (.tail _ (.tail _ (.tail _ (.tail _ (.tail _ (.head _))))))))))))))))))))), h _ (.tail _ (.tail _ (.tail _ (.tail _ (.tail _ (.tail _ (.tail _ (.tail _ (.tail _ (.tail _ (.tail _ (.tail _ (.tail _ (.tail _ (.tail _ (.tail _ (.tail _ (.tail _ (.tail _ (.tail _ (.tail _ (.head _)))))))))))))))))))))), h _ (.tail _ (.tail _ (.tail _ (.tail _ (.tail _ (.tail _ (.tail _ (.tail _ (.tail _ (.tail _ (.tail _ (.tail _ (.tail _ (.tail _ (.tail _ (.tail _ (.tail _ (.tail _ (.tail _ (.tail _ (.tail _ (.tail _ (.head _))))))))))))))))))))))), h _ (.tail _ (.tail _ (.tail _ (.tail _ (.tail _ (.tail _ (.tail _ (.tail _ (.tail _ (.tail _ (.tail _ (.tail _ (.tail _ (.tail _ (.tail _ (.tail _ (.tail _ (.tail _ (.tail _ (.tail _ (.tail _ (.tail _ (.tail _ (.head _)))))))))))))))))))))))), h _ (.tail _ (.tail _ (.tail _ (.tail _ (.tail _ (.tail _ (.tail _ (.tail _ (.tail _ (.tail _ (.tail _ (.tail _ (.tail _ (.tail _ (.tail _ (.tail _ (.tail _ (.tail _ (.tail _ (.tail _ (.tail _ (.tail _ (.tail _ (.tail _ (.head _))))))))))))))))))))))))), h _ (.tail _ (.tail _ (.tail _ (.tail _ (.tail _ (.tail _ (.tail _ (.tail _ (.tail _ (.tail _ (.tail _ (.tail _ (.tail _ (.tail _ (.tail _ (.tail _ (.tail _ (.tail _ (.tail _ (.tail _ (.tail _ (.tail _ (.tail _ (.tail _ (.tail _ (.head _)))))))))))))))))))))))))), h _ (.tail _ (.tail _ (.tail _ (.tail _ (.tail _ (.tail _ (.tail _ (.tail _ (.tail _ (.tail _ (.tail _ (.tail _ (.tail _ (.tail _ (.tail _ (.tail _ (.tail _ (.tail _ (.tail _ (.tail _ (.tail _ (.tail _ (.tail _ (.tail _ (.tail _ (.tail _ (.head _))))))))))))))))))))))))))), h _ (.tail _ (.tail _ (.tail _ (.tail _ (.tail _ (.tail _ (.tail _ (.tail _ (.tail _ (.tail _ (.tail _ (.tail _ (.tail _ (.tail _ (.tail _ (.tail _ (.tail _ (.tail _ (.tail _ (.tail _ (.tail _ (.tail _ (.tail _ (.tail _ (.tail _ (.tail _ (.tail _ (.head _)))))))))))))))))))))))))))), h _ (.tail _ (.tail _ (.tail _ (.tail _ (.tail _ (.tail _ (.tail _ (.tail _ (.tail _ (.tail _ (.tail _ (.tail _ (.tail _ (.tail _ (.tail _ (.tail _ (.tail _ (.tail _ (.tail _ (.tail _ (.tail _ (.tail _ (.tail _ (.tail _ (.tail _ (.tail _ (.tail _ (.tail _ (.head _))))))))))))))))))))))))))))), h _ (.tail _ (.tail _ (.tail _ (.tail _ (.tail _ (.tail _ (.tail _ (.tail _ (.tail _ (.tail _ (.tail _ (.tail _ (.tail _ (.tail _ (.tail _ (.tail _ (.tail _ (.tail _ (.tail _ (.tail _ (.tail _ (.tail _ (.tail _ (.tail _ (.tail _ (.tail _ (.tail _ (.tail _ (.tail _ (.head _)))))))))))))))))))))))))))))), h _ (.tail _ (.tail _ (.tail _ (.tail _ (.tail _ (.tail _ (.tail _ (.tail _ (.tail _ (.tail _ (.tail _ (.tail _ (.tail _ (.tail _ (.tail _ (.tail _ (.tail _ (.tail _ (.tail _ (.tail _ (.tail _ (.tail _ (.tail _ (.tail _ (.tail _ (.tail _ (.tail _ (.tail _ (.tail _ (.tail _ (.head _)))))))))))))))))))))))))))))))⟩
theorem bodies (G : Gs K mg) (F : Fs P w K mg base k T) : ∀ e ∈ ents, BodyAt P w K mg base k T e.x e.d e.g := List.forall_mem_cons.mpr ⟨w_is_whole G F, List.forall_mem_cons.mpr ⟨w_is_told G F, List.forall_mem_cons.mpr ⟨w_are_wholes G F, List.forall_mem_cons.mpr ⟨w_check_pack G F, List.forall_mem_cons.mpr ⟨w_to_place G F, List.forall_mem_cons.mpr ⟨w_place_after G F, List.forall_mem_cons.mpr ⟨w_judge_to_place G F, List.forall_mem_cons.mpr ⟨w_dealt G F, List.forall_mem_cons.mpr ⟨w_judge_dealt G F, List.forall_mem_cons.mpr ⟨w__law_next G F, List.forall_mem_cons.mpr ⟨w__law_same G F, List.forall_mem_cons.mpr ⟨w__law_is_whole G F, List.forall_mem_cons.mpr ⟨w__law_is_place G F, List.forall_mem_cons.mpr ⟨w__law_are_places G F, List.forall_mem_cons.mpr ⟨w__law_is G F, List.forall_mem_cons.mpr ⟨w__law_changed G F, List.forall_mem_cons.mpr ⟨w__law_ints G F, List.forall_mem_cons.mpr ⟨w__law_exchanged G F, List.forall_mem_cons.mpr ⟨w__law_cut G F, List.forall_mem_cons.mpr ⟨w__law_turned_about G F, List.forall_mem_cons.mpr ⟨w__law_odd G F, List.forall_mem_cons.mpr ⟨w__law_mixed G F, List.forall_mem_cons.mpr ⟨w__law_cards G F, List.forall_mem_cons.mpr ⟨w__law_neighbour G F, List.forall_mem_cons.mpr ⟨w__law_next_place G F, List.forall_mem_cons.mpr ⟨w__law_accepts G F, List.forall_mem_cons.mpr ⟨w__law_told_near G F, List.forall_mem_cons.mpr ⟨w__law_unfit G F, List.forall_mem_cons.mpr ⟨w__law_accepts_too G F, List.forall_mem_cons.mpr ⟨w__law_told_near_too G F, List.forall_mem_cons.mpr ⟨w__law_unfit_too G F, List.forall_mem_nil _⟩⟩⟩⟩⟩⟩⟩⟩⟩⟩⟩⟩⟩⟩⟩⟩⟩⟩⟩⟩⟩⟩⟩⟩⟩⟩⟩⟩⟩⟩⟩
end
theorem nd_ents : (ents.map (·.x)).Nodup := by decide +kernel
def fn : List He.DefD := [⟨("is_whole", none), "is_whole", "is_whole", defArgs (top 5), defBody (top 5), defScope (top 5), [], []⟩, ⟨("is_told", none), "is_told", "is_told", defArgs (top 6), defBody (top 6), defScope (top 6), [], []⟩, ⟨("are_wholes", none), "are_wholes", "are_wholes", defArgs (top 7), defBody (top 7), defScope (top 7), [], []⟩, ⟨("check_pack", none), "check_pack", "check_pack", defArgs (top 10), defBody (top 10), defScope (top 10), [], []⟩, ⟨("to_place", none), "to_place", "to_place", defArgs (top 11), defBody (top 11), defScope (top 11), [], []⟩, ⟨("place_after", none), "place_after", "place_after", defArgs (top 12), defBody (top 12), defScope (top 12), [], []⟩, ⟨("judge_to_place", none), "judge_to_place", "judge_to_place", defArgs (top 13), defBody (top 13), defScope (top 13), [], []⟩, ⟨("dealt", none), "dealt", "dealt", defArgs (top 14), defBody (top 14), defScope (top 14), [], []⟩, ⟨("judge_dealt", none), "judge_dealt", "judge_dealt", defArgs (top 15), defBody (top 15), defScope (top 15), [], []⟩, ⟨("_law_next", none), "_law_next", "_law_next", defArgs (top 17), defBody (top 17), defScope (top 17), [], []⟩, ⟨("_law_same", none), "_law_same", "_law_same", defArgs (top 18), defBody (top 18), defScope (top 18), [], []⟩, ⟨("_law_is_whole", none), "_law_is_whole", "_law_is_whole", defArgs (top 19), defBody (top 19), defScope (top 19), [], []⟩, ⟨("_law_is_place", none), "_law_is_place", "_law_is_place", defArgs (top 20), defBody (top 20), defScope (top 20), [], []⟩, ⟨("_law_are_places", none), "_law_are_places", "_law_are_places", defArgs (top 21), defBody (top 21), defScope (top 21), [], []⟩, ⟨("_law_is", none), "_law_is", "_law_is", defArgs (top 22), defBody (top 22), defScope (top 22), [], []⟩, ⟨("_law_changed", none), "_law_changed", "_law_changed", defArgs (top 23), defBody (top 23), defScope (top 23), [], []⟩, ⟨("_law_ints", none), "_law_ints", "_law_ints", defArgs (top 24), defBody (top 24), defScope (top 24), [], []⟩, ⟨("_law_exchanged", none), "_law_exchanged", "_law_exchanged", defArgs (top 25), defBody (top 25), defScope (top 25), [], []⟩, ⟨("_law_cut", none), "_law_cut", "_law_cut", defArgs (top 26), defBody (top 26), defScope (top 26), [], []⟩, ⟨("_law_turned_about", none), "_law_turned_about", "_law_turned_about", defArgs (top 27), defBody (top 27), defScope (top 27), [], []⟩, ⟨("_law_odd", none), "_law_odd", "_law_odd", defArgs (top 28), defBody (top 28), defScope (top 28), [], []⟩, ⟨("_law_mixed", none), "_law_mixed", "_law_mixed", defArgs (top 29), defBody (top 29), defScope (top 29), [], []⟩, ⟨("_law_cards", none), "_law_cards", "_law_cards", defArgs (top 30), defBody (top 30), defScope (top 30), [], []⟩, ⟨("_law_neighbour", none), "_law_neighbour", "_law_neighbour", defArgs (top 31), defBody (top 31), defScope (top 31), [], []⟩, ⟨("_law_next_place", none), "_law_next_place", "_law_next_place", defArgs (top 32), defBody (top 32), defScope (top 32), [], []⟩, ⟨("_law_accepts", none), "_law_accepts", "_law_accepts", defArgs (top 33), defBody (top 33), defScope (top 33), [], []⟩, ⟨("_law_told_near", none), "_law_told_near", "_law_told_near", defArgs (top 34), defBody (top 34), defScope (top 34), [], []⟩, ⟨("_law_unfit", none), "_law_unfit", "_law_unfit", defArgs (top 35), defBody (top 35), defScope (top 35), [], []⟩, ⟨("_law_accepts_too", none), "_law_accepts_too", "_law_accepts_too", defArgs (top 36), defBody (top 36), defScope (top 36), [], []⟩, ⟨("_law_told_near_too", none), "_law_told_near_too", "_law_told_near_too", defArgs (top 37), defBody (top 37), defScope (top 37), [], []⟩, ⟨("_law_unfit_too", none), "_law_unfit_too", "_law_unfit_too", defArgs (top 38), defBody (top 38), defScope (top 38), [], []⟩, ⟨("law", none), "law", "law", defArgs (top 39), defBody (top 39), defScope (top 39), [], []⟩]
def fa : List He.Fa := [.glo "is_whole", .glo "is_told", .glo "are_wholes", .glo "check_pack", .glo "to_place", .glo "place_after", .glo "judge_to_place", .glo "dealt", .glo "judge_dealt", .glo "_law_next", .glo "_law_same", .glo "_law_is_whole", .glo "_law_is_place", .glo "_law_are_places", .glo "_law_is", .glo "_law_changed", .glo "_law_ints", .glo "_law_exchanged", .glo "_law_cut", .glo "_law_turned_about", .glo "_law_odd", .glo "_law_mixed", .glo "_law_cards", .glo "_law_neighbour", .glo "_law_next_place", .glo "_law_accepts", .glo "_law_told_near", .glo "_law_unfit", .glo "_law_accepts_too", .glo "_law_told_near_too", .glo "_law_unfit_too", .glo "law", .glo "CardwholeError", .glo "UnfitCard", .glo "TooWide", .free "ValueError", .free "bool", .free "int", .free "isinstance", .free "len", .free "list", .free "range", .free "repr", .free "set", .free "sorted", .free "str", .free "tuple", .int "MOST_CARDS" 60]
abbrev prd : PySem.W.Frag → Bool := errsB known isub
abbrev R : PySem.W.OpenRow := PySem.W.OpenLaw.row PySem.Challenge.rw_cardwhole_k24_tops_to_places_and_dealt_h
abbrev hk : PySem.W.Hook := hookP 4 prd fa fn
def ob (s : PySem.W.SharedT) : AlP := obsPG 4 prd fa fn (HandSHeadRun.getT s)
theorem ob_eq (s : PySem.W.SharedT) : ob s = hk.obs s.abs := obsPG_eq (HandSHeadRun.getT_eq s)
abbrev loose : List Str := [("__name__" : Str), ("CardwholeError" : Str), ("UnfitCard" : Str), ("TooWide" : Str), ("is_whole" : Str), ("is_told" : Str), ("are_wholes" : Str), ("MOST_CARDS" : Str), ("check_pack" : Str), ("to_place" : Str), ("place_after" : Str), ("judge_to_place" : Str), ("dealt" : Str), ("judge_dealt" : Str), ("_law_next" : Str), ("_law_same" : Str), ("_law_is_whole" : Str), ("_law_is_place" : Str), ("_law_are_places" : Str), ("_law_is" : Str), ("_law_changed" : Str), ("_law_ints" : Str), ("_law_exchanged" : Str), ("_law_cut" : Str), ("_law_turned_about" : Str), ("_law_odd" : Str), ("_law_mixed" : Str), ("_law_cards" : Str), ("_law_neighbour" : Str), ("_law_next_place" : Str), ("_law_accepts" : Str), ("_law_told_near" : Str), ("_law_unfit" : Str), ("_law_accepts_too" : Str), ("_law_told_near_too" : Str), ("_law_unfit_too" : Str)]
theorem run (w : World) : HandSHeadRun.RunEq R (PySem.W.view R.prog [39]) hk ob 4000 loose w := by
  intro os
  kernel_rfl
abbrev TT : Tab := tabOf (progOf ents) 64 60
abbrev Pure : Prop := ∀ ns : List Int, ns.length ≤ 63 → ∃ e, g_law TT (.scr ns :: List.replicate (d_law.N.length - 1) .un) = .ret (.bool true) e
theorem facts (hp : Pure) {P : Program} {w : World} {K : PySem.W.Frag} {h : Heap} {mg : Str → Option Value} {f : Addr} (X : K.In h) (G : h.Ns mainGlobals mg) (hfa : mg ("law" : Str) = some (.ref f)) (hpr : prd K = true) (c : He.SaysD fa fn K) :
    ∃ fd : FuncData, (∀ (s : Shared) (v : Value), BindsTo s fd ⟨[v], []⟩ [("script", v)]) ∧ ∀ base : Heap, K.In base → base.Ns mainGlobals mg → FnG P w K mg base CXE 62 f fd ["script"] (spLaw K 63) := by
  have GG : Gs K mg := ⟨He.free_ok X G (c.fact 35 rfl), He.free_ok X G (c.fact 36 rfl), He.free_ok X G (c.fact 37 rfl), He.free_ok X G (c.fact 38 rfl), He.free_ok X G (c.fact 39 rfl), He.free_ok X G (c.fact 40 rfl), He.free_ok X G (c.fact 41 rfl), He.free_ok X G (c.fact 42 rfl), He.free_ok X G (c.fact 43 rfl), He.free_ok X G (c.fact 44 rfl), He.free_ok X G (c.fact 45 rfl), He.free_ok X G (c.fact 46 rfl), He.glo_ok X G (c.fact 32 rfl), He.glo_ok X G (c.fact 33 rfl), He.glo_ok X G (c.fact 34 rfl), He.int_ok X G (c.fact 47 rfl), errsB_ok hpr⟩
  have e_is_whole : EntOk K mg ⟨"is_whole", d_is_whole, false, g_is_whole⟩ := by
    obtain ⟨fd, F⟩ := c.def_ 0 rfl
    exact ⟨⟨_, fd, F, He.glo_ok X G (c.fact 0 rfl), F.kp, FunD.bindsN F fun _ _ _ _ _ _ us hl => match us, hl with | [_], _ => rfl⟩, sc_is_whole, by decide⟩
  have e_is_told : EntOk K mg ⟨"is_told", d_is_told, false, g_is_told⟩ := by
    obtain ⟨fd, F⟩ := c.def_ 1 rfl
    exact ⟨⟨_, fd, F, He.glo_ok X G (c.fact 1 rfl), F.kp, FunD.bindsN F fun _ _ _ _ _ _ us hl => match us, hl with | [_, _, _], _ => rfl⟩, sc_is_told, by decide⟩
  have e_are_wholes : EntOk K mg ⟨"are_wholes", d_are_wholes, false, g_are_wholes⟩ := by
    obtain ⟨fd, F⟩ := c.def_ 2 rfl
    exact ⟨⟨_, fd, F, He.glo_ok X G (c.fact 2 rfl), F.kp, FunD.bindsN F fun _ _ _ _ _ _ us hl => match us, hl with | [_, _], _ => rfl⟩, sc_are_wholes, by decide⟩
  have e_check_pack : EntOk K mg ⟨"check_pack", d_check_pack, false, g_check_pack⟩ := by
    obtain ⟨fd, F⟩ := c.def_ 3 rfl
    exact ⟨⟨_, fd, F, He.glo_ok X G (c.fact 3 rfl), F.kp, FunD.bindsN F fun _ _ _ _ _ _ us hl => match us, hl with | [_], _ => rfl⟩, sc_check_pack, by decide⟩
  have e_to_place : EntOk K mg ⟨"to_place", d_to_place, false, g_to_place⟩ := by
    obtain ⟨fd, F⟩ := c.def_ 4 rfl
    exact ⟨⟨_, fd, F, He.glo_ok X G (c.fact 4 rfl), F.kp, FunD.bindsN F fun _ _ _ _ _ _ us hl => match us, hl with | [_, _], _ => rfl⟩, sc_to_place, by decide⟩
  have e_place_after : EntOk K mg ⟨"place_after", d_place_after, false, g_place_after⟩ := by
    obtain ⟨fd, F⟩ := c.def_ 5 rfl
    exact ⟨⟨_, fd, F, He.glo_ok X G (c.fact 5 rfl), F.kp, FunD.bindsN F fun _ _ _ _ _ _ us hl => match us, hl with | [_, _, _], _ => rfl⟩, sc_place_after, by decide⟩
  have e_judge_to_place : EntOk K mg ⟨"judge_to_place", d_judge_to_place, false, g_judge_to_place⟩ := by
    obtain ⟨fd, F⟩ := c.def_ 6 rfl
    exact ⟨⟨_, fd, F, He.glo_ok X G (c.fact 6 rfl), F.kp, FunD.bindsN F fun _ _ _ _ _ _ us hl => match us, hl with | [_, _, _], _ => rfl⟩, sc_judge_to_place, by decide⟩
  have e_dealt : EntOk K mg ⟨"dealt", d_dealt, false, g_dealt⟩ := by
    obtain ⟨fd, F⟩ := c.def_ 7 rfl
    exact ⟨⟨_, fd, F, He.glo_ok X G (c.fact 7 rfl), F.kp, FunD.bindsN F fun _ _ _ _ _ _ us hl => match us, hl with | [_, _, _], _ => rfl⟩, sc_dealt, by decide⟩
  have e_judge_dealt : EntOk K mg ⟨"judge_dealt", d_judge_dealt, false, g_judge_dealt⟩ := by
    obtain ⟨fd, F⟩ := c.def_ 8 rfl
    exact ⟨⟨_, fd, F, He.glo_ok X G (c.fact 8 rfl), F.kp, FunD.bindsN F fun _ _ _ _ _ _ us hl => match us, hl with | [_, _, _, _], _ => rfl⟩, sc_judge_dealt, by decide⟩
  have e__law_next : EntOk K mg ⟨"_law_next", d__law_next, true, g__law_next⟩ := by
    obtain ⟨fd, F⟩ := c.def_ 9 rfl
    exact ⟨⟨_, fd, F, He.glo_ok X G (c.fact 9 rfl), F.kp, FunD.bindsN F fun _ _ _ _ _ _ us hl => match us, hl with | [_, _], _ => rfl⟩, sc__law_next, by decide⟩
  have e__law_same : EntOk K mg ⟨"_law_same", d__law_same, false, g__law_same⟩ := by
    obtain ⟨fd, F⟩ := c.def_ 10 rfl
    exact ⟨⟨_, fd, F, He.glo_ok X G (c.fact 10 rfl), F.kp, FunD.bindsN F fun _ _ _ _ _ _ us hl => match us, hl with | [_, _], _ => rfl⟩, sc__law_same, by decide⟩
  have e__law_is_whole : EntOk K mg ⟨"_law_is_whole", d__law_is_whole, false, g__law_is_whole⟩ := by
    obtain ⟨fd, F⟩ := c.def_ 11 rfl
    exact ⟨⟨_, fd, F, He.glo_ok X G (c.fact 11 rfl), F.kp, FunD.bindsN F fun _ _ _ _ _ _ us hl => match us, hl with | [_], _ => rfl⟩, sc__law_is_whole, by decide⟩
  have e__law_is_place : EntOk K mg ⟨"_law_is_place", d__law_is_place, false, g__law_is_place⟩ := by
    obtain ⟨fd, F⟩ := c.def_ 12 rfl
    exact ⟨⟨_, fd, F, He.glo_ok X G (c.fact 12 rfl), F.kp, FunD.bindsN F fun _ _ _ _ _ _ us hl => match us, hl with | [_, _], _ => rfl⟩, sc__law_is_place, by decide⟩
  have e__law_are_places : EntOk K mg ⟨"_law_are_places", d__law_are_places, false, g__law_are_places⟩ := by
    obtain ⟨fd, F⟩ := c.def_ 13 rfl
    exact ⟨⟨_, fd, F, He.glo_ok X G (c.fact 13 rfl), F.kp, FunD.bindsN F fun _ _ _ _ _ _ us hl => match us, hl with | [_, _], _ => rfl⟩, sc__law_are_places, by decide⟩
  have e__law_is : EntOk K mg ⟨"_law_is", d__law_is, false, g__law_is⟩ := by
    obtain ⟨fd, F⟩ := c.def_ 14 rfl
    exact ⟨⟨_, fd, F, He.glo_ok X G (c.fact 14 rfl), F.kp, FunD.bindsN F fun _ _ _ _ _ _ us hl => match us, hl with | [_, _, _], _ => rfl⟩, sc__law_is, by decide⟩
  have e__law_changed : EntOk K mg ⟨"_law_changed", d__law_changed, true, g__law_changed⟩ := by
    obtain ⟨fd, F⟩ := c.def_ 15 rfl
    exact ⟨⟨_, fd, F, He.glo_ok X G (c.fact 15 rfl), F.kp, FunD.bindsN F fun _ _ _ _ _ _ us hl => match us, hl with | [_, _], _ => rfl⟩, sc__law_changed, by decide⟩
  have e__law_ints : EntOk K mg ⟨"_law_ints", d__law_ints, false, g__law_ints⟩ := by
    obtain ⟨fd, F⟩ := c.def_ 16 rfl
    exact ⟨⟨_, fd, F, He.glo_ok X G (c.fact 16 rfl), F.kp, FunD.bindsN F fun _ _ _ _ _ _ us hl => match us, hl with | [_], _ => rfl⟩, sc__law_ints, by decide⟩
  have e__law_exchanged : EntOk K mg ⟨"_law_exchanged", d__law_exchanged, false, g__law_exchanged⟩ := by
    obtain ⟨fd, F⟩ := c.def_ 17 rfl
    exact ⟨⟨_, fd, F, He.glo_ok X G (c.fact 17 rfl), F.kp, FunD.bindsN F fun _ _ _ _ _ _ us hl => match us, hl with | [_, _, _], _ => rfl⟩, sc__law_exchanged, by decide⟩
  have e__law_cut : EntOk K mg ⟨"_law_cut", d__law_cut, true, g__law_cut⟩ := by
    obtain ⟨fd, F⟩ := c.def_ 18 rfl
    exact ⟨⟨_, fd, F, He.glo_ok X G (c.fact 18 rfl), F.kp, FunD.bindsN F fun _ _ _ _ _ _ us hl => match us, hl with | [_, _], _ => rfl⟩, sc__law_cut, by decide⟩
  have e__law_turned_about : EntOk K mg ⟨"_law_turned_about", d__law_turned_about, true, g__law_turned_about⟩ := by
    obtain ⟨fd, F⟩ := c.def_ 19 rfl
    exact ⟨⟨_, fd, F, He.glo_ok X G (c.fact 19 rfl), F.kp, FunD.bindsN F fun _ _ _ _ _ _ us hl => match us, hl with | [_, _], _ => rfl⟩, sc__law_turned_about, by decide⟩
  have e__law_odd : EntOk K mg ⟨"_law_odd", d__law_odd, true, g__law_odd⟩ := by
    obtain ⟨fd, F⟩ := c.def_ 20 rfl
    exact ⟨⟨_, fd, F, He.glo_ok X G (c.fact 20 rfl), F.kp, FunD.bindsN F fun _ _ _ _ _ _ us hl => match us, hl with | [_, _], _ => rfl⟩, sc__law_odd, by decide⟩
  have e__law_mixed : EntOk K mg ⟨"_law_mixed", d__law_mixed, true, g__law_mixed⟩ := by
    obtain ⟨fd, F⟩ := c.def_ 21 rfl
    exact ⟨⟨_, fd, F, He.glo_ok X G (c.fact 21 rfl), F.kp, FunD.bindsN F fun _ _ _ _ _ _ us hl => match us, hl with | [_, _], _ => rfl⟩, sc__law_mixed, by decide⟩
  have e__law_cards : EntOk K mg ⟨"_law_cards", d__law_cards, true, g__law_cards⟩ := by
    obtain ⟨fd, F⟩ := c.def_ 22 rfl
    exact ⟨⟨_, fd, F, He.glo_ok X G (c.fact 22 rfl), F.kp, FunD.bindsN F fun _ _ _ _ _ _ us hl => match us, hl with | [_, _, _, _], _ => rfl⟩, sc__law_cards, by decide⟩
  have e__law_neighbour : EntOk K mg ⟨"_law_neighbour", d__law_neighbour, true, g__law_neighbour⟩ := by
    obtain ⟨fd, F⟩ := c.def_ 23 rfl
    exact ⟨⟨_, fd, F, He.glo_ok X G (c.fact 23 rfl), F.kp, FunD.bindsN F fun _ _ _ _ _ _ us hl => match us, hl with | [_, _], _ => rfl⟩, sc__law_neighbour, by decide⟩
  have e__law_next_place : EntOk K mg ⟨"_law_next_place", d__law_next_place, false, g__law_next_place⟩ := by
    obtain ⟨fd, F⟩ := c.def_ 24 rfl
    exact ⟨⟨_, fd, F, He.glo_ok X G (c.fact 24 rfl), F.kp, FunD.bindsN F fun _ _ _ _ _ _ us hl => match us, hl with | [_, _, _], _ => rfl⟩, sc__law_next_place, by decide⟩
  have e__law_accepts : EntOk K mg ⟨"_law_accepts", d__law_accepts, false, g__law_accepts⟩ := by
    obtain ⟨fd, F⟩ := c.def_ 25 rfl
    exact ⟨⟨_, fd, F, He.glo_ok X G (c.fact 25 rfl), F.kp, FunD.bindsN F fun _ _ _ _ _ _ us hl => match us, hl with | [_, _, _], _ => rfl⟩, sc__law_accepts, by decide⟩
  have e__law_told_near : EntOk K mg ⟨"_law_told_near", d__law_told_near, true, g__law_told_near⟩ := by
    obtain ⟨fd, F⟩ := c.def_ 26 rfl
    exact ⟨⟨_, fd, F, He.glo_ok X G (c.fact 26 rfl), F.kp, FunD.bindsN F fun _ _ _ _ _ _ us hl => match us, hl with | [_, _, _], _ => rfl⟩, sc__law_told_near, by decide⟩
  have e__law_unfit : EntOk K mg ⟨"_law_unfit", d__law_unfit, false, g__law_unfit⟩ := by
    obtain ⟨fd, F⟩ := c.def_ 27 rfl
    exact ⟨⟨_, fd, F, He.glo_ok X G (c.fact 27 rfl), F.kp, FunD.bindsN F fun _ _ _ _ _ _ us hl => match us, hl with | [_, _], _ => rfl⟩, sc__law_unfit, by decide⟩
  have e__law_accepts_too : EntOk K mg ⟨"_law_accepts_too", d__law_accepts_too, false, g__law_accepts_too⟩ := by
    obtain ⟨fd, F⟩ := c.def_ 28 rfl
    exact ⟨⟨_, fd, F, He.glo_ok X G (c.fact 28 rfl), F.kp, FunD.bindsN F fun _ _ _ _ _ _ us hl => match us, hl with | [_, _, _, _], _ => rfl⟩, sc__law_accepts_too, by decide⟩
  have e__law_told_near_too : EntOk K mg ⟨"_law_told_near_too", d__law_told_near_too, true, g__law_told_near_too⟩ := by
    obtain ⟨fd, F⟩ := c.def_ 29 rfl
    exact ⟨⟨_, fd, F, He.glo_ok X G (c.fact 29 rfl), F.kp, FunD.bindsN F fun _ _ _ _ _ _ us hl => match us, hl with | [_, _, _, _], _ => rfl⟩, sc__law_told_near_too, by decide⟩
  have e__law_unfit_too : EntOk K mg ⟨"_law_unfit_too", d__law_unfit_too, false, g__law_unfit_too⟩ := by
    obtain ⟨fd, F⟩ := c.def_ 30 rfl
    exact ⟨⟨_, fd, F, He.glo_ok X G (c.fact 30 rfl), F.kp, FunD.bindsN F fun _ _ _ _ _ _ us hl => match us, hl with | [_, _, _], _ => rfl⟩, sc__law_unfit_too, by decide⟩
  have hes : ∀ e ∈ ents, EntOk K mg e := List.forall_mem_cons.mpr ⟨e_is_whole, List.forall_mem_cons.mpr ⟨e_is_told, List.forall_mem_cons.mpr ⟨e_are_wholes, List.forall_mem_cons.mpr ⟨e_check_pack, List.forall_mem_cons.mpr ⟨e_to_place, List.forall_mem_cons.mpr ⟨e_place_after, List.forall_mem_cons.mpr ⟨e_judge_to_place, List.forall_mem_cons.mpr ⟨e_dealt, List.forall_mem_cons.mpr ⟨e_judge_dealt, List.forall_mem_cons.mpr ⟨e__law_next, List.forall_mem_cons.mpr ⟨e__law_same, List.forall_mem_cons.mpr ⟨e__law_is_whole, List.forall_mem_cons.mpr ⟨e__law_is_place, List.forall_mem_cons.mpr ⟨e__law_are_places, List.forall_mem_cons.mpr ⟨e__law_is, List.forall_mem_cons.mpr ⟨e__law_changed, List.forall_mem_cons.mpr ⟨e__law_ints, List.forall_mem_cons.mpr ⟨e__law_exchanged, List.forall_mem_cons.mpr ⟨e__law_cut, List.forall_mem_cons.mpr ⟨e__law_turned_about, List.forall_mem_cons.mpr ⟨e__law_odd, List.forall_mem_cons.mpr ⟨e__law_mixed, List.forall_mem_cons.mpr ⟨e__law_cards, List.forall_mem_cons.mpr ⟨e__law_neighbour, List.forall_mem_cons.mpr ⟨e__law_next_place, List.forall_mem_cons.mpr ⟨e__law_accepts, List.forall_mem_cons.mpr ⟨e__law_told_near, List.forall_mem_cons.mpr ⟨e__law_unfit, List.forall_mem_cons.mpr ⟨e__law_accepts_too, List.forall_mem_cons.mpr ⟨e__law_told_near_too, List.forall_mem_cons.mpr ⟨e__law_unfit_too, List.forall_mem_nil _⟩⟩⟩⟩⟩⟩⟩⟩⟩⟩⟩⟩⟩⟩⟩⟩⟩⟩⟩⟩⟩⟩⟩⟩⟩⟩⟩⟩⟩⟩⟩
  obtain ⟨fd, F⟩ := c.def_ 31 rfl
  have e := hfa.symm.trans (He.glo_ok X G (c.fact 31 rfl))
  cases e
  have b := FunD.bindsA (ps := ["script"]) F fun _ _ _ _ _ _ us hl => match us, hl with | [_], _ => rfl
  refine ⟨fd, fun s v => b s [v] rfl, fun base _ _ => ?_⟩
  have LV := levels (P := P) (w := w) (base := base) (wh := 64) hes nd_ents (fun k T h => bodies GG (fs_of h)) 60
  exact fn_any (law_body F sc_law rfl (by decide) (w_law GG (fs_of LV)) hp)
end W24
open PySem PySem.W PySem.Calls PyProof.Rows
theorem holds_of (hp : W24.Pure) : PySem.Challenge.rw_cardwhole_k24_tops_to_places_and_dealt_h.Holds := by
  w_on; o_law
  refine HandSHeadRun.head_any (r := OpenLaw.row PySem.Challenge.rw_cardwhole_k24_tops_to_places_and_dealt_h) (q := view (OpenLaw.row PySem.Challenge.rw_cardwhole_k24_tops_to_places_and_dealt_h).prog [39]) (H := W24.hk) (ob := W24.ob) (M := 4000) (loose := W24.loose) (d := HandSHeadRun.topDef (OpenLaw.row PySem.Challenge.rw_cardwhole_k24_tops_to_places_and_dealt_h).prog 39) (kwd := []) W24.ob_eq
    (by kernel_rfl) (fun s => by kernel_rfl) W24.run (by kernel_rfl) (by kernel_rfl) (by kernel_rfl) (by rfl) (by first | assumption | decide +kernel) (by decide +kernel) ⟨rfl, rfl, rfl, rfl, rfl, by decide +kernel⟩ ?hw ?hc
  case hw => w_witness2
  case hc =>
    refine Pv.top_walk (l := PySem.Challenge.rw_cardwhole_k24_tops_to_places_and_dealt_h) (n := 63) (k := 62) (x := "script") (Z := Pv.CXE) rfl (by decide) (by kernel_rfl) ⟨⟨rfl, by decide, by decide⟩, rfl⟩ ?F (fun _ _ _ _ z => Pv.cxe_none z)
    case F =>
      intro w mg fa h Y G hmg0
      obtain ⟨K, KX, hpr, c⟩ := Y
      have hmg : mg ("law" : PySem.Str) = some (.ref fa) := by
        have e : (HandSHeadRun.topDef (OpenLaw.row PySem.Challenge.rw_cardwhole_k24_tops_to_places_and_dealt_h).prog 39).name = ("law" : PySem.Str) := by kernel_rfl
        rw [← e]
        exact hmg0
      obtain ⟨fd, hb, hF⟩ := W24.facts hp (P := (PySem.Challenge.rw_cardwhole_k24_tops_to_places_and_dealt_h).prog) (w := w) KX G hmg hpr c
      exact ⟨K, fd, Pv.spLaw K 63, KX, hb, fun H a ns hl _ hS => ⟨a, ns, rfl, hl, hS, fun _ => rfl⟩, hF⟩
end
section
set_option Elab.async false
set_option linter.all false
set_option maxRecDepth 100000
set_option maxHeartbeats 400000
set_option autoImplicit false
namespace W24
open PySem PySem.Spec PyProof.Rows L2 Pv Sh
local macro_rules | `(tactic| walk_at "pv") => `(tactic| first | ((with_reducible apply S_env); focus (dsimp only [List.set_cons_zero, List.set_cons_succ]; first | done | exact rfl)) | ((with_reducible apply E_env); focus (dsimp only [List.set_cons_zero, List.set_cons_succ]; first | done | exact rfl)) | ((with_reducible apply P_some); focus (dsimp only [takes_cons, takes_nil, takeW_d, Option.bind_some, Option.map_some]; first | done | exact rfl)) | ((with_reducible apply O_some); focus (dsimp only [derefs_cons, derefs_nil, deref_d, Option.bind_some, Option.map_some]; first | done | exact rfl)) | with_reducible refine E_bin ?_ | with_reducible refine E_cmp ?_ | with_reducible refine E_chain ?_ | with_reducible refine E_tru ?_ | with_reducible refine E_ofT ?_ | with_reducible refine E_notT ?_ | with_reducible refine E_isN ?_ | with_reducible refine E_and ?_ | with_reducible refine E_or ?_ | with_reducible refine E_andT ?_ | with_reducible refine E_orT ?_ | with_reducible refine E_if ?_ | with_reducible refine E_nil ?_ | with_reducible refine E_cons ?_ | with_reducible refine E_call ?_ | with_reducible refine E_fz ?_ | with_reducible refine E_tup ?_ | with_reducible refine E_lst ?_ | with_reducible refine E_emptyD ?_ | with_reducible refine E_src ?_ | with_reducible refine E_range1 ?_ | with_reducible refine E_range2 ?_ | with_reducible refine E_isi ?_ | with_reducible refine E_listOf ?_ | with_reducible refine E_noP ?_ | with_reducible refine E_part ?_ | with_reducible refine E_sl ?_ | with_reducible refine E_rev ?_ | with_reducible refine E_neg ?_ | with_reducible refine E_lenSet ?_ | with_reducible refine E_tupRg1 ?_ | with_reducible refine E_tupRg2 ?_ | with_reducible refine E_callF ?_ | with_reducible refine E_callIo ?_ | with_reducible refine E_lit ?_ | with_reducible refine E_var ?_ | with_reducible refine E_meth ?_ | with_reducible refine E_repF ?_ | with_reducible refine E_lstRg1 ?_ | with_reducible refine E_yes ?_ | with_reducible refine E_sorted ?_ | with_reducible refine E_lenSetT ?_ | with_reducible refine E_index ?_ | with_reducible refine E_catF ?_ | with_reducible refine E_upSet ?_ | with_reducible refine E_slS ?_ | with_reducible refine E_getLit ?_ | with_reducible refine E_enum ?_ | with_reducible refine E_zip ?_ | with_reducible refine E_join ?_ | with_reducible refine E_split ?_ | with_reducible refine E_fresh ?_ | with_reducible refine E_valK ?_ | with_reducible refine Src_dl ?_ | with_reducible refine Src_dt ?_ | with_reducible refine Io_sl ?_ | with_reducible refine L2_2 ?_ | with_reducible refine L3_3 ?_ | with_reducible refine S_parX ?_ | with_reducible refine S_seq ?_ | with_reducible refine S_skip ?_ | with_reducible refine S_break ?_ | with_reducible refine S_cont ?_ | with_reducible refine S_raise ?_ | with_reducible refine S_retN ?_ | with_reducible refine S_if ?_ | with_reducible refine S_drop ?_ | with_reducible refine S_ret ?_ | with_reducible refine S_set ?_ | with_reducible refine S_setO ?_ | with_reducible refine S_setG ?_ | with_reducible refine S_par2 ?_ | with_reducible refine S_par3 ?_ | with_reducible refine S_setIx ?_ | with_reducible refine S_aug ?_ | with_reducible refine S_augIx ?_ | with_reducible refine S_for ?_ | ((with_reducible apply V_val); focus exact rfl) | ((with_reducible apply V_own); focus exact rfl) | ((with_reducible apply V_scr); focus exact rfl) | ((with_reducible apply Own_own); focus exact rfl) | ((with_reducible apply O_some); focus exact rfl) | ((with_reducible apply B_some); focus exact rfl) | ((with_reducible apply P_some); focus exact rfl) | ((with_reducible apply ite_t); focus exact rfl) | ((with_reducible apply ite_f); focus exact rfl) | ((with_reducible apply O_some); focus (first | exact mul_ok (by decide) | exact mod_ok (by omega) | exact div_ok (by omega))) | ((with_reducible refine And.intro ?_ ?_); focus (first | exact rfl | decide | (simp only [List.length_cons, List.length_nil]; first | done | decide))))

/-- the signs of a number in twos, with fuel -/
def bitsF : Nat → Nat → List Int
  | 0, _ => []
  | f + 1, g => if g = 0 then [] else bitsF f (g / 2) ++ [((g % 2 : Nat) : Int)]
def bits (g : Nat) : List Int := bitsF 6 g
theorem bits_more : ∀ (f g : Nat), g < 2 ^ f → bitsF (f + 1) g = bitsF f g
  | 0, g, h => by
    have : g = 0 := by omega
    subst this
    rfl
  | f + 1, g, h => by
    show (if g = 0 then [] else bitsF (f + 1) (g / 2) ++ [((g % 2 : Nat) : Int)]) = if g = 0 then [] else bitsF f (g / 2) ++ [((g % 2 : Nat) : Int)]
    have : g / 2 < 2 ^ f := by
      rw [Nat.pow_succ] at h
      omega
    rw [bits_more f (g / 2) this]
theorem bits_step {g : Nat} (h0 : 0 < g) (h : g < 64) : bits g = bits (g / 2) ++ [((g % 2 : Nat) : Int)] := by
  have e : bits g = bitsF 5 (g / 2) ++ [((g % 2 : Nat) : Int)] := by
    show (if g = 0 then [] else bitsF 5 (g / 2) ++ [((g % 2 : Nat) : Int)]) = _
    rw [if_neg (by omega)]
  rw [e]
  have := bits_more 5 (g / 2) (by show g / 2 < 32; omega)
  unfold bits
  rw [this]
theorem bits_len : ∀ (f g s : Nat), g < 2 ^ f → ((bitsF f g).length ≤ s ↔ g < 2 ^ s)
  | 0, g, s, h => by
    have : g = 0 := by omega
    subst this
    have := Nat.two_pow_pos s
    constructor
    · intro _
      exact this
    · intro _
      exact Nat.zero_le _
  | f + 1, g, s, h => by
    show (if g = 0 then [] else bitsF f (g / 2) ++ [((g % 2 : Nat) : Int)]).length ≤ s ↔ _
    by_cases q : g = 0
    · rw [if_pos q, q]
      have := Nat.two_pow_pos s
      constructor
      · intro _
        exact this
      · intro _
        exact Nat.zero_le _
    · rw [if_neg q, List.length_append]
      have hg : g / 2 < 2 ^ f := by
        rw [Nat.pow_succ] at h
        omega
      cases s with
      | zero =>
        have z : (2 : Nat) ^ 0 = 1 := rfl
        rw [z]
        constructor
        · intro y
          simp only [List.length_cons, List.length_nil] at y
          omega
        · intro y
          omega
      | succ s =>
        have ih := bits_len f (g / 2) s hg
        rw [Nat.pow_succ]
        constructor
        · intro y
          simp only [List.length_cons, List.length_nil] at y
          have := ih.mp (by omega)
          omega
        · intro y
          have := ih.mpr (by omega)
          simp only [List.length_cons, List.length_nil]
          omega
theorem bits_lt {g s : Nat} (h : g < 64) : (bits g).length ≤ s ↔ g < 2 ^ s := bits_len 6 g s h
theorem bits_low : ∀ (f g : Nat), ∀ x ∈ bitsF f g, x = 0 ∨ x = 1
  | 0, g, x, hx => by cases hx
  | f + 1, g, x, hx => by
    have hx : x ∈ (if g = 0 then [] else bitsF f (g / 2) ++ [((g % 2 : Nat) : Int)]) := hx
    split at hx
    · cases hx
    · rcases List.mem_append.mp hx with hx | hx
      · exact bits_low f (g / 2) x hx
      · rw [List.mem_singleton.mp hx]
        omega
def due1 (g : Nat) : PyData := .tuple [.str "kinds", intsT (bits g)]
def ok1 (n g : Int) : Bool := !decide (n < 2) && (!decide (n.fmod 2 = 1) && (decide (0 ≤ g) && decide (g < n)))
def ToAt (T : Tab) : Prop := ∀ n g : Int, n ≤ 60 → T.fn "to_place" [.int n, .int g] = if ok1 n g = true then .ok (due1 g.toNat) [] else .exc "UnfitCard"
theorem to_ok {T : Tab} (hw : 6 < T.wh) {n g : Int} (hn : n ≤ 60) : fnRes 2 false 4 g_to_place T [.int n, .int g] = if ok1 n g = true then .ok (due1 g.toNat) [] else .exc "UnfitCard" := by
  refine if_eq (F_run [.val (.int n), .val (.int g), .un, .un] rfl rfl ?_)
  unfold g_to_place
  have hL : LINE = 16777216 := rfl
  have e0 : ok1 n g = (!decide (n < 2) && (!decide (n.fmod 2 = 1) && (decide (0 ≤ g) && decide (g < n)))) := rfl
  generalize ok1 n g = OK at *
  repeat walk_at "pv"
  refine ite_k (fun hk => ?_) fun hk => ?_
  · have hk : decide (n < 2) = true := hk
    rw [hk] at e0
    repeat walk_at "pv"
    first | exact ⟨rfl, e0, rfl⟩ | exact ⟨e0, rfl⟩
  have hk : decide (n < 2) = false := hk
  rw [hk, Bool.not_false, Bool.true_and] at e0
  repeat walk_at "pv"
  rw [eqv_i]
  refine ite_k (fun hk => ?_) fun hk => ?_
  · have hk : decide (n.fmod 2 = 1) = true := hk
    rw [hk] at e0
    repeat walk_at "pv"
    first | exact ⟨rfl, e0, rfl⟩ | exact ⟨e0, rfl⟩
  have hk : decide (n.fmod 2 = 1) = false := hk
  rw [hk, Bool.not_false, Bool.true_and] at e0
  repeat walk_at "pv"
  refine ite_k (fun hk => ?_) fun hk => ?_
  case refine_2 =>
    have hk : decide (0 ≤ g) = false := hk
    rw [hk] at e0
    repeat walk_at "pv"
    first | exact ⟨rfl, e0, rfl⟩ | exact ⟨e0, rfl⟩
  have hk : decide (0 ≤ g) = true := hk
  have h0 := of_decide_eq_true hk
  rw [hk, Bool.true_and] at e0
  repeat walk_at "pv"
  refine ite_k (fun hk => ?_) fun hk => ?_
  · have hk : (!decide (g < n)) = true := hk
    have hk : decide (g < n) = false := by simpa using hk
    rw [hk] at e0
    repeat walk_at "pv"
    first | exact ⟨rfl, e0, rfl⟩ | exact ⟨e0, rfl⟩
  have hk : (!decide (g < n)) = false := hk
  have hk : decide (g < n) = true := by simpa using hk
  have h1 := of_decide_eq_true hk
  rw [hk] at e0
  repeat walk_at "pv"
  refine ite_f (show decide ((60 : Int) < n) = false from decide_eq_false (by omega)) ?_
  obtain ⟨G, rfl⟩ : ∃ G : Nat, g = (G : Int) := ⟨g.toNat, by omega⟩
  rw [Int.toNat_natCast]
  have dd : due1 G = .tuple [.str "kinds", intsT (bits G)] := rfl
  generalize due1 G = D at *
  repeat walk_at "pv"
  refine while_go (I := fun i e => ∃ (left : Nat) (kinds : List Int), left < 2 ^ (6 - i) ∧ kinds.length = i ∧ bits left ++ kinds = bits G ∧ e = [.val (.int n), .val (.int (G : Int)), .val (intsT kinds), .val (.int (left : Int))]) 6 hw (fun i e hi hI => ?_) ⟨G, [], by show G < 64; omega, rfl, List.append_nil _, rfl⟩
  obtain ⟨left, kinds, hl, hkl, hb, rfl⟩ := hI
  repeat walk_at "pv"
  refine ite_k (fun hk => ?_) fun hk => ?_
  · have hk : decide ((0 : Int) < (left : Int)) = true := hk
    have hk := of_decide_eq_true hk
    have hi6 : i < 6 := by
      refine Decidable.byContradiction fun z => ?_
      have : i = 6 := by omega
      subst this
      have : left < 1 := hl
      omega
    refine ⟨hi6, ?_⟩
    have l64 : left < 64 := by
      have : 2 ^ (6 - i) ≤ 2 ^ 6 := Nat.pow_le_pow_right (by decide) (by omega)
      have : (2 : Nat) ^ 6 = 64 := rfl
      omega
    have bs := bits_step (g := left) (by omega) l64
    have em : (left : Int).fmod 2 = ((left % 2 : Nat) : Int) := by
      rw [Int.fmod_eq_emod_of_nonneg _ (by decide)]
      omega
    have ed : (left : Int).fdiv 2 = ((left / 2 : Nat) : Int) := by
      rw [Int.fdiv_eq_ediv_of_nonneg _ (by decide)]
      omega
    have ad : fAdd (.tuple [.int ((left : Int).fmod 2)]) (intsT kinds) = some (intsT (((left % 2 : Nat) : Int) :: kinds)) := by
      rw [em]
      exact add_ints (ns := [((left % 2 : Nat) : Int)]) (by show 1 + kinds.length ≤ _; omega)
    have lh : left / 2 < 2 ^ (6 - (i + 1)) := by
      have : 2 ^ (6 - i) = 2 ^ (6 - (i + 1)) * 2 := by
        rw [← Nat.pow_succ]
        congr 1
        omega
      omega
    repeat (first | with_reducible refine O_some ad ?_ | walk_at "pv")
    rw [ed]
    refine ⟨left / 2, ((left % 2 : Nat) : Int) :: kinds, lh, by rw [List.length_cons, hkl], ?_, rfl⟩
    rw [← hb, bs, List.append_assoc]
    rfl
  · have hk : decide ((0 : Int) < (left : Int)) = false := hk
    have hk := of_decide_eq_false hk
    have : left = 0 := by omega
    subst this
    have hb : kinds = bits G := hb
    rw [hb]
    subst dd
    repeat walk_at "pv"
    first | exact ⟨e0, rfl, rfl⟩ | exact ⟨e0, rfl⟩
def nxt (n p k : Int) : Int := if decide (p < n.fdiv 2) = true then 2 * p + k else 2 * (p - n.fdiv 2) + 1 - k
def PlAt (T : Tab) : Prop := ∀ n p k : Int, (-1000 ≤ p ∧ p ≤ 1000) → (-1000 ≤ n ∧ n ≤ 1000) → T.fn "place_after" [.int n, .int p, .int k] = .ok (.int (nxt n p k)) []
theorem pl_ok {T : Tab} {n p k : Int} (hp : -1000 ≤ p ∧ p ≤ 1000) (hn : -1000 ≤ n ∧ n ≤ 1000) : fnRes 3 false 4 g_place_after T [.int n, .int p, .int k] = .ok (.int (nxt n p k)) [] := by
  refine wF_eq (F_run [.val (.int n), .val (.int p), .val (.int k), .un] rfl rfl ?_)
  unfold g_place_after
  have hB : B64 = 18446744073709551616 := rfl
  have hh : -1000 ≤ n.fdiv 2 ∧ n.fdiv 2 ≤ 1000 := by
    rw [Int.fdiv_eq_ediv_of_nonneg _ (by decide)]
    omega
  have nd : nxt n p k = if decide (p < n.fdiv 2) = true then 2 * p + k else 2 * (p - n.fdiv 2) + 1 - k := rfl
  have m1 := mul_ok (a := 2) (b := p) ⟨by omega, by omega⟩
  have m2 := mul_ok (a := 2) (b := p - n.fdiv 2) ⟨by omega, by omega⟩
  repeat walk_at "pv"
  refine ite_k (fun hk => ?_) fun hk => ?_
  · have hk : decide (p < n.fdiv 2) = true := hk
    rw [if_pos hk] at nd
    rw [nd]
    repeat (first | with_reducible refine O_some m1 ?_ | walk_at "pv")
    first | done | rfl | exact ⟨rfl, rfl⟩
  · have hk : decide (p < n.fdiv 2) = false := hk
    rw [if_neg (by rw [hk]; exact Bool.false_ne_true)] at nd
    rw [nd]
    repeat (first | with_reducible refine O_some m2 ?_ | walk_at "pv")
    first | done | rfl | exact ⟨rfl, rfl⟩
def LnAt (T : Tab) : Prop := ∀ n p k : Int, (-1000 ≤ p ∧ p ≤ 1000) → (-1000 ≤ n ∧ n ≤ 1000) → T.fn "_law_next_place" [.int n, .int p, .int k] = .ok (.int (nxt n p k)) []
theorem ln_ok {T : Tab} {n p k : Int} (hp : -1000 ≤ p ∧ p ≤ 1000) (hn : -1000 ≤ n ∧ n ≤ 1000) : fnRes 3 false 4 g__law_next_place T [.int n, .int p, .int k] = .ok (.int (nxt n p k)) [] := by
  refine wF_eq (F_run [.val (.int n), .val (.int p), .val (.int k), .un] rfl rfl ?_)
  unfold g__law_next_place
  have hB : B64 = 18446744073709551616 := rfl
  have hh : -1000 ≤ n.fdiv 2 ∧ n.fdiv 2 ≤ 1000 := by
    rw [Int.fdiv_eq_ediv_of_nonneg _ (by decide)]
    omega
  have nd : nxt n p k = if decide (p < n.fdiv 2) = true then 2 * p + k else 2 * (p - n.fdiv 2) + 1 - k := rfl
  have m1 := mul_ok (a := 2) (b := p) ⟨by omega, by omega⟩
  have m2 := mul_ok (a := 2) (b := p - n.fdiv 2) ⟨by omega, by omega⟩
  repeat walk_at "pv"
  refine ite_k (fun hk => ?_) fun hk => ?_
  · have hk : decide (p < n.fdiv 2) = true := hk
    rw [if_pos hk] at nd
    rw [nd]
    repeat (first | with_reducible refine O_some m1 ?_ | walk_at "pv")
    first | done | rfl | exact ⟨rfl, rfl⟩
  · have hk : decide (p < n.fdiv 2) = false := hk
    rw [if_neg (by rw [hk]; exact Bool.false_ne_true)] at nd
    rw [nd]
    repeat (first | with_reducible refine O_some m2 ?_ | walk_at "pv")
    first | done | rfl | exact ⟨rfl, rfl⟩
def reach (n s : Nat) : Nat := min (2 ^ s) n
def both (n : Int) (l : List Int) : List Int := l.map (fun p => nxt n p 0) ++ l.map fun p => nxt n p 1
theorem half_two {n : Nat} (h : (n : Int).fmod 2 ≠ 1) : (n : Int).fdiv 2 = ((n / 2 : Nat) : Int) ∧ 2 * (n / 2) = n := by
  rw [Int.fmod_eq_emod_of_nonneg _ (by decide)] at h
  rw [Int.fdiv_eq_ediv_of_nonneg _ (by decide)]
  omega
theorem both_up {n m : Nat} (h : (n : Int).fmod 2 ≠ 1) (hm : m ≤ n) : upSet (both (n : Int) (upto m)) = upto (min (2 * m) n) := by
  obtain ⟨h1, h2⟩ := half_two h
  have nx : ∀ (p : Nat) (k : Int), nxt (n : Int) (p : Int) k = if p < n / 2 then 2 * (p : Int) + k else 2 * ((p : Int) - ((n / 2 : Nat) : Int)) + 1 - k := fun p k => by
    unfold nxt
    rw [h1]
    by_cases q : p < n / 2
    · rw [if_pos (decide_eq_true (by omega)), if_pos q]
    · rw [if_neg (by rw [decide_eq_false (by omega)]; exact Bool.false_ne_true), if_neg q]
  refine up_unique (upSet_up _) ?_ fun x => ?_
  · unfold upto
    rw [List.pairwise_map]
    exact List.pairwise_lt_range.imp fun h => by omega
  · rw [upSet_mem]
    unfold both
    rw [List.mem_append, List.mem_map, List.mem_map]
    constructor
    · rintro (⟨p, hp, rfl⟩ | ⟨p, hp, rfl⟩)
      · obtain ⟨i, hi, rfl⟩ := upto_mem hp
        rw [nx]
        split
        · exact List.mem_map.mpr ⟨2 * i, List.mem_range.mpr (by omega), by omega⟩
        · exact List.mem_map.mpr ⟨2 * (i - n / 2) + 1, List.mem_range.mpr (by omega), by omega⟩
      · obtain ⟨i, hi, rfl⟩ := upto_mem hp
        rw [nx]
        split
        · exact List.mem_map.mpr ⟨2 * i + 1, List.mem_range.mpr (by omega), by omega⟩
        · exact List.mem_map.mpr ⟨2 * (i - n / 2), List.mem_range.mpr (by omega), by omega⟩
    · intro hx
      obtain ⟨i, hi, rfl⟩ := upto_mem hx
      have m1 : ((i / 2 : Nat) : Int) ∈ upto m := List.mem_map.mpr ⟨i / 2, List.mem_range.mpr (by omega), rfl⟩
      by_cases q : i % 2 = 0
      · exact .inl ⟨_, m1, by rw [nx, if_pos (by omega)]; omega⟩
      · exact .inr ⟨_, m1, by rw [nx, if_pos (by omega)]; omega⟩
theorem reach_succ (n s : Nat) : reach n (s + 1) = min (2 * reach n s) n := by
  unfold reach
  rw [Nat.pow_succ]
  omega
theorem in_upto {m g : Nat} : decide ((g : Int) ∈ upto m) = decide (g < m) := by
  rw [decide_eq_decide]
  constructor
  · intro h
    obtain ⟨i, hi, e⟩ := upto_mem h
    omega
  · intro h
    exact List.mem_map.mpr ⟨g, List.mem_range.mpr h, rfl⟩
end W24
end
section
set_option Elab.async false
set_option linter.all false
set_option maxRecDepth 100000
set_option maxHeartbeats 400000
set_option autoImplicit false
namespace W24
open PySem PySem.Spec PyProof.Rows L2 Pv Sh
local macro_rules | `(tactic| walk_at "pv") => `(tactic| first | ((with_reducible apply S_env); focus (dsimp only [List.set_cons_zero, List.set_cons_succ]; first | done | exact rfl)) | ((with_reducible apply E_env); focus (dsimp only [List.set_cons_zero, List.set_cons_succ]; first | done | exact rfl)) | ((with_reducible apply P_some); focus (dsimp only [takes_cons, takes_nil, takeW_d, Option.bind_some, Option.map_some]; first | done | exact rfl)) | ((with_reducible apply O_some); focus (dsimp only [derefs_cons, derefs_nil, deref_d, Option.bind_some, Option.map_some]; first | done | exact rfl)) | with_reducible refine E_bin ?_ | with_reducible refine E_cmp ?_ | with_reducible refine E_chain ?_ | with_reducible refine E_tru ?_ | with_reducible refine E_ofT ?_ | with_reducible refine E_notT ?_ | with_reducible refine E_isN ?_ | with_reducible refine E_and ?_ | with_reducible refine E_or ?_ | with_reducible refine E_andT ?_ | with_reducible refine E_orT ?_ | with_reducible refine E_if ?_ | with_reducible refine E_nil ?_ | with_reducible refine E_cons ?_ | with_reducible refine E_call ?_ | with_reducible refine E_fz ?_ | with_reducible refine E_tup ?_ | with_reducible refine E_lst ?_ | with_reducible refine E_emptyD ?_ | with_reducible refine E_src ?_ | with_reducible refine E_range1 ?_ | with_reducible refine E_range2 ?_ | with_reducible refine E_isi ?_ | with_reducible refine E_listOf ?_ | with_reducible refine E_noP ?_ | with_reducible refine E_part ?_ | with_reducible refine E_sl ?_ | with_reducible refine E_rev ?_ | with_reducible refine E_neg ?_ | with_reducible refine E_lenSet ?_ | with_reducible refine E_tupRg1 ?_ | with_reducible refine E_tupRg2 ?_ | with_reducible refine E_callF ?_ | with_reducible refine E_callIo ?_ | with_reducible refine E_lit ?_ | with_reducible refine E_var ?_ | with_reducible refine E_meth ?_ | with_reducible refine E_repF ?_ | with_reducible refine E_lstRg1 ?_ | with_reducible refine E_yes ?_ | with_reducible refine E_sorted ?_ | with_reducible refine E_lenSetT ?_ | with_reducible refine E_index ?_ | with_reducible refine E_catF ?_ | with_reducible refine E_upSet ?_ | with_reducible refine E_slS ?_ | with_reducible refine E_getLit ?_ | with_reducible refine E_enum ?_ | with_reducible refine E_zip ?_ | with_reducible refine E_join ?_ | with_reducible refine E_split ?_ | with_reducible refine E_fresh ?_ | with_reducible refine E_valK ?_ | with_reducible refine Src_dl ?_ | with_reducible refine Src_dt ?_ | with_reducible refine Io_sl ?_ | with_reducible refine L2_2 ?_ | with_reducible refine L3_3 ?_ | with_reducible refine S_parX ?_ | with_reducible refine S_seq ?_ | with_reducible refine S_skip ?_ | with_reducible refine S_break ?_ | with_reducible refine S_cont ?_ | with_reducible refine S_raise ?_ | with_reducible refine S_retN ?_ | with_reducible refine S_if ?_ | with_reducible refine S_drop ?_ | with_reducible refine S_ret ?_ | with_reducible refine S_set ?_ | with_reducible refine S_setO ?_ | with_reducible refine S_setG ?_ | with_reducible refine S_par2 ?_ | with_reducible refine S_par3 ?_ | with_reducible refine S_setIx ?_ | with_reducible refine S_aug ?_ | with_reducible refine S_augIx ?_ | with_reducible refine S_for ?_ | ((with_reducible apply V_val); focus exact rfl) | ((with_reducible apply V_own); focus exact rfl) | ((with_reducible apply V_scr); focus exact rfl) | ((with_reducible apply Own_own); focus exact rfl) | ((with_reducible apply O_some); focus exact rfl) | ((with_reducible apply B_some); focus exact rfl) | ((with_reducible apply P_some); focus exact rfl) | ((with_reducible apply ite_t); focus exact rfl) | ((with_reducible apply ite_f); focus exact rfl) | ((with_reducible apply O_some); focus (first | exact mul_ok (by decide) | exact mod_ok (by omega) | exact div_ok (by omega))) | ((with_reducible refine And.intro ?_ ?_); focus (first | exact rfl | decide | (simp only [List.length_cons, List.length_nil]; first | done | decide))))

def PP (d : PyData) : Prop := AskedZ 1000000 4 2000 d
theorem PP_unit : PP (.tuple []) := .inl ⟨unit_sd, by show 1 + 0 ≤ 2000; decide⟩
theorem PP_non : PP .none := .inl ⟨Sd_non, by show 1 ≤ 2000; decide⟩
theorem PP_gd {d : PyData} (h : PP d) : Gd d := gd_asked (by decide) h.asked
theorem bits_few {g : Nat} (h : g < 64) : (bits g).length ≤ 6 := (bits_lt h).mpr h
theorem due1_told {g B : Nat} (hg : g < 64) (hB : 300 ≤ B) : ∃ xs, due1 g = .tuple xs ∧ Told B 2 xs ∧ nz (.tuple xs) ≤ 60 := by
  have w1 := bits_few hg
  have w2 := bits_low 6 g
  unfold due1 bits at *
  generalize bitsF 6 g = R at *
  refine ⟨_, rfl, parts_told (by decide +kernel) (lay_of _) hB (by show 1 + 1 ≤ B; omega) (fun x hx => ?_), ?_⟩
  · rw [List.mem_singleton] at hx
    subst hx
    exact ⟨ints_sd (by omega) fun c hc => by
      have := w2 c hc
      omega, noS_ints _⟩
  · have l4 : ("kinds" : Str).length ≤ 5 := by decide +kernel
    rw [nz_tup]
    simp only [nzs]
    rw [nz_str, nz_tup, nzs_ints]
    omega
theorem due1_sd {g : Nat} (hg : g < 64) : Sd 1000000 2 (due1 g) ∧ nz (due1 g) ≤ 60 := by
  obtain ⟨xs, e, t, z⟩ := due1_told (B := 1000000) hg (by decide)
  rw [e]
  exact ⟨t.sd, z⟩
theorem PP_due1 {g : Nat} (hg : g < 64) : PP (due1 g) := .inl ⟨(due1_sd hg).1.mono (Nat.le_refl _) (by decide), Nat.le_trans (due1_sd hg).2 (by decide)⟩
/-- where kinds lead -/
def walkP (n : Int) : Int → List Int → Int
  | p, [] => p
  | p, k :: ks => walkP n (nxt n p k) ks
theorem walk_app (n : Int) : ∀ (p : Int) (a b : List Int), walkP n p (a ++ b) = walkP n (walkP n p a) b
  | _, [], _ => rfl
  | p, k :: a, b => walk_app n (nxt n p k) a b
theorem nxt_low {n : Nat} (hn : (n : Int).fmod 2 ≠ 1) {p k : Int} (hp : 0 ≤ p ∧ p < n) (hk : k = 0 ∨ k = 1) : 0 ≤ nxt n p k ∧ nxt n p k < n := by
  obtain ⟨h1, h2⟩ := half_two hn
  unfold nxt
  rw [h1]
  by_cases q : p < ((n / 2 : Nat) : Int)
  · rw [if_pos (decide_eq_true q)]
    omega
  · rw [if_neg (by rw [decide_eq_false q]; exact Bool.false_ne_true)]
    omega
theorem walk_low {n : Nat} (hn : (n : Int).fmod 2 ≠ 1) : ∀ {l : List Int} {p : Int}, (0 ≤ p ∧ p < n) → (∀ k ∈ l, k = 0 ∨ k = 1) → 0 ≤ walkP n p l ∧ walkP n p l < n
  | [], p, hp, _ => hp
  | k :: l, p, hp, h => walk_low hn (l := l) (p := nxt n p k) (nxt_low hn hp (h k List.mem_cons_self)) fun x hx => h x (List.mem_cons_of_mem _ hx)
def restB (n g : Nat) (q : PyData) : Bool := placesB 2 q && (wholesB (bits g).length q && decide (walkP n 0 (rowI q) = (g : Int)))
def acc1B (n g : Nat) (d : PyData) : Bool := toldB "kinds" 2 d && at1 (restB n g) d
theorem acc1_is {n g : Nat} {q : PyData} (h : toldB "kinds" 2 (.tuple [.str "kinds", q]) = true) : acc1B n g (.tuple [.str "kinds", q]) = restB n g q := by
  unfold acc1B
  rw [h, Bool.true_and]
  rfl
theorem place_whole {x : PyData} (h : placeB 2 x = true) : ∃ k : Int, x = .int k ∧ (k = 0 ∨ k = 1) := by
  have h : (wholeB x && (match x with | .int i => decide (0 ≤ i) && decide (i < 2) | _ => false)) = true := by
    cases x with
    | int i =>
      show (true && (decide (0 ≤ i) && decide (i < 2))) = true
      exact h
    | _ => cases h
  cases x with
  | int i =>
    refine ⟨i, rfl, ?_⟩
    have h : (true && (decide (0 ≤ i) && decide (i < 2))) = true := h
    rw [Bool.true_and, Bool.and_eq_true, decide_eq_true_eq, decide_eq_true_eq] at h
    omega
  | _ => cases h
theorem places_row {q : PyData} (h : placesB 2 q = true) : ∃ l : List Int, q = intsT l ∧ ∀ k ∈ l, k = 0 ∨ k = 1 := by
  cases q with
  | tuple xs =>
    have h : xs.all (placeB 2) = true := h
    refine ⟨xs.map getI, ?_, fun k hk => ?_⟩
    · congr 1
      rw [List.map_map]
      refine (List.map_id xs).symm.trans (List.map_congr_left fun x hx => ?_)
      obtain ⟨k, rfl, _⟩ := place_whole (List.all_eq_true.mp h x hx)
      rfl
    · obtain ⟨x, hx, rfl⟩ := List.mem_map.mp hk
      obtain ⟨k2, rfl, hk2⟩ := place_whole (List.all_eq_true.mp h x hx)
      exact hk2
  | _ => cases h
theorem place_int (k : Int) : placeB 2 (.int k) = (decide (0 ≤ k) && decide (k < 2)) := by
  first
    | rfl
    | (show (true && (decide (0 ≤ k) && decide (k < 2))) = _; rw [Bool.true_and])
theorem row_places {l : List Int} : placesB 2 (intsT l) = l.all fun k => decide (0 ≤ k) && decide (k < 2) := by
  show (l.map PyData.int).all (placeB 2) = _
  rw [List.all_map]
  first
    | done
    | rfl
    | (congr 1; funext k; exact place_int k)
def fZ (n : Int) : PyData → PyData
  | .tuple [.int p, .int k] => .int (nxt n p k)
  | _ => .none
theorem acc1_ok {T : Tab} (hw : 6 < T.wh) (LN : LnAt T) (LI : LIsAt T) (LP : LPlacesAt T) {n g : Nat} {a : PyData} (hn : (n : Int).fmod 2 ≠ 1) (h2 : 2 ≤ n) (h24 : n ≤ 24) (hg : g < n) (ha : PP a) : fnRes 3 false 8 g__law_accepts T [.int (n : Int), .int (g : Int), a] = .ok (.bool (acc1B n g a)) [] := by
  have hL : LINE = 16777216 := rfl
  have li := LI 1000000 4 a "kinds" 2 (by decide) (by decide) ha.asked (by decide +kernel) (by decide)
  have g64 : g < 64 := by omega
  refine wF_eq (F_run [.val (.int (n : Int)), .val (.int (g : Int)), .val a, .un, .un, .un, .un, .un] rfl rfl ?_)
  unfold g__law_accepts
  have up1 : [PyData.int 0] = (upto (reach n 0)).map .int := by
    unfold reach
    rw [show min (2 ^ 0) n = 1 by show min 1 n = 1; omega]
    rfl
  repeat walk_at "pv"
  refine while_go (I := fun i e => 2 ^ i ≤ 64 ∧ (i = 0 ∨ 2 ^ (i - 1) ≤ g) ∧ ∃ (c5 c6 : SV), (c5 = .un) ∧ (c6 = .un) ∧ e = [.val (.int (n : Int)), .val (.int (g : Int)), .val a, .val (.list ((upto (reach n i)).map .int)), .val (.int (i : Int)), c5, c6, .un]) 6 hw (fun i e hi hI => ?_) ⟨by decide, .inl rfl, .un, .un, rfl, rfl, by rw [← up1]; rfl⟩
  obtain ⟨hp, hprev, c5, c6, rfl, rfl, rfl⟩ := hI
  have nin : fIn true (.int (g : Int)) (.list ((upto (reach n i)).map .int)) = some (.bool (!decide ((g : Int) ∈ upto (reach n i)))) := not_list
  rw [in_upto] at nin
  have rl : reach n i ≤ n := Nat.min_le_right _ _
  have bu := both_up hn rl
  rw [← reach_succ] at bu
  have ulen := upto_len (reach n i)
  have umem : ∀ x ∈ upto (reach n i), -1000 ≤ x ∧ x ≤ 1000 := fun x hx => by
    obtain ⟨j, hj, rfl⟩ := upto_mem hx
    omega
  have rg : decide (g < reach n i) = decide (g < 2 ^ i) := by
    rw [decide_eq_decide]
    unfold reach
    omega
  rw [rg] at nin
  generalize upto (reach n (i + 1)) = U2 at *
  generalize upto (reach n i) = U1 at *
  repeat (first | with_reducible refine B_some nin ?_ | walk_at "pv")
  refine ite_k (fun hk => ?_) fun hk => ?_
  · have hk : (!decide (g < 2 ^ i)) = true := hk
    have hk : ¬ g < 2 ^ i := by simpa using hk
    have hi6 : i < 6 := by
      refine Decidable.byContradiction fun z => ?_
      have : i = 6 := by omega
      subst this
      exact hk g64
    refine ⟨hi6, ?_⟩
    have p2 : 2 ^ (i + 1) ≤ 64 := by
      have : 2 ^ (i + 1) ≤ 2 ^ 6 := Nat.pow_le_pow_right (by decide) (by omega)
      exact this
    clear rg nin
    have bl : (both (n : Int) U1).length ≤ 48 := by
      unfold both
      rw [List.length_append, List.length_map, List.length_map]
      omega
    have ups : fUpSet (.list ((both (n : Int) U1).map .int)) = some (U2.map .int) := by
      show (intsOf ((both (n : Int) U1).map .int)).bind _ = _
      rw [Sh.ints_of]
      show (if (both (n : Int) U1).length < 64 then some ((upSet (both (n : Int) U1)).map PyData.int) else none) = _
      rw [if_pos (by omega), bu]
    have pr0 : ((U1.filter fun _ => true).map fun p => PyData.tuple [.int p, .int 0]) = U1.map fun p => PyData.tuple [.int p, .int 0] := by rw [filt_all]
    have pr1 : ((U1.filter fun _ => true).map fun p => PyData.tuple [.int p, .int 1]) = U1.map fun p => PyData.tuple [.int p, .int 1] := by rw [filt_all]
    have ad : fAdd (.list (U1.map fun p => PyData.tuple [.int p, .int 0])) (.list (U1.map fun p => PyData.tuple [.int p, .int 1])) = some (.list ((U1.map fun p => .tuple [.int p, .int 0]) ++ U1.map fun p => PyData.tuple [.int p, .int 1])) := addL (by rw [List.length_map, List.length_map]; omega)
    have bv : ((((U1.map fun p => PyData.tuple [.int p, .int 0]) ++ U1.map fun p => PyData.tuple [.int p, .int 1]).filter fun _ => true).map (fZ (n : Int))) = (both (n : Int) U1).map .int := by
      rw [filt_all]
      unfold both
      rw [List.map_append, List.map_append, List.map_map, List.map_map, List.map_map, List.map_map]
      rfl
    repeat walk_at "pv"
    refine lc_pure (ds := (U1.map fun p => PyData.tuple [.int p, .int 0]) ++ U1.map fun p => PyData.tuple [.int p, .int 1]) (e0 := [.val (.int (n : Int)), .val (.int (g : Int)), .val a, .val (.list (U1.map .int)), .val (.int (i : Int)), .un, .un, .un]) (p := fun _ => true) (f := fZ (n : Int)) ?_ rfl (by rw [List.length_append, List.length_map, List.length_map]; omega) (fun x hx => ?_) rfl ?_
    · repeat walk_at "pv"
      refine lc1i U1 (fun _ => true) (fun p => .tuple [.int p, .int 0]) ?_ rfl (by omega) (fun x hx => ⟨⟨rfl, rfl⟩, fun _ => ?_⟩) rfl ?_
      · repeat walk_at "pv"
        first | done | rfl | exact ⟨rfl, rfl⟩
      · repeat walk_at "pv"
        first | done | rfl | exact ⟨rfl, rfl⟩
      rw [pr0]
      repeat walk_at "pv"
      refine lc1i U1 (fun _ => true) (fun p => .tuple [.int p, .int 1]) ?_ rfl (by omega) (fun x hx => ⟨⟨rfl, rfl⟩, fun _ => ?_⟩) rfl ?_
      · repeat walk_at "pv"
        first | done | rfl | exact ⟨rfl, rfl⟩
      · repeat walk_at "pv"
        first | done | rfl | exact ⟨rfl, rfl⟩
      rw [pr1]
      repeat (first | with_reducible refine O_some ad ?_ | walk_at "pv")
      first | done | rfl | exact ⟨rfl, rfl⟩
    · have key : ∃ p k : Int, x = .tuple [.int p, .int k] ∧ (-1000 ≤ p ∧ p ≤ 1000) := by
        rcases List.mem_append.mp hx with hx | hx
        · obtain ⟨p, hp, rfl⟩ := List.mem_map.mp hx
          exact ⟨p, 0, rfl, umem p hp⟩
        · obtain ⟨p, hp, rfl⟩ := List.mem_map.mp hx
          exact ⟨p, 1, rfl, umem p hp⟩
      obtain ⟨p, k, rfl, hpp⟩ := key
      have ln := LN (n : Int) p k hpp ⟨by omega, by omega⟩
      refine ⟨[.val (.int (n : Int)), .val (.int (g : Int)), .val a, .val (.list (U1.map .int)), .val (.int (i : Int)), .val (.int p), .val (.int k), .un], rfl, rfl, ⟨rfl, rfl⟩, fun _ => ?_⟩
      have fz : fZ (n : Int) (.tuple [.int p, .int k]) = .int (nxt (n : Int) p k) := rfl
      rw [fz]
      generalize nxt (n : Int) p k = V at *
      repeat walk_at "pv"
      refine wF_cast ln ?_
      refine ⟨rfl, .inl rfl, ?_⟩
      repeat walk_at "pv"
      first | done | rfl | exact ⟨rfl, rfl⟩
    rw [bv]
    repeat (first | with_reducible refine O_some ups ?_ | walk_at "pv")
    exact ⟨p2, .inr (by show 2 ^ i ≤ g; omega), .un, .un, rfl, rfl, rfl⟩
  · have hk : (!decide (g < 2 ^ i)) = false := hk
    have hk : g < 2 ^ i := by simpa using hk
    clear bu
    have sl : (bits g).length = i := by
      have a := (bits_lt (s := i) g64).mpr hk
      rcases hprev with rfl | z
      · omega
      · have b : ¬ (bits g).length ≤ i - 1 := fun y => by
          have := (bits_lt (s := i - 1) g64).mp y
          omega
        omega
    repeat walk_at "pv"
    refine wF_cast li ?_
    refine ⟨rfl, .inl rfl, ?_⟩
    cases htold : toldB "kinds" 2 a with
    | false =>
      have e : acc1B n g a = false := by
        unfold acc1B
        rw [htold, Bool.false_and]
      repeat walk_at "pv"
      exact ⟨by rw [e], rfl⟩
    | true =>
    obtain ⟨r, rfl, hr⟩ := told_word htold
    obtain ⟨q, rfl⟩ := one_row hr
    have sdd := Sd_of_asked ha.asked
    have sdq : Sd 1000000 3 q := (Sd_tup.mp sdd).2 q (List.mem_cons_of_mem _ List.mem_cons_self)
    have e1 : fIx (.tuple [.str "kinds", q]) (.int 1) = some q := atI_at (i := 1) rfl
    have lp := LP 1000000 3 q 2 (by decide) (by decide) (fun _ _ => sdq)
    have ae := acc1_is (n := n) (g := g) htold
    generalize acc1B n g (.tuple [.str "kinds", q]) = AB at *
    unfold restB at ae
    rw [sl] at ae
    repeat (first | with_reducible refine O_some e1 ?_ | walk_at "pv")
    refine wF_cast lp ?_
    refine ⟨rfl, .inl rfl, ?_⟩
    cases hpl : placesB 2 q with
    | false =>
      rw [hpl, Bool.false_and] at ae
      repeat walk_at "pv"
      exact ⟨by rw [ae], rfl⟩
    | true =>
    obtain ⟨l, rfl, hl01⟩ := places_row hpl
    have ll : l.length ≤ 1000000 := by
      have := (Sd_tup.mp sdq).1
      rwa [List.length_map] at this
    have lm : (l.map PyData.int).length = l.length := List.length_map _
    rw [hpl, Bool.true_and, rowI_is] at ae
    have wl : wholesB i (intsT l) = decide (l.length = i) := by
      show (decide ((l.map PyData.int).length = i) && (l.map PyData.int).all wholeB) = _
      rw [all_whole, Bool.and_true, List.length_map]
    rw [wl] at ae
    repeat (first | with_reducible refine O_some e1 ?_ | walk_at "pv")
    rw [eqv_i, lm]
    refine ite_k (fun hk2 => ?_) fun hk2 => ?_
    · have hk2 : decide ((l.length : Int) = (i : Int)) = false := by simpa using hk2
      have hk2 := of_decide_eq_false hk2
      rw [decide_eq_false (show ¬ l.length = i by omega), Bool.false_and] at ae
      repeat walk_at "pv"
      exact ⟨by rw [ae], rfl⟩
    have hk2 : decide ((l.length : Int) = (i : Int)) = true := by simpa using hk2
    have hk2 := of_decide_eq_true hk2
    rw [decide_eq_true (show l.length = i by omega), Bool.true_and] at ae
    repeat (first | with_reducible refine O_some e1 ?_ | walk_at "pv")
    refine for_inv (I := fun j e => ∃ (c6 : SV), e = [.val (.int (n : Int)), .val (.int (g : Int)), .val (.tuple [.str "kinds", intsT l]), .val (.list (U1.map .int)), .val (.int (i : Int)), .val (.int (walkP n 0 (l.take j))), c6, .un]) _ (fun j d e hd hI => ?_) (fun e hI => ?_) ⟨_, rfl⟩
    · obtain ⟨c6, rfl⟩ := hI
      obtain ⟨k, rfl, hkj, hkm⟩ := get_int hd
      refine ⟨[.val (.int (n : Int)), .val (.int (g : Int)), .val (.tuple [.str "kinds", intsT l]), .val (.list (U1.map .int)), .val (.int (i : Int)), .val (.int (walkP n 0 (l.take j))), .val (.int k), .un], rfl, ?_⟩
      have wlow := walk_low hn (l := l.take j) (p := 0) ⟨by omega, by omega⟩ fun x hx => hl01 x (List.mem_of_mem_take hx)
      have ln := LN (n : Int) (walkP n 0 (l.take j)) k ⟨by omega, by omega⟩ ⟨by omega, by omega⟩
      have wn : walkP n 0 (l.take (j + 1)) = nxt n (walkP n 0 (l.take j)) k := by
        rw [List.take_add_one, hkj, walk_app]
        rfl
      rw [wn]
      generalize nxt (n : Int) (walkP n 0 (l.take j)) k = V at *
      generalize walkP n 0 (l.take j) = W at *
      repeat walk_at "pv"
      refine wF_cast ln ?_
      refine ⟨rfl, .inl rfl, ?_⟩
      repeat walk_at "pv"
      exact ⟨_, rfl⟩
    · obtain ⟨c6, rfl⟩ := hI
      rw [lm, List.take_length]
      generalize walkP n 0 l = W at *
      repeat walk_at "pv"
      first | exact ⟨by rw [eqv_i, ae], rfl⟩ | exact ⟨by rw [ae, eqv_i], rfl⟩ | (rw [eqv_i, ae]; exact ⟨rfl, rfl⟩)
def Ju1At (T : Tab) : Prop := ∀ (n g : Int) (d : PyData), n ≤ 60 → PP d → T.fn "judge_to_place" [.int n, .int g, d] = if ok1 n g = true then .ok (.bool (acc1B n.toNat g.toNat d)) [] else .exc "UnfitCard"
theorem ok1_all {n g : Int} (h : ok1 n g = true) : 2 ≤ n ∧ n.fmod 2 ≠ 1 ∧ 0 ≤ g ∧ g < n := by
  unfold ok1 at h
  simp only [Bool.and_eq_true, Bool.not_eq_true', decide_eq_true_eq, decide_eq_false_iff_not] at h
  omega
theorem judge1_ok {T : Tab} (TO1 : ToAt T) (TO : ToldAt T) (WS : WholesAt T) (PL : PlAt T) {n g : Int} {d : PyData} (hn60 : n ≤ 60) (hd : PP d) : fnRes 3 false 6 g_judge_to_place T [.int n, .int g, d] = if ok1 n g = true then .ok (.bool (acc1B n.toNat g.toNat d)) [] else .exc "UnfitCard" := by
  refine if_eq (F_run [.val (.int n), .val (.int g), .val d, .un, .un, .un] rfl rfl ?_)
  unfold g_judge_to_place
  have hL : LINE = 16777216 := rfl
  repeat walk_at "pv"
  refine wF_cast (TO1 n g hn60) ?_
  by_cases hv : ok1 n g = true
  case neg =>
    rw [if_neg hv]
    exact ⟨rfl, by simpa using hv, rfl⟩
  rw [if_pos hv]
  refine ⟨rfl, .inl rfl, ?_⟩
  obtain ⟨h2, hn, h0, hg⟩ := ok1_all hv
  obtain ⟨N, rfl⟩ : ∃ N : Nat, n = (N : Int) := ⟨n.toNat, by omega⟩
  obtain ⟨G, rfl⟩ : ∃ G : Nat, g = (G : Int) := ⟨g.toNat, by omega⟩
  rw [Int.toNat_natCast, Int.toNat_natCast]
  have tg := TO 1000000 4 d "kinds" 2 (by decide) (by decide) hd.asked (by decide +kernel) (by decide)
  have d1 : fIx (due1 G) (.int 1) = some (intsT (bits G)) := atI_at (i := 1) rfl
  generalize due1 G = D at *
  repeat walk_at "pv"
  refine wF_cast tg ?_
  refine ⟨rfl, .inl rfl, ?_⟩
  cases htold : toldB "kinds" 2 d with
  | false =>
    have e : acc1B N G d = false := by
      unfold acc1B
      rw [htold, Bool.false_and]
    repeat walk_at "pv"
    exact ⟨hv, by rw [e], rfl⟩
  | true =>
  obtain ⟨r, rfl, hr⟩ := told_word htold
  obtain ⟨q, rfl⟩ := one_row hr
  have sdd := Sd_of_asked hd.asked
  have e1 : fIx (.tuple [.str "kinds", q]) (.int 1) = some q := atI_at (i := 1) rfl
  have ws := WS q (bits G).length (part_len sdd (List.mem_cons_of_mem _ List.mem_cons_self) (by decide))
  have lb : ((bits G).map PyData.int).length = (bits G).length := List.length_map _
  rw [← lb] at ws
  have ae := acc1_is (n := N) (g := G) htold
  generalize acc1B N G (.tuple [.str "kinds", q]) = AB at *
  unfold restB at ae
  generalize bits G = BG at *
  repeat (first | with_reducible refine O_some e1 ?_ | with_reducible refine O_some d1 ?_ | walk_at "pv")
  refine wF_cast ws ?_
  refine ⟨rfl, .inl rfl, ?_⟩
  rw [lb]
  cases hw : wholesB BG.length q with
  | false =>
    rw [hw, Bool.false_and, Bool.and_false] at ae
    repeat walk_at "pv"
    exact ⟨hv, by rw [ae], rfl⟩
  | true =>
  obtain ⟨l, rfl, hll⟩ := wholes_row hw
  rw [hw, Bool.true_and, rowI_is, row_places] at ae
  have lm : (l.map PyData.int).length = l.length := List.length_map _
  repeat (first | with_reducible refine O_some e1 ?_ | walk_at "pv")
  refine for_inv (I := fun j e => ∃ (c5 : SV), (∀ k ∈ l.take j, k = 0 ∨ k = 1) ∧ e = [.val (.int (N : Int)), .val (.int (G : Int)), .val (.tuple [.str "kinds", intsT l]), .val D, .val (.int (walkP N 0 (l.take j))), c5]) _ (fun j d e hd hI => ?_) (fun e hI => ?_) ⟨_, (fun k h => by cases h), rfl⟩
  · obtain ⟨c5, hl01, rfl⟩ := hI
    obtain ⟨k, rfl, hkj, hkm⟩ := get_int hd
    refine ⟨[.val (.int (N : Int)), .val (.int (G : Int)), .val (.tuple [.str "kinds", intsT l]), .val D, .val (.int (walkP N 0 (l.take j))), .val (.int k)], rfl, ?_⟩
    have wlow := walk_low hn (l := l.take j) (p := 0) ⟨by omega, by omega⟩ hl01
    have pl := PL (N : Int) (walkP N 0 (l.take j)) k ⟨by omega, by omega⟩ ⟨by omega, by omega⟩
    have wn : walkP N 0 (l.take (j + 1)) = nxt N (walkP N 0 (l.take j)) k := by
      rw [List.take_add_one, hkj, walk_app]
      rfl
    have tk : l.take (j + 1) = l.take j ++ [k] := by rw [List.take_add_one, hkj]; rfl
    rw [wn]
    generalize nxt (N : Int) (walkP N 0 (l.take j)) k = V at *
    generalize walkP N 0 (l.take j) = W at *
    have it : fIn true (.int k) (.tuple [.int 0, .int 1]) = some (.bool (!decide (k ∈ [(0 : Int), 1]))) := not_row (ns := [0, 1])
    have bad : ¬ (k = 0 ∨ k = 1) → AB = false := fun z => by
      rw [ae, List.all_eq_false.mpr ⟨k, hkm, by
        rw [Bool.and_eq_true, decide_eq_true_eq, decide_eq_true_eq]
        omega⟩, Bool.false_and]
    repeat walk_at "pv"
    refine ite_k (fun hk => ?_) fun hk => ?_
    · have hk : (!(([(0 : Int), 1].map PyData.int).any fun z => PyData.eqv z (.int k))) = true := hk
      rw [any_mem, Bool.not_eq_true', decide_eq_false_iff_not] at hk
      simp only [List.mem_cons, List.not_mem_nil, or_false] at hk
      repeat walk_at "pv"
      exact ⟨hv, by rw [bad hk], rfl⟩
    · have hk : (!(([(0 : Int), 1].map PyData.int).any fun z => PyData.eqv z (.int k))) = false := hk
      rw [any_mem, Bool.not_eq_false', decide_eq_true_eq] at hk
      simp only [List.mem_cons, List.not_mem_nil, or_false] at hk
      repeat walk_at "pv"
      refine wF_cast pl ?_
      refine ⟨rfl, .inl rfl, ?_⟩
      repeat walk_at "pv"
      refine ⟨_, ?_, rfl⟩
      rw [tk]
      intro x hx
      rcases List.mem_append.mp hx with hx | hx
      · exact hl01 x hx
      · rw [List.mem_singleton.mp hx]
        exact hk
  · obtain ⟨c5, hl01, rfl⟩ := hI
    rw [lm, List.take_length] at *
    have al : (l.all fun k => decide (0 ≤ k) && decide (k < 2)) = true := List.all_eq_true.mpr fun k hk => by
      have := hl01 k hk
      rw [Bool.and_eq_true, decide_eq_true_eq, decide_eq_true_eq]
      omega
    rw [al, Bool.true_and] at ae
    generalize walkP N 0 l = W at *
    repeat walk_at "pv"
    first | exact ⟨hv, by rw [eqv_i, ae], rfl⟩ | exact ⟨hv, by rw [ae, eqv_i], rfl⟩ | (rw [eqv_i, ae]; exact ⟨hv, rfl, rfl⟩)
end W24
end
section
set_option Elab.async false
set_option linter.all false
set_option maxRecDepth 100000
set_option maxHeartbeats 400000
set_option autoImplicit false
namespace W24
open PySem PySem.Spec PyProof.Rows L2 Pv Sh
local macro_rules | `(tactic| walk_at "pv") => `(tactic| first | ((with_reducible apply S_env); focus (dsimp only [List.set_cons_zero, List.set_cons_succ]; first | done | exact rfl)) | ((with_reducible apply E_env); focus (dsimp only [List.set_cons_zero, List.set_cons_succ]; first | done | exact rfl)) | ((with_reducible apply P_some); focus (dsimp only [takes_cons, takes_nil, takeW_d, Option.bind_some, Option.map_some]; first | done | exact rfl)) | ((with_reducible apply O_some); focus (dsimp only [derefs_cons, derefs_nil, deref_d, Option.bind_some, Option.map_some]; first | done | exact rfl)) | with_reducible refine E_bin ?_ | with_reducible refine E_cmp ?_ | with_reducible refine E_chain ?_ | with_reducible refine E_tru ?_ | with_reducible refine E_ofT ?_ | with_reducible refine E_notT ?_ | with_reducible refine E_isN ?_ | with_reducible refine E_and ?_ | with_reducible refine E_or ?_ | with_reducible refine E_andT ?_ | with_reducible refine E_orT ?_ | with_reducible refine E_if ?_ | with_reducible refine E_nil ?_ | with_reducible refine E_cons ?_ | with_reducible refine E_call ?_ | with_reducible refine E_fz ?_ | with_reducible refine E_tup ?_ | with_reducible refine E_lst ?_ | with_reducible refine E_emptyD ?_ | with_reducible refine E_src ?_ | with_reducible refine E_range1 ?_ | with_reducible refine E_range2 ?_ | with_reducible refine E_isi ?_ | with_reducible refine E_listOf ?_ | with_reducible refine E_noP ?_ | with_reducible refine E_part ?_ | with_reducible refine E_sl ?_ | with_reducible refine E_rev ?_ | with_reducible refine E_neg ?_ | with_reducible refine E_lenSet ?_ | with_reducible refine E_tupRg1 ?_ | with_reducible refine E_tupRg2 ?_ | with_reducible refine E_callF ?_ | with_reducible refine E_callIo ?_ | with_reducible refine E_lit ?_ | with_reducible refine E_var ?_ | with_reducible refine E_meth ?_ | with_reducible refine E_repF ?_ | with_reducible refine E_lstRg1 ?_ | with_reducible refine E_yes ?_ | with_reducible refine E_sorted ?_ | with_reducible refine E_lenSetT ?_ | with_reducible refine E_index ?_ | with_reducible refine E_catF ?_ | with_reducible refine E_upSet ?_ | with_reducible refine E_slS ?_ | with_reducible refine E_getLit ?_ | with_reducible refine E_enum ?_ | with_reducible refine E_zip ?_ | with_reducible refine E_join ?_ | with_reducible refine E_split ?_ | with_reducible refine E_fresh ?_ | with_reducible refine E_valK ?_ | with_reducible refine Src_dl ?_ | with_reducible refine Src_dt ?_ | with_reducible refine Io_sl ?_ | with_reducible refine L2_2 ?_ | with_reducible refine L3_3 ?_ | with_reducible refine S_parX ?_ | with_reducible refine S_seq ?_ | with_reducible refine S_skip ?_ | with_reducible refine S_break ?_ | with_reducible refine S_cont ?_ | with_reducible refine S_raise ?_ | with_reducible refine S_retN ?_ | with_reducible refine S_if ?_ | with_reducible refine S_drop ?_ | with_reducible refine S_ret ?_ | with_reducible refine S_set ?_ | with_reducible refine S_setO ?_ | with_reducible refine S_setG ?_ | with_reducible refine S_par2 ?_ | with_reducible refine S_par3 ?_ | with_reducible refine S_setIx ?_ | with_reducible refine S_aug ?_ | with_reducible refine S_augIx ?_ | with_reducible refine S_for ?_ | ((with_reducible apply V_val); focus exact rfl) | ((with_reducible apply V_own); focus exact rfl) | ((with_reducible apply V_scr); focus exact rfl) | ((with_reducible apply Own_own); focus exact rfl) | ((with_reducible apply O_some); focus exact rfl) | ((with_reducible apply B_some); focus exact rfl) | ((with_reducible apply P_some); focus exact rfl) | ((with_reducible apply ite_t); focus exact rfl) | ((with_reducible apply ite_f); focus exact rfl) | ((with_reducible apply O_some); focus (first | exact mul_ok (by decide) | exact mod_ok (by omega) | exact div_ok (by omega))) | ((with_reducible refine And.intro ?_ ?_); focus (first | exact rfl | decide | (simp only [List.length_cons, List.length_nil]; first | done | decide))))

def ixX (z h : Nat) (k : Int) (a m : Nat) : Nat := if k = 0 then a + m * h else a * z + m
def handX (row : List Int) (z h : Nat) (k : Int) (a : Nat) : List Int := (List.range z).map fun m => row.getD (ixX z h k a m) 0
def handsX (row : List Int) (h : Nat) (k : Int) : List (List Int) := (List.range h).map (handX row (row.length / h) h k)
def due2 (row : List Int) (h : Nat) (k : Int) : PyData := .tuple [.str "hands", .tuple (rowsD (handsX row h k)), intsT (row.drop (row.length / h * h))]
def ok2 (row : List Int) (h k : Int) : Bool := decide row.Nodup && (!decide (h < 1) && decide (k ∈ [(0 : Int), 1]))
theorem pick_all {row : List Int} : ∀ {l : List Nat}, (∀ i ∈ l, i < row.length) → pickL l (row.map PyData.int) = (l.map fun i => row.getD i 0).map .int
  | [], _ => rfl
  | i :: l, h => by
    have ih := pick_all (row := row) fun j hj => h j (List.mem_cons_of_mem _ hj)
    have hi := h i List.mem_cons_self
    unfold pickL at ih ⊢
    rw [List.filterMap_cons, List.getElem?_map, List.getElem?_eq_getElem hi, List.map_cons, List.map_cons, List.getD_eq_getElem?_getD, List.getElem?_eq_getElem hi]
    show PyData.int row[i] :: _ = PyData.int row[i] :: _
    rw [ih]
theorem mul_lt {z h a m : Nat} (ha : a < h) (hm : m < z) : a + m * h < z * h := by
  have : (m + 1) * h ≤ z * h := Nat.mul_le_mul_right h hm
  rw [Nat.add_mul, Nat.one_mul] at this
  omega
theorem mul_lt2 {z h a m : Nat} (ha : a < h) (hm : m < z) : a * z + m < z * h := by
  have : (a + 1) * z ≤ h * z := Nat.mul_le_mul_right z ha
  rw [Nat.add_mul, Nat.one_mul, Nat.mul_comm h z] at this
  omega
theorem places_z {z h a : Nat} (ha : a < h) (hz : 0 < z) : Builtin.Slice.slicePlaces (a : Int) ((z * h : Nat) : Int) (h : Int) = z := by
  unfold Builtin.Slice.slicePlaces
  have hh : (0 : Int) < (h : Int) := by omega
  have lt : (a : Int) < ((z * h : Nat) : Int) := by
    have := mul_lt (m := 0) ha hz
    omega
  rw [if_pos hh, if_pos lt]
  obtain ⟨y, rfl⟩ : ∃ y, z = y + 1 := ⟨z - 1, by omega⟩
  have e : (((y + 1) * h : Nat) : Int) - (a : Int) - 1 = ((h : Int) - 1 - (a : Int)) + (y : Int) * (h : Int) := by
    rw [Nat.add_mul, Nat.one_mul, Int.natCast_add, Int.natCast_mul]
    omega
  rw [e, Int.add_mul_ediv_right _ _ (by omega), Int.ediv_eq_zero_of_lt (by omega) (by omega)]
  omega
theorem step_hand {row : List Int} {h a : Nat} (ha : a < h) : stepV (row.map PyData.int) (a : Int) ((row.length / h * h : Nat) : Int) (h : Int) = (handX row (row.length / h) h 0 a).map .int := by
  have zl : row.length / h * h ≤ row.length := Nat.div_mul_le_self _ _
  unfold stepV HT.stepIx
  rw [List.length_map]
  generalize hz : row.length / h = z at *
  rw [show min (((z * h : Nat)) : Int) (row.length : Int) = ((z * h : Nat) : Int) by omega]
  cases z with
  | zero =>
    have : Builtin.Slice.slicePlaces (min (a : Int) (row.length : Int)) (((0 * h : Nat)) : Int) (h : Int) = 0 := by
      unfold Builtin.Slice.slicePlaces
      rw [if_pos (by omega), if_neg (by omega)]
      rfl
    rw [this]
    rfl
  | succ y =>
    have al : a < row.length := by
      have := mul_lt (z := y + 1) (m := 0) ha (by omega)
      omega
    rw [show min (a : Int) (row.length : Int) = (a : Int) by omega, places_z ha (by omega)]
    have e : (List.range (y + 1)).map (fun m : Nat => ((a : Int) + (m : Int) * (h : Int)).toNat) = (List.range (y + 1)).map fun m => a + m * h := by
      refine List.map_congr_left fun m _ => ?_
      have : ((m * h : Nat) : Int) = (m : Int) * (h : Int) := Int.natCast_mul m h
      omega
    rw [e, pick_all]
    · unfold handX
      simp only [List.map_map]
      rfl
    · intro i hi
      obtain ⟨m, hm, rfl⟩ := List.mem_map.mp hi
      have := mul_lt ha (List.mem_range.mp hm)
      omega
theorem cut_hand {row : List Int} {h a : Nat} {k : Int} (hk : k ≠ 0) (ha : a < h) : (row.drop (a * (row.length / h))).take (row.length / h) = handX row (row.length / h) h k a := by
  have zl : row.length / h * h ≤ row.length := Nat.div_mul_le_self _ _
  generalize row.length / h = z at *
  unfold handX ixX
  refine List.ext_getElem? fun i => ?_
  rw [List.getElem?_take, List.getElem?_drop, List.getElem?_map]
  by_cases q : i < z
  · have := mul_lt2 ha q
    rw [if_pos q, List.getElem?_range q, List.getElem?_eq_getElem (by omega)]
    show some row[a * z + i] = some (row.getD (if k = 0 then a + i * h else a * z + i) 0)
    rw [if_neg hk, List.getD_eq_getElem?_getD, List.getElem?_eq_getElem (by omega)]
    rfl
  · rw [if_neg q, List.getElem?_eq_none (by rw [List.length_range]; omega)]
    rfl
theorem up_pair (n : Nat) : (upto n).Pairwise (· < ·) := by
  unfold upto
  rw [List.pairwise_map]
  exact List.pairwise_lt_range.imp fun h => by omega
/-- the law's places of a hand -/
theorem filt_mod {z h a : Nat} (ha : a < h) : (upto (z * h)).filter (fun c => decide (c.fmod (h : Int) = (a : Int))) = (List.range z).map fun m => ((ixX z h 0 a m : Nat) : Int) := by
  refine up_unique ((up_pair _).filter _) ?_ fun x => ?_
  · rw [List.pairwise_map]
    refine List.pairwise_lt_range.imp fun {m m'} hm => ?_
    have : m * h < m' * h := Nat.mul_lt_mul_of_pos_right hm (by omega)
    show ((a + m * h : Nat) : Int) < ((a + m' * h : Nat) : Int)
    omega
  · rw [List.mem_filter, List.mem_map]
    constructor
    · rintro ⟨h1, h2⟩
      obtain ⟨i, hi, rfl⟩ := upto_mem h1
      have h2 := of_decide_eq_true h2
      rw [Int.fmod_eq_emod_of_nonneg _ (by omega)] at h2
      have h2 : i % h = a := by omega
      refine ⟨i / h, List.mem_range.mpr ?_, ?_⟩
      · exact Nat.div_lt_of_lt_mul (by rw [Nat.mul_comm]; exact hi)
      · show ((a + i / h * h : Nat) : Int) = (i : Int)
        have := Nat.div_add_mod i h
        rw [Nat.mul_comm] at this
        omega
    · rintro ⟨m, hm, rfl⟩
      have hm := List.mem_range.mp hm
      refine ⟨List.mem_map.mpr ⟨a + m * h, List.mem_range.mpr (mul_lt ha hm), rfl⟩, decide_eq_true ?_⟩
      show ((a + m * h : Nat) : Int).fmod (h : Int) = (a : Int)
      rw [Int.fmod_eq_emod_of_nonneg _ (by omega)]
      have : (a + m * h) % h = a := by rw [Nat.add_mul_mod_self_right, Nat.mod_eq_of_lt ha]
      omega
theorem filt_div {z h a : Nat} {k : Int} (hk : k ≠ 0) (ha : a < h) : (upto (z * h)).filter (fun c => decide (c.fdiv (z : Int) = (a : Int))) = (List.range z).map fun m => ((ixX z h k a m : Nat) : Int) := by
  have ix : ∀ m, ixX z h k a m = a * z + m := fun m => if_neg hk
  cases z with
  | zero => rw [Nat.zero_mul]; rfl
  | succ y =>
  refine up_unique ((up_pair _).filter _) ?_ fun x => ?_
  · rw [List.pairwise_map]
    refine List.pairwise_lt_range.imp fun {m m'} hm => ?_
    rw [ix, ix]
    omega
  · rw [List.mem_filter, List.mem_map]
    constructor
    · rintro ⟨h1, h2⟩
      obtain ⟨i, hi, rfl⟩ := upto_mem h1
      have h2 := of_decide_eq_true h2
      rw [Int.fdiv_eq_ediv_of_nonneg _ (by omega)] at h2
      have h2 : i / (y + 1) = a := by omega
      refine ⟨i % (y + 1), List.mem_range.mpr (Nat.mod_lt _ (by omega)), ?_⟩
      rw [ix]
      have := Nat.div_add_mod i (y + 1)
      rw [h2, Nat.mul_comm] at this
      omega
    · rintro ⟨m, hm, rfl⟩
      have hm := List.mem_range.mp hm
      rw [ix]
      refine ⟨List.mem_map.mpr ⟨a * (y + 1) + m, List.mem_range.mpr (mul_lt2 ha hm), rfl⟩, decide_eq_true ?_⟩
      rw [Int.fdiv_eq_ediv_of_nonneg _ (by omega)]
      have : (a * (y + 1) + m) / (y + 1) = a := by
        rw [Nat.add_comm, Nat.add_mul_div_right _ _ (by omega), Nat.div_eq_of_lt hm, Nat.zero_add]
      omega
theorem len_set (ns : List Int) (hl : ns.length ≤ 1000) : fLenSet (intsT ns) = some (.int (distinct ns).length) := by
  show (intsOf (ns.map .int)).bind _ = _
  rw [Sh.ints_of]
  show (if ns.length ≤ 4000 then _ else _) = _
  rw [if_pos (by omega)]
def CpAt (T : Tab) : Prop := ∀ row : List Int, row.length ≤ 20 → T.fn "check_pack" [intsT row] = if decide row.Nodup = true then .ok .none [] else .exc "UnfitCard"
theorem cp_ok {T : Tab} {row : List Int} (hl : row.length ≤ 20) : fnRes 1 false 1 g_check_pack T [intsT row] = if decide row.Nodup = true then .ok .none [] else .exc "UnfitCard" := by
  refine if_eq (F_run [.val (intsT row)] rfl rfl ?_)
  unfold g_check_pack
  have ls := len_set row (by omega)
  have lr : (row.map PyData.int).length = row.length := List.length_map _
  have dl := distinct_lt row
  rw [← lr] at dl
  repeat (first | with_reducible refine O_some ls ?_ | walk_at "pv")
  refine ite_k (fun hk => ?_) fun hk => ?_
  · have hk : decide (((distinct row).length : Int) < ((row.map PyData.int).length : Int)) = true := hk
    rw [dl] at hk
    have hk : decide row.Nodup = false := by simpa using hk
    repeat walk_at "pv"
    first | exact ⟨rfl, hk, rfl⟩ | exact ⟨hk, rfl⟩
  have hk : decide (((distinct row).length : Int) < ((row.map PyData.int).length : Int)) = false := hk
  rw [dl] at hk
  have hk : decide row.Nodup = true := by simpa using hk
  repeat walk_at "pv"
  refine ite_f (show decide ((60 : Int) < ((row.map PyData.int).length : Int)) = false from decide_eq_false (by omega)) ?_
  repeat walk_at "pv"
  first | exact ⟨hk, rfl, rfl⟩ | exact ⟨hk, rfl⟩
theorem div_nat (a b : Nat) : (a : Int).fdiv (b : Int) = ((a / b : Nat) : Int) := by
  rw [Int.fdiv_eq_ediv_of_nonneg _ (by omega)]
  rfl
theorem up_rows (n : Nat) (f : Nat → List Int) : ((upto n).filter fun _ => true).map (fun j => intsT (f j.toNat)) = Sh.rowsD ((List.range n).map f) := by
  rw [filt_all]
  unfold upto Sh.rowsD
  rw [List.map_map, List.map_map]
  refine List.map_congr_left fun k _ => ?_
  show intsT (f ((k : Int)).toNat) = _
  rw [Int.toNat_natCast]
  rfl
def DeAt (T : Tab) : Prop := ∀ (row : List Int) (h k : Int), row.length ≤ 20 → h ≤ 12 → T.fn "dealt" [intsT row, .int h, .int k] = if ok2 row h k = true then .ok (due2 row h.toNat k) [] else .exc "UnfitCard"
theorem de_ok {T : Tab} (CP : CpAt T) {row : List Int} {h k : Int} (hl : row.length ≤ 20) (hh : h ≤ 12) : fnRes 3 false 6 g_dealt T [intsT row, .int h, .int k] = if ok2 row h k = true then .ok (due2 row h.toNat k) [] else .exc "UnfitCard" := by
  refine if_eq (F_run [.val (intsT row), .val (.int h), .val (.int k), .un, .un, .un] rfl rfl ?_)
  unfold g_dealt
  have hL : LINE = 16777216 := rfl
  have lr : (row.map PyData.int).length = row.length := List.length_map _
  have e0 : ok2 row h k = (decide row.Nodup && (!decide (h < 1) && decide (k ∈ [(0 : Int), 1]))) := rfl
  generalize ok2 row h k = OK at *
  repeat walk_at "pv"
  refine wF_cast (CP row hl) ?_
  cases hnd : decide row.Nodup with
  | false =>
    rw [hnd] at e0
    exact ⟨rfl, e0, rfl⟩
  | true =>
  rw [hnd, Bool.true_and] at e0
  refine ⟨rfl, .inl rfl, ?_⟩
  repeat walk_at "pv"
  refine ite_k (fun hk => ?_) fun hk => ?_
  · have hk : decide (h < 1) = true := hk
    rw [hk] at e0
    repeat walk_at "pv"
    first | exact ⟨rfl, e0, rfl⟩ | exact ⟨e0, rfl⟩
  have hk : decide (h < 1) = false := hk
  have h1 := of_decide_eq_false hk
  rw [hk, Bool.not_false, Bool.true_and] at e0
  repeat walk_at "pv"
  refine ite_k (fun hk => ?_) fun hk => ?_
  · have hk : (!(([(0 : Int), 1].map PyData.int).any fun z => PyData.eqv z (.int k))) = true := hk
    rw [any_mem] at hk
    have hk : decide (k ∈ [(0 : Int), 1]) = false := by simpa using hk
    rw [hk] at e0
    repeat walk_at "pv"
    first | exact ⟨rfl, e0, rfl⟩ | exact ⟨e0, rfl⟩
  have hk : (!(([(0 : Int), 1].map PyData.int).any fun z => PyData.eqv z (.int k))) = false := hk
  rw [any_mem, Bool.not_eq_false'] at hk
  rw [hk] at e0
  have hk01 := of_decide_eq_true hk
  simp only [List.mem_cons, List.not_mem_nil, or_false] at hk01
  obtain ⟨H, hH⟩ : ∃ H : Nat, h = (H : Int) := ⟨h.toNat, by omega⟩
  have ht : h.toNat = H := by omega
  rw [ht]
  have hdiv := div_nat row.length H
  have zl : row.length / H * H ≤ row.length := Nat.div_mul_le_self _ _
  have dd : due2 row H k = .tuple [.str "hands", .tuple (Sh.rowsD (handsX row H k)), intsT (row.drop (row.length / H * H))] := rfl
  have hx : handsX row H k = (List.range H).map (handX row (row.length / H) H k) := rfl
  have ur := up_rows H (handX row (row.length / H) H k)
  rw [← hx] at ur
  have st := fun a (ha : a < H) => step_hand (row := row) ha
  have ct := fun (hk0 : k ≠ 0) a (ha : a < H) => cut_hand (row := row) hk0 ha
  have hB : B64 = 18446744073709551616 := rfl
  have z20 : row.length / H ≤ 20 := Nat.le_trans (Nat.div_le_self _ _) hl
  obtain ⟨zi, hzi⟩ : ∃ zi : Int, zi = ((row.length / H : Nat) : Int) := ⟨_, rfl⟩
  obtain ⟨zh, hzh⟩ : ∃ zh : Int, zh = ((row.length / H * H : Nat) : Int) := ⟨_, rfl⟩
  have mo : fMul (.int zi) (.int h) = some (.int zh) := by
    rw [mul_ok ⟨by omega, by omega⟩, hzi, hH, hzh, Int.natCast_mul]
  have sr : fSl (intsT row) (some zh) none = some (intsT (row.drop (row.length / H * H))) := by
    rw [hzh, sl_drop (by omega), Int.toNat_natCast]
  have dv : fDiv (.int ((row.map PyData.int).length : Int)) (.int h) = some (.int zi) := by
    rw [div_ok ⟨by omega, by omega⟩, lr, hH, hdiv, hzi]
  clear hdiv
  generalize due2 row H k = D at *
  generalize row.drop (row.length / H * H) = RS at *
  generalize handsX row H k = HX at *
  repeat walk_at "pv"
  refine ite_f (show decide ((12 : Int) < h) = false from decide_eq_false (by omega)) ?_
  generalize hzz : row.length / H = z at *
  repeat (first | with_reducible refine O_some dv ?_ | with_reducible refine O_some mo ?_ | with_reducible refine O_some sr ?_ | walk_at "pv")
  rw [eqv_i]
  refine ite_k (fun hk0 => ?_) fun hk0 => ?_
  · have hk0 : decide (k = 0) = true := hk0
    have hk0 := of_decide_eq_true hk0
    subst hk0
    repeat walk_at "pv"
    refine lc1i (upto H) (fun _ => true) (fun j => intsT (handX row z H 0 j.toNat)) ?_ rfl (by rw [upto_len]; omega) (fun j hj => ⟨⟨rfl, rfl⟩, fun _ => ?_⟩) rfl ?_
    · repeat walk_at "pv"
      refine ⟨⟨by omega, by omega⟩, ?_, rfl⟩
      rw [ht]
      exact rg_ints _
    · obtain ⟨i, hi, rfl⟩ := upto_mem hj
      rw [Int.toNat_natCast]
      have s1 := st i hi
      have hln : (handX row z H 0 i).length = z := by simp [handX]
      have sv : fStep (intsT row) (some (i : Int)) (some zh) (some h) = some (intsT (handX row z H 0 i)) := by
        rw [hzh, hH]
        show (if (0 ≤ (i : Int) ∧ 0 ≤ ((z * H : Nat) : Int) ∧ 0 < (H : Int)) ∧ (stepV (row.map PyData.int) (i : Int) ((z * H : Nat) : Int) (H : Int)).length ≤ LINE then some (PyData.tuple (stepV (row.map PyData.int) (i : Int) ((z * H : Nat) : Int) (H : Int))) else none) = _
        rw [s1, if_pos ⟨⟨by omega, by omega, by omega⟩, by rw [List.length_map, hln]; omega⟩]
      generalize handX row z H 0 i = hd at *
      generalize (i : Int) = I at *
      repeat (first | with_reducible refine O_some mo ?_ | with_reducible refine O_some sv ?_ | walk_at "pv")
      first | done | rfl | exact ⟨rfl, rfl⟩
    rw [ur]
    subst dd
    repeat walk_at "pv"
    first | exact ⟨e0, rfl, rfl⟩ | exact ⟨e0, rfl⟩
  · have hk0 : decide (k = 0) = false := hk0
    have hk0 := of_decide_eq_false hk0
    repeat walk_at "pv"
    refine lc1i (upto H) (fun _ => true) (fun j => intsT (handX row z H k j.toNat)) ?_ rfl (by rw [upto_len]; omega) (fun j hj => ⟨⟨rfl, rfl⟩, fun _ => ?_⟩) rfl ?_
    · repeat walk_at "pv"
      refine ⟨⟨by omega, by omega⟩, ?_, rfl⟩
      rw [ht]
      exact rg_ints _
    · obtain ⟨i, hi, rfl⟩ := upto_mem hj
      rw [Int.toNat_natCast]
      have c1 := ct hk0 i hi
      have m2 : fMul (.int (i : Int)) (.int zi) = some (.int ((i * z : Nat) : Int)) := by
        rw [mul_ok ⟨by omega, by omega⟩, hzi, Int.natCast_mul]
      have sm : fSl (intsT row) (some ((i * z : Nat) : Int)) (some (((i * z : Nat) : Int) + zi)) = some (intsT (handX row z H k i)) := by
        rw [sl_mid (by omega) (by omega), ← c1, Int.toNat_natCast, show (((i * z : Nat) : Int) + zi).toNat - i * z = z by omega]
      generalize handX row z H k i = hd at *
      generalize ((i * z : Nat) : Int) = P at *
      generalize (i : Int) = I at *
      repeat (first | with_reducible refine O_some m2 ?_ | with_reducible refine O_some sm ?_ | walk_at "pv")
      first | done | rfl | exact ⟨rfl, rfl⟩
    rw [ur]
    subst dd
    repeat walk_at "pv"
    first | exact ⟨e0, rfl, rfl⟩ | exact ⟨e0, rfl⟩
end W24
end
section
set_option Elab.async false
set_option linter.all false
set_option maxRecDepth 100000
set_option maxHeartbeats 400000
set_option autoImplicit false
namespace W24
open PySem PySem.Spec PyProof.Rows L2 Pv Sh
local macro_rules | `(tactic| walk_at "pv") => `(tactic| first | ((with_reducible apply S_env); focus (dsimp only [List.set_cons_zero, List.set_cons_succ]; first | done | exact rfl)) | ((with_reducible apply E_env); focus (dsimp only [List.set_cons_zero, List.set_cons_succ]; first | done | exact rfl)) | ((with_reducible apply P_some); focus (dsimp only [takes_cons, takes_nil, takeW_d, Option.bind_some, Option.map_some]; first | done | exact rfl)) | ((with_reducible apply O_some); focus (dsimp only [derefs_cons, derefs_nil, deref_d, Option.bind_some, Option.map_some]; first | done | exact rfl)) | with_reducible refine E_bin ?_ | with_reducible refine E_cmp ?_ | with_reducible refine E_chain ?_ | with_reducible refine E_tru ?_ | with_reducible refine E_ofT ?_ | with_reducible refine E_notT ?_ | with_reducible refine E_isN ?_ | with_reducible refine E_and ?_ | with_reducible refine E_or ?_ | with_reducible refine E_andT ?_ | with_reducible refine E_orT ?_ | with_reducible refine E_if ?_ | with_reducible refine E_nil ?_ | with_reducible refine E_cons ?_ | with_reducible refine E_call ?_ | with_reducible refine E_fz ?_ | with_reducible refine E_tup ?_ | with_reducible refine E_lst ?_ | with_reducible refine E_emptyD ?_ | with_reducible refine E_src ?_ | with_reducible refine E_range1 ?_ | with_reducible refine E_range2 ?_ | with_reducible refine E_isi ?_ | with_reducible refine E_listOf ?_ | with_reducible refine E_noP ?_ | with_reducible refine E_part ?_ | with_reducible refine E_sl ?_ | with_reducible refine E_rev ?_ | with_reducible refine E_neg ?_ | with_reducible refine E_lenSet ?_ | with_reducible refine E_tupRg1 ?_ | with_reducible refine E_tupRg2 ?_ | with_reducible refine E_callF ?_ | with_reducible refine E_callIo ?_ | with_reducible refine E_lit ?_ | with_reducible refine E_var ?_ | with_reducible refine E_meth ?_ | with_reducible refine E_repF ?_ | with_reducible refine E_lstRg1 ?_ | with_reducible refine E_yes ?_ | with_reducible refine E_sorted ?_ | with_reducible refine E_lenSetT ?_ | with_reducible refine E_index ?_ | with_reducible refine E_catF ?_ | with_reducible refine E_upSet ?_ | with_reducible refine E_slS ?_ | with_reducible refine E_getLit ?_ | with_reducible refine E_enum ?_ | with_reducible refine E_zip ?_ | with_reducible refine E_join ?_ | with_reducible refine E_split ?_ | with_reducible refine E_fresh ?_ | with_reducible refine E_valK ?_ | with_reducible refine Src_dl ?_ | with_reducible refine Src_dt ?_ | with_reducible refine Io_sl ?_ | with_reducible refine L2_2 ?_ | with_reducible refine L3_3 ?_ | with_reducible refine S_parX ?_ | with_reducible refine S_seq ?_ | with_reducible refine S_skip ?_ | with_reducible refine S_break ?_ | with_reducible refine S_cont ?_ | with_reducible refine S_raise ?_ | with_reducible refine S_retN ?_ | with_reducible refine S_if ?_ | with_reducible refine S_drop ?_ | with_reducible refine S_ret ?_ | with_reducible refine S_set ?_ | with_reducible refine S_setO ?_ | with_reducible refine S_setG ?_ | with_reducible refine S_par2 ?_ | with_reducible refine S_par3 ?_ | with_reducible refine S_setIx ?_ | with_reducible refine S_aug ?_ | with_reducible refine S_augIx ?_ | with_reducible refine S_for ?_ | ((with_reducible apply V_val); focus exact rfl) | ((with_reducible apply V_own); focus exact rfl) | ((with_reducible apply V_scr); focus exact rfl) | ((with_reducible apply Own_own); focus exact rfl) | ((with_reducible apply O_some); focus exact rfl) | ((with_reducible apply B_some); focus exact rfl) | ((with_reducible apply P_some); focus exact rfl) | ((with_reducible apply ite_t); focus exact rfl) | ((with_reducible apply ite_f); focus exact rfl) | ((with_reducible apply O_some); focus (first | exact mul_ok (by decide) | exact mod_ok (by omega) | exact div_ok (by omega))) | ((with_reducible refine And.intro ?_ ?_); focus (first | exact rfl | decide | (simp only [List.length_cons, List.length_nil]; first | done | decide))))

structure BdR (row : List Int) (h : Int) : Prop where
  len : row.length ≤ 12
  low : ∀ x ∈ row, x.natAbs ≤ 30
  few : h ≤ 12
theorem ok2_all {row : List Int} {h k : Int} (hv : ok2 row h k = true) : row.Nodup ∧ 1 ≤ h ∧ (k = 0 ∨ k = 1) := by
  unfold ok2 at hv
  simp only [Bool.and_eq_true, Bool.not_eq_true', decide_eq_true_eq, decide_eq_false_iff_not, List.mem_cons, List.not_mem_nil, or_false] at hv
  exact ⟨hv.1, by omega, hv.2.2⟩
theorem rowsN_sd {l : List (List Int)} {B n : Nat} (hl : l.length ≤ B) (h : ∀ r ∈ l, r.length ≤ B ∧ ∀ c ∈ r, c.natAbs ≤ B) : Sd B (n + 2) (.tuple (Sh.rowsD l)) ∧ noS (.tuple (Sh.rowsD l)) = true := by
  refine ⟨Sd_tup.mpr ⟨by rw [rows_len]; omega, fun x hx => ?_⟩, ?_⟩
  · obtain ⟨r, hr, rfl⟩ := List.mem_map.mp hx
    obtain ⟨a, b⟩ := h r hr
    exact ints_sd a b
  · show noSs (Sh.rowsD l) = true
    refine noSs_iff.mpr fun x hx => ?_
    obtain ⟨r, hr, rfl⟩ := List.mem_map.mp hx
    exact noS_ints r
theorem rowsN_nz {l : List (List Int)} {L : Nat} (h : ∀ r ∈ l, r.length ≤ L) : nzs (Sh.rowsD l) ≤ (L + 1) * l.length := by
  induction l with
  | nil => exact Nat.zero_le _
  | cons a l ih =>
    have h1 := ih fun r hr => h r (List.mem_cons_of_mem _ hr)
    have h2 := h a List.mem_cons_self
    show nz (intsT a) + nzs (Sh.rowsD l) ≤ _
    rw [nz_tup, nzs_ints, List.length_cons, Nat.mul_add, Nat.mul_one]
    omega
theorem due2_told {row : List Int} {h k : Int} {B : Nat} (bd : BdR row h) (hB : 300 ≤ B) : ∃ xs, due2 row h.toNat k = .tuple xs ∧ Told B 3 xs ∧ nz (.tuple xs) ≤ 200 := by
  obtain ⟨len, low, few⟩ := bd
  have low2 : ∀ i, (row.getD i 0).natAbs ≤ 30 := fun i => by
    rw [List.getD_eq_getElem?_getD]
    cases q : row[i]? with
    | none => decide
    | some x => exact low x (List.mem_of_getElem? q)
  have k1 : ∀ r ∈ handsX row h.toNat k, r.length ≤ 12 ∧ ∀ c ∈ r, c.natAbs ≤ 30 := fun r hr => by
    obtain ⟨a, _, rfl⟩ := List.mem_map.mp hr
    refine ⟨?_, fun c hc => ?_⟩
    · unfold handX
      rw [List.length_map, List.length_range]
      exact Nat.le_trans (Nat.div_le_self _ _) len
    · obtain ⟨m, _, rfl⟩ := List.mem_map.mp hc
      exact low2 _
  have k2 : (handsX row h.toNat k).length ≤ 12 := by
    unfold handsX
    rw [List.length_map, List.length_range]
    omega
  have k3 : (row.drop (row.length / h.toNat * h.toNat)).length ≤ 12 := by
    rw [List.length_drop]
    omega
  have k4 : ∀ c ∈ row.drop (row.length / h.toNat * h.toNat), c.natAbs ≤ 30 := fun c hc => low c (List.mem_of_mem_drop hc)
  unfold due2
  generalize handsX row h.toNat k = R at *
  generalize row.drop (row.length / h.toNat * h.toNat) = S at *
  obtain ⟨c, d⟩ := rowsN_sd (B := B) (n := 0) (l := R) (by omega) fun r hr => ⟨by have := (k1 r hr).1; omega, fun c hc => by have := (k1 r hr).2 c hc; omega⟩
  have z := rowsN_nz (l := R) (L := 12) fun r hr => (k1 r hr).1
  refine ⟨_, rfl, parts_told (by decide +kernel) (lay_of _) hB (by show 2 + 1 ≤ B; omega) (fun x hx => ?_), ?_⟩
  · simp only [List.mem_cons, List.not_mem_nil, or_false] at hx
    rcases hx with rfl | rfl
    · exact ⟨c, d⟩
    · exact ⟨ints_sd (by omega) fun c hc => by
        have := k4 c hc
        omega, noS_ints _⟩
  · have l4 : ("hands" : Str).length ≤ 5 := by decide +kernel
    rw [nz_tup]
    simp only [nzs]
    rw [nz_str, nz_tup, nz_tup, nzs_ints]
    omega
theorem due2_sd {row : List Int} {h k : Int} (bd : BdR row h) : Sd 1000000 3 (due2 row h.toNat k) ∧ nz (due2 row h.toNat k) ≤ 200 := by
  obtain ⟨xs, e, t, z⟩ := due2_told (k := k) (B := 1000000) bd (by decide)
  rw [e]
  exact ⟨t.sd, z⟩
theorem PP_due2 {row : List Int} {h k : Int} (bd : BdR row h) : PP (due2 row h.toNat k) := .inl ⟨(due2_sd bd).1.mono (Nat.le_refl _) (by decide), Nat.le_trans (due2_sd bd).2 (by decide)⟩
def Ju2At (T : Tab) : Prop := ∀ (row : List Int) (h k : Int) (d : PyData), BdR row h → PP d → T.fn "judge_dealt" [intsT row, .int h, .int k, d] = if ok2 row h k = true then .ok (.bool (sameB d (due2 row h.toNat k))) [] else .exc "UnfitCard"
theorem judge2_ok {T : Tab} (DE : DeAt T) (TO : ToldAt T) {row : List Int} {h k : Int} {d : PyData} (bd : BdR row h) (hd : PP d) : fnRes 4 false 5 g_judge_dealt T [intsT row, .int h, .int k, d] = if ok2 row h k = true then .ok (.bool (sameB d (due2 row h.toNat k))) [] else .exc "UnfitCard" := by
  refine if_eq (F_run [.val (intsT row), .val (.int h), .val (.int k), .val d, .un] rfl rfl ?_)
  unfold g_judge_dealt
  have hL : LINE = 16777216 := rfl
  repeat walk_at "pv"
  refine wF_cast (DE row h k (Nat.le_trans bd.len (by decide)) bd.few) ?_
  by_cases hv : ok2 row h k = true
  case neg =>
    rw [if_neg hv]
    exact ⟨rfl, by simpa using hv, rfl⟩
  rw [if_pos hv]
  refine ⟨rfl, .inl rfl, ?_⟩
  obtain ⟨sd, nzd⟩ := due2_sd (k := k) bd
  have gd := sd.good (by decide)
  have ok := sd.okD (by decide) (by decide)
  have tg := TO 1000000 4 d "hands" 3 (by decide) (by decide) hd.asked (by decide +kernel) (by decide)
  obtain ⟨R, u, ed⟩ : ∃ R u, due2 row h.toNat k = .tuple [.str "hands", .tuple (rowsD R), intsT u] := ⟨_, _, rfl⟩
  have nzd : nz (due2 row h.toNat k) ≤ 1000 := by omega
  generalize due2 row h.toNat k = D at *
  subst ed
  have r2 : fRepr [.tuple [.str "hands", .tuple (rowsD R), intsT u]] = some (.str (PyData.tuple [.str "hands", .tuple (rowsD R), intsT u]).shown) := repr_ok (by decide) (by decide) sd (Nat.le_trans nzd (by decide))
  have nm : numL [.tuple (rowsD R), intsT u] = true := by
    show (numB _ && (numB _ && true)) = true
    rw [num_rows, num_ints]
    rfl
  have t1 : isTup1 (.tuple [.str "hands", .tuple (rowsD R), intsT u]) = true := rfl
  have t0 : toldB "hands" 3 (.tuple [.str "hands", .tuple (rowsD R), intsT u]) = true := by
    show (decide (2 + 1 = 3) && (("hands" : Str) == "hands")) = true
    rw [beq_self_eq_true]
    rfl
  have ss := fun r => shown_same (w := "hands") (r := r) nm gd
  have no := fun (p : PyData → Bool) (d : PyData) (h1 : p (.tuple [.str "hands", .tuple (rowsD R), intsT u]) = true) (h2 : p d = false) => sameB_no h1 h2
  generalize PyData.tuple (Sh.rowsD R) = RR at *
  generalize intsT u = UV at *
  repeat walk_at "pv"
  refine wF_cast tg ?_
  refine ⟨rfl, .inl rfl, ?_⟩
  cases hk : toldB "hands" 3 d with
  | false =>
    repeat walk_at "pv"
    exact ⟨hv, by rw [no _ _ t0 hk], rfl⟩
  | true =>
    obtain ⟨r, rfl, hr⟩ := told_word hk
    obtain ⟨p, q, rfl⟩ := two_row hr
    have e1 : fIx (.tuple [.str "hands", p, q]) (.int 1) = some p := atI_at (i := 1) rfl
    have zd : Zd 1000000 4 2000 (.tuple [.str "hands", p, q]) := hd.elim id fun z => by cases z
    have r1 : fRepr [.tuple [.str "hands", p, q]] = some (.str (PyData.tuple [.str "hands", p, q]).shown) := repr_ok (by decide) (by decide) zd.1 (Nat.le_trans zd.2 (by decide))
    have ss := ss [p, q]
    have n1 : isTup1 (.tuple [.str "hands", p, q]) = false → _ := no isTup1 (.tuple [.str "hands", p, q]) t1
    generalize (PyData.tuple [.str "hands", p, q]).shown = A at *
    generalize (PyData.tuple [.str "hands", RR, UV]).shown = E at *
    repeat (first | with_reducible refine O_some e1 ?_ | walk_at "pv")
    cases p with
    | tuple ps =>
      repeat (first | with_reducible refine O_some r1 ?_ | with_reducible refine O_some r2 ?_ | walk_at "pv")
      exact ⟨hv, by rw [ss], rfl⟩
    | _ =>
      repeat walk_at "pv"
      exact ⟨hv, by first | (rw [n1 rfl]; done) | (rw [n1 rfl]; rfl), rfl⟩
def manyX (row : List Int) (h : Nat) (k : Int) (i : Nat) : List (List Int) := (List.range i).map (handX row (row.length / h) h k)
theorem many_succ (row : List Int) (h : Nat) (k : Int) (i : Nat) : manyX row h k (i + 1) = manyX row h k i ++ [handX row (row.length / h) h k i] := by
  unfold manyX
  rw [List.range_succ, List.map_append]
  rfl
def wantB (h z k : Int) (a c : Int) : Bool := if decide (k = 0) = true then decide (c.fmod h = a) else decide (c.fdiv z = a)
theorem want_vals {row : List Int} {h a : Nat} {k : Int} (ha : a < h) : ((upto (row.length / h * h)).filter (wantB (h : Int) ((row.length / h : Nat) : Int) k (a : Int))).map (fun c => PyData.int (row.getD c.toNat 0)) = (handX row (row.length / h) h k a).map .int := by
  have e : (upto (row.length / h * h)).filter (wantB (h : Int) ((row.length / h : Nat) : Int) k (a : Int)) = (List.range (row.length / h)).map fun m => ((ixX (row.length / h) h k a m : Nat) : Int) := by
    by_cases hk : k = 0
    · subst hk
      rw [← filt_mod ha]
      refine List.filter_congr fun c _ => ?_
      unfold wantB
      rw [decide_eq_true (rfl : (0 : Int) = 0), if_pos rfl]
    · rw [← filt_div hk ha]
      refine List.filter_congr fun c _ => ?_
      unfold wantB
      rw [decide_eq_false hk, if_neg Bool.false_ne_true]
  rw [e]
  unfold handX
  rw [List.map_map, List.map_map]
  refine List.map_congr_left fun m _ => ?_
  show PyData.int (row.getD ((ixX (row.length / h) h k a m : Nat) : Int).toNat 0) = _
  rw [Int.toNat_natCast]
  rfl
theorem acc2_ok {T : Tab} {t : Nat} (ht3 : 3 < t) (SA : SameAt T t) {row : List Int} {h k : Int} {a : PyData} (bd : BdR row h) (hv : ok2 row h k = true) (ha : PP a) : fnRes 4 false 8 g__law_accepts_too T [intsT row, .int h, .int k, a] = .ok (.bool (sameB a (due2 row h.toNat k))) [] := by
  obtain ⟨_, h1, hk01⟩ := ok2_all hv
  obtain ⟨sd, _⟩ := due2_sd (k := k) bd
  have sa := SA a (due2 row h.toNat k) (Nat.lt_of_le_of_lt sd.depth (by omega)) (PP_gd ha) (sd.good (by decide))
  clear sd
  obtain ⟨len, low, few⟩ := bd
  have hL : LINE = 16777216 := rfl
  have lr : (row.map PyData.int).length = row.length := List.length_map _
  obtain ⟨H, hH⟩ : ∃ H : Nat, h = (H : Int) := ⟨h.toNat, by omega⟩
  have ht : h.toNat = H := by omega
  rw [ht] at sa ⊢
  have hdiv := div_nat row.length H
  have zl : row.length / H * H ≤ row.length := Nat.div_mul_le_self _ _
  have dd : due2 row H k = .tuple [.str "hands", .tuple (Sh.rowsD (manyX row H k H)), intsT (row.drop (row.length / H * H))] := rfl
  have hB : B64 = 18446744073709551616 := rfl
  have z20 : row.length / H ≤ 20 := Nat.le_trans (Nat.div_le_self _ _) (Nat.le_trans len (by decide))
  obtain ⟨zi, hzi⟩ : ∃ zi : Int, zi = ((row.length / H : Nat) : Int) := ⟨_, rfl⟩
  obtain ⟨zh, hzh⟩ : ∃ zh : Int, zh = ((row.length / H * H : Nat) : Int) := ⟨_, rfl⟩
  have mo : fMul (.int zi) (.int h) = some (.int zh) := by
    rw [mul_ok ⟨by omega, by omega⟩, hzi, hH, hzh, Int.natCast_mul]
  have sr : fSl (intsT row) (some zh) none = some (intsT (row.drop (row.length / H * H))) := by
    rw [hzh, sl_drop (by omega), Int.toNat_natCast]
  have dv : fDiv (.int ((row.map PyData.int).length : Int)) (.int h) = some (.int zi) := by
    rw [div_ok ⟨by omega, by omega⟩, lr, hH, hdiv, hzi]
  have wv := fun a (ha : a < H) => want_vals (row := row) (k := k) ha
  rw [← hzi, ← hH] at wv
  have ms := many_succ row H k
  have mz : manyX row H k 0 = [] := rfl
  have ml : ∀ i, (manyX row H k i).length = i := fun i => by simp [manyX]
  clear hdiv
  generalize due2 row H k = D at *
  generalize row.drop (row.length / H * H) = RS at *
  generalize manyX row H k = MX at *
  generalize hzz : row.length / H = z at *
  refine wF_eq (F_run [.val (intsT row), .val (.int h), .val (.int k), .val a, .un, .un, .un, .un] rfl rfl ?_)
  unfold g__law_accepts_too
  repeat (first | with_reducible refine O_some dv ?_ | walk_at "pv")
  refine ⟨⟨by omega, by omega⟩, ?_⟩
  refine for_inv (I := fun i e => ∃ (c6 : SV), e = [.val (intsT row), .val (.int h), .val (.int k), .val a, .val (.int zi), .own false (.list (Sh.rowsD (MX i))), c6, .un]) _ (fun i d e hd hI => ?_) (fun e hI => ?_) ⟨_, by rw [mz]; rfl⟩
  · obtain ⟨c6, rfl⟩ := hI
    obtain ⟨rfl, hi⟩ := rgD_get hd
    rw [ht] at hi
    rw [Int.zero_add]
    have wvi := wv i hi
    have ap : fAppend (Sh.rowsD (MX i)) [.tuple ((handX row z H k i).map .int)] = some (Sh.rowsD (MX (i + 1)), .none) := by
      rw [ms]
      exact app_row (by rw [ml]; omega)
    have wd : ∀ c, wantB h zi k (i : Int) c = if decide (k = 0) = true then decide (c.fmod h = (i : Int)) else decide (c.fdiv zi = (i : Int)) := fun c => rfl
    generalize wantB h zi k (i : Int) = wb at *
    generalize handX row z H k i = hd at *
    generalize MX (i + 1) = M2 at *
    generalize MX i = M1 at *
    generalize (i : Int) = I at *
    refine ⟨[.val (intsT row), .val (.int h), .val (.int k), .val a, .val (.int zi), .own false (.list (Sh.rowsD M1)), .val (.int I), .un], rfl, ?_⟩
    repeat walk_at "pv"
    refine lc1i (upto (z * H)) wb (fun c => .int (row.getD c.toNat 0)) ?_ rfl (by rw [upto_len]; omega) (fun c hc => ⟨?_, fun _ => ?_⟩) rfl ?_
    · repeat (first | with_reducible refine O_some mo ?_ | walk_at "pv")
      refine ⟨⟨by omega, by omega⟩, ?_, rfl⟩
      rw [show zh.toNat = z * H by omega]
      exact rg_ints _
    · obtain ⟨j, hj, rfl⟩ := upto_mem hc
      have wj := wd (j : Int)
      have zp : 0 < z := by
        refine Decidable.byContradiction fun y => ?_
        have : z = 0 := by omega
        subst this
        rw [Nat.zero_mul] at hj
        exact absurd hj (Nat.not_lt_zero _)
      have mf : fMod (.int (j : Int)) (.int h) = some (.int ((j : Int).fmod h)) := mod_ok (by omega)
      have df : fDiv (.int (j : Int)) (.int zi) = some (.int ((j : Int).fdiv zi)) := div_ok ⟨by omega, by omega⟩
      clear wv wvi ap ms mz ml
      generalize (j : Int) = J at *
      repeat walk_at "pv"
      rw [eqv_i]
      cases hk0 : decide (k = 0) with
      | true =>
        rw [hk0, if_pos rfl] at wj
        rw [if_pos rfl]
        repeat (first | with_reducible refine O_some mf ?_ | walk_at "pv")
        first | exact ⟨by rw [eqv_i, wj], rfl⟩ | (rw [eqv_i, wj]; exact ⟨rfl, rfl⟩)
      | false =>
        rw [hk0, if_neg Bool.false_ne_true] at wj
        rw [if_neg Bool.false_ne_true]
        repeat (first | with_reducible refine O_some df ?_ | walk_at "pv")
        first | exact ⟨by rw [eqv_i, wj], rfl⟩ | (rw [eqv_i, wj]; exact ⟨rfl, rfl⟩)
    · obtain ⟨j, hj, rfl⟩ := upto_mem hc
      rw [Int.toNat_natCast]
      have f1 := row_at (os := row) (i := j) (by omega)
      generalize row.getD j 0 = v at *
      generalize (j : Int) = J at *
      repeat (first | with_reducible refine O_some f1 ?_ | walk_at "pv")
      first | done | rfl | exact ⟨rfl, rfl⟩
    rw [wvi]
    repeat (first | with_reducible refine P_some ap ?_ | walk_at "pv")
    exact ⟨_, rfl⟩
  · obtain ⟨c6, rfl⟩ := hI
    rw [rgD_length, ht]
    subst dd
    generalize Sh.rowsD (MX H) = F at *
    repeat (first | with_reducible refine O_some mo ?_ | with_reducible refine O_some sr ?_ | walk_at "pv")
    refine wF_cast sa ?_
    exact ⟨rfl, .inl rfl, rfl, rfl⟩
theorem walk_bits {n : Nat} (hn : (n : Int).fmod 2 ≠ 1) : ∀ (f g : Nat), g < 2 ^ f → g < n → walkP (n : Int) 0 (bitsF f g) = (g : Int)
  | 0, g, h, _ => by
    have : g = 0 := by omega
    subst this
    rfl
  | f + 1, g, h, hg => by
    have hl : walkP (n : Int) 0 (if g = 0 then [] else bitsF f (g / 2) ++ [((g % 2 : Nat) : Int)]) = (g : Int) := by
      by_cases q : g = 0
      · rw [if_pos q, q]
        rfl
      · obtain ⟨e1, e2⟩ := half_two hn
        rw [if_neg q, walk_app, walk_bits hn f (g / 2) (by rw [Nat.pow_succ] at h; omega) (by omega)]
        show nxt (n : Int) ((g / 2 : Nat) : Int) ((g % 2 : Nat) : Int) = (g : Int)
        unfold nxt
        rw [e1, if_pos (decide_eq_true (by omega))]
        omega
    exact hl
theorem acc1_self {n g : Nat} (hn : (n : Int).fmod 2 ≠ 1) (hg : g < n) (h64 : g < 64) : acc1B n g (due1 g) = true := by
  have t0 : toldB "kinds" 2 (.tuple [.str "kinds", intsT (bits g)]) = true := by
    show (decide (1 + 1 = 2) && (("kinds" : Str) == "kinds")) = true
    rw [beq_self_eq_true]
    rfl
  have e : acc1B n g (due1 g) = restB n g (intsT (bits g)) := acc1_is t0
  rw [e]
  unfold restB
  rw [row_places, rowI_is, wholes_is, Bool.true_and, Bool.and_eq_true]
  refine ⟨List.all_eq_true.mpr fun k hk => ?_, decide_eq_true (walk_bits hn 6 g h64 hg)⟩
  have := bits_low 6 g k hk
  rw [Bool.and_eq_true, decide_eq_true_eq, decide_eq_true_eq]
  omega
end W24
end
section
set_option Elab.async false
set_option linter.all false
set_option maxRecDepth 100000
set_option maxHeartbeats 400000
set_option autoImplicit false
namespace W24
open PySem PySem.Spec PyProof.Rows L2 Pv Sh
local macro_rules | `(tactic| walk_at "pv") => `(tactic| first | ((with_reducible apply S_env); focus (dsimp only [List.set_cons_zero, List.set_cons_succ]; first | done | exact rfl)) | ((with_reducible apply E_env); focus (dsimp only [List.set_cons_zero, List.set_cons_succ]; first | done | exact rfl)) | ((with_reducible apply P_some); focus (dsimp only [takes_cons, takes_nil, takeW_d, Option.bind_some, Option.map_some]; first | done | exact rfl)) | ((with_reducible apply O_some); focus (dsimp only [derefs_cons, derefs_nil, deref_d, Option.bind_some, Option.map_some]; first | done | exact rfl)) | with_reducible refine E_bin ?_ | with_reducible refine E_cmp ?_ | with_reducible refine E_chain ?_ | with_reducible refine E_tru ?_ | with_reducible refine E_ofT ?_ | with_reducible refine E_notT ?_ | with_reducible refine E_isN ?_ | with_reducible refine E_and ?_ | with_reducible refine E_or ?_ | with_reducible refine E_andT ?_ | with_reducible refine E_orT ?_ | with_reducible refine E_if ?_ | with_reducible refine E_nil ?_ | with_reducible refine E_cons ?_ | with_reducible refine E_call ?_ | with_reducible refine E_fz ?_ | with_reducible refine E_tup ?_ | with_reducible refine E_lst ?_ | with_reducible refine E_emptyD ?_ | with_reducible refine E_src ?_ | with_reducible refine E_range1 ?_ | with_reducible refine E_range2 ?_ | with_reducible refine E_isi ?_ | with_reducible refine E_listOf ?_ | with_reducible refine E_noP ?_ | with_reducible refine E_part ?_ | with_reducible refine E_sl ?_ | with_reducible refine E_rev ?_ | with_reducible refine E_neg ?_ | with_reducible refine E_lenSet ?_ | with_reducible refine E_tupRg1 ?_ | with_reducible refine E_tupRg2 ?_ | with_reducible refine E_callF ?_ | with_reducible refine E_callIo ?_ | with_reducible refine E_lit ?_ | with_reducible refine E_var ?_ | with_reducible refine E_meth ?_ | with_reducible refine E_repF ?_ | with_reducible refine E_lstRg1 ?_ | with_reducible refine E_yes ?_ | with_reducible refine E_sorted ?_ | with_reducible refine E_lenSetT ?_ | with_reducible refine E_index ?_ | with_reducible refine E_catF ?_ | with_reducible refine E_upSet ?_ | with_reducible refine E_slS ?_ | with_reducible refine E_getLit ?_ | with_reducible refine E_enum ?_ | with_reducible refine E_zip ?_ | with_reducible refine E_join ?_ | with_reducible refine E_split ?_ | with_reducible refine E_fresh ?_ | with_reducible refine E_valK ?_ | with_reducible refine Src_dl ?_ | with_reducible refine Src_dt ?_ | with_reducible refine Io_sl ?_ | with_reducible refine L2_2 ?_ | with_reducible refine L3_3 ?_ | with_reducible refine S_parX ?_ | with_reducible refine S_seq ?_ | with_reducible refine S_skip ?_ | with_reducible refine S_break ?_ | with_reducible refine S_cont ?_ | with_reducible refine S_raise ?_ | with_reducible refine S_retN ?_ | with_reducible refine S_if ?_ | with_reducible refine S_drop ?_ | with_reducible refine S_ret ?_ | with_reducible refine S_set ?_ | with_reducible refine S_setO ?_ | with_reducible refine S_setG ?_ | with_reducible refine S_par2 ?_ | with_reducible refine S_par3 ?_ | with_reducible refine S_setIx ?_ | with_reducible refine S_aug ?_ | with_reducible refine S_augIx ?_ | with_reducible refine S_for ?_ | ((with_reducible apply V_val); focus exact rfl) | ((with_reducible apply V_own); focus exact rfl) | ((with_reducible apply V_scr); focus exact rfl) | ((with_reducible apply Own_own); focus exact rfl) | ((with_reducible apply O_some); focus exact rfl) | ((with_reducible apply B_some); focus exact rfl) | ((with_reducible apply P_some); focus exact rfl) | ((with_reducible apply ite_t); focus exact rfl) | ((with_reducible apply ite_f); focus exact rfl) | ((with_reducible apply O_some); focus (first | exact mul_ok (by decide) | exact mod_ok (by omega) | exact div_ok (by omega))) | ((with_reducible refine And.intro ?_ ?_); focus (first | exact rfl | decide | (simp only [List.length_cons, List.length_nil]; first | done | decide))))

theorem mem_at {i : Nat} {e : Ent} (h : ents[i]? = some e) : e ∈ ents := List.mem_of_getElem? h
abbrev PR := progOf ents
theorem kn : Kn known isub := ⟨by decide +kernel, by decide +kernel, by decide +kernel, by decide +kernel, by decide +kernel⟩
theorem k_is_whole : PR.lookup ("is_whole" : Str) = some ⟨1, false, 1, Sh.g_is_whole⟩ := lookup_prog (mem_at (i := 0) rfl) nd_ents
theorem k_is_told : PR.lookup ("is_told" : Str) = some ⟨3, false, 3, Sh.g_is_told⟩ := lookup_prog (mem_at (i := 1) rfl) nd_ents
theorem k_are_wholes : PR.lookup ("are_wholes" : Str) = some ⟨2, false, 3, Sh.g_are_wholes⟩ := lookup_prog (mem_at (i := 2) rfl) nd_ents
theorem k_check_pack : PR.lookup ("check_pack" : Str) = some ⟨1, false, 1, g_check_pack⟩ := lookup_prog (mem_at (i := 3) rfl) nd_ents
theorem k_to_place : PR.lookup ("to_place" : Str) = some ⟨2, false, 4, g_to_place⟩ := lookup_prog (mem_at (i := 4) rfl) nd_ents
theorem k_place_after : PR.lookup ("place_after" : Str) = some ⟨3, false, 4, g_place_after⟩ := lookup_prog (mem_at (i := 5) rfl) nd_ents
theorem k_judge_to_place : PR.lookup ("judge_to_place" : Str) = some ⟨3, false, 6, g_judge_to_place⟩ := lookup_prog (mem_at (i := 6) rfl) nd_ents
theorem k_dealt : PR.lookup ("dealt" : Str) = some ⟨3, false, 6, g_dealt⟩ := lookup_prog (mem_at (i := 7) rfl) nd_ents
theorem k_judge_dealt : PR.lookup ("judge_dealt" : Str) = some ⟨4, false, 5, g_judge_dealt⟩ := lookup_prog (mem_at (i := 8) rfl) nd_ents
theorem k__law_next : PR.lookup ("_law_next" : Str) = some ⟨2, true, 4, Sh.g__law_next⟩ := lookup_prog (mem_at (i := 9) rfl) nd_ents
theorem k__law_same : PR.lookup ("_law_same" : Str) = some ⟨2, false, 3, Sh.g__law_same⟩ := lookup_prog (mem_at (i := 10) rfl) nd_ents
theorem k__law_is_whole : PR.lookup ("_law_is_whole" : Str) = some ⟨1, false, 1, Sh.g__law_is_whole⟩ := lookup_prog (mem_at (i := 11) rfl) nd_ents
theorem k__law_is_place : PR.lookup ("_law_is_place" : Str) = some ⟨2, false, 2, Sh.g__law_is_place⟩ := lookup_prog (mem_at (i := 12) rfl) nd_ents
theorem k__law_are_places : PR.lookup ("_law_are_places" : Str) = some ⟨2, false, 3, Sh.g__law_are_places⟩ := lookup_prog (mem_at (i := 13) rfl) nd_ents
theorem k__law_is : PR.lookup ("_law_is" : Str) = some ⟨3, false, 3, Sh.g__law_is⟩ := lookup_prog (mem_at (i := 14) rfl) nd_ents
theorem k__law_changed : PR.lookup ("_law_changed" : Str) = some ⟨2, true, 7, Sh.g__law_changed⟩ := lookup_prog (mem_at (i := 15) rfl) nd_ents
theorem k__law_ints : PR.lookup ("_law_ints" : Str) = some ⟨1, false, 4, Sh.g__law_ints⟩ := lookup_prog (mem_at (i := 16) rfl) nd_ents
theorem k__law_exchanged : PR.lookup ("_law_exchanged" : Str) = some ⟨3, false, 4, Sh.g__law_exchanged⟩ := lookup_prog (mem_at (i := 17) rfl) nd_ents
theorem k__law_cut : PR.lookup ("_law_cut" : Str) = some ⟨2, true, 6, Sh.g__law_cut⟩ := lookup_prog (mem_at (i := 18) rfl) nd_ents
theorem k__law_turned_about : PR.lookup ("_law_turned_about" : Str) = some ⟨2, true, 9, Sh.g__law_turned_about⟩ := lookup_prog (mem_at (i := 19) rfl) nd_ents
theorem k__law_odd : PR.lookup ("_law_odd" : Str) = some ⟨2, true, 4, Sh.g__law_odd⟩ := lookup_prog (mem_at (i := 20) rfl) nd_ents
theorem k__law_mixed : PR.lookup ("_law_mixed" : Str) = some ⟨2, true, 4, Sh.g__law_mixed⟩ := lookup_prog (mem_at (i := 21) rfl) nd_ents
theorem k__law_cards : PR.lookup ("_law_cards" : Str) = some ⟨4, true, 4, Sh.g__law_cards⟩ := lookup_prog (mem_at (i := 22) rfl) nd_ents
theorem k__law_neighbour : PR.lookup ("_law_neighbour" : Str) = some ⟨2, true, 4, Sh.g__law_neighbour⟩ := lookup_prog (mem_at (i := 23) rfl) nd_ents
theorem k__law_next_place : PR.lookup ("_law_next_place" : Str) = some ⟨3, false, 4, g__law_next_place⟩ := lookup_prog (mem_at (i := 24) rfl) nd_ents
theorem k__law_accepts : PR.lookup ("_law_accepts" : Str) = some ⟨3, false, 8, g__law_accepts⟩ := lookup_prog (mem_at (i := 25) rfl) nd_ents
theorem k__law_told_near : PR.lookup ("_law_told_near" : Str) = some ⟨3, true, 6, g__law_told_near⟩ := lookup_prog (mem_at (i := 26) rfl) nd_ents
theorem k__law_unfit : PR.lookup ("_law_unfit" : Str) = some ⟨2, false, 4, g__law_unfit⟩ := lookup_prog (mem_at (i := 27) rfl) nd_ents
theorem k__law_accepts_too : PR.lookup ("_law_accepts_too" : Str) = some ⟨4, false, 8, g__law_accepts_too⟩ := lookup_prog (mem_at (i := 28) rfl) nd_ents
theorem k__law_told_near_too : PR.lookup ("_law_told_near_too" : Str) = some ⟨4, true, 7, g__law_told_near_too⟩ := lookup_prog (mem_at (i := 29) rfl) nd_ents
theorem k__law_unfit_too : PR.lookup ("_law_unfit_too" : Str) = some ⟨3, false, 5, g__law_unfit_too⟩ := lookup_prog (mem_at (i := 30) rfl) nd_ents
abbrev TK (k : Nat) : Tab := tabOf PR 64 k
theorem wh_at : ∀ k, 6 < (TK k).wh
  | 0 => by decide
  | _ + 1 => by show 6 < 64; decide
theorem to_at (k : Nat) : ToAt (TK (k + 1)) := fun n g hn => (tab_fn k_to_place k _).trans (to_ok (wh_at _) hn)
theorem pl_at (k : Nat) : PlAt (TK (k + 1)) := fun n p c h1 h2 => (tab_fn k_place_after k _).trans (pl_ok h1 h2)
theorem ln_at (k : Nat) : LnAt (TK (k + 1)) := fun n p c h1 h2 => (tab_fn k__law_next_place k _).trans (ln_ok h1 h2)
theorem cp_at (k : Nat) : CpAt (TK (k + 1)) := fun row hl => (tab_fn k_check_pack k _).trans (cp_ok hl)
theorem de_at (k : Nat) : DeAt (TK (k + 2)) := fun row h c h1 h2 => (tab_fn k_dealt (k + 1) _).trans (de_ok (cp_at k) h1 h2)
theorem ju1_at (k : Nat) : Ju1At (TK (k + 3)) := fun n g d h1 h2 => (tab_fn k_judge_to_place (k + 2) _).trans (judge1_ok (to_at (k + 1)) (told_at k_is_told (k + 1)) (wholes_at k_is_whole k_are_wholes k) (pl_at (k + 1)) h1 h2)
theorem ju2_at (k : Nat) : Ju2At (TK (k + 3)) := fun row h c d bd hd => (tab_fn k_judge_dealt (k + 2) _).trans (judge2_ok (de_at k) (told_at k_is_told (k + 1)) bd hd)
def Ac1At (T : Tab) : Prop := ∀ (n g : Nat) (a : PyData), (n : Int).fmod 2 ≠ 1 → 2 ≤ n → n ≤ 24 → g < n → PP a → T.fn "_law_accepts" [.int (n : Int), .int (g : Int), a] = .ok (.bool (acc1B n g a)) []
def Ac2At (T : Tab) : Prop := ∀ (row : List Int) (h c : Int) (a : PyData), BdR row h → ok2 row h c = true → PP a → T.fn "_law_accepts_too" [intsT row, .int h, .int c, a] = .ok (.bool (sameB a (due2 row h.toNat c))) []
theorem ac1_at (k : Nat) : Ac1At (TK (k + 5)) := fun n g a h1 h2 h3 h4 h5 => (tab_fn k__law_accepts (k + 4) _).trans (acc1_ok (wh_at _) (ln_at (k + 3)) (lis_at k__law_is (k + 3)) (lplaces_at k__law_is_whole k__law_is_place k__law_are_places (k + 1)) h1 h2 h3 h4 h5)
theorem ac2_at (k : Nat) : Ac2At (TK (k + 5)) := fun row h c a bd hv ha => (tab_fn k__law_accepts_too (k + 4) _).trans (acc2_ok (t := k + 4) (by omega) (same_at k__law_same (k + 4)) bd hv ha)
def Ne1At (T : Tab) : Prop := ∀ (st : PyData) (n g : Int), Sh.St st → (0 ≤ n ∧ n ≤ 24) → wF (T.fn "_law_told_near" [st, .int n, .int g]) (NearP PP) (fun _ => False)
def Ne2At (T : Tab) : Prop := ∀ (st : PyData) (row : List Int) (h c : Int), Sh.St st → row.length ≤ 10 → (∀ x ∈ row, x.natAbs ≤ 19) → (0 ≤ h ∧ h ≤ 4) → wF (T.fn "_law_told_near_too" [st, intsT row, .int h, .int c]) (NearP PP) (fun _ => False)
theorem toE {T : Tab} (TO : ToAt T) {n g : Int} (hn : n ≤ 60) : EndsP PP T "to_place" [.int n, .int g] := endsP_if (TO n g hn) fun z => PP_due1 (by have := ok1_all z; omega)
theorem deE {T : Tab} (DE : DeAt T) {row : List Int} {h c : Int} (bd : BdR row h) : EndsP PP T "dealt" [intsT row, .int h, .int c] := endsP_if (DE row h c (Nat.le_trans bd.len (by decide)) bd.few) fun _ => PP_due2 bd
theorem ne1_at (k : Nat) : Ne1At (TK (k + 4)) := fun st n g h1 h2 => wF_cast (tab_fn k__law_told_near (k + 3) _) (nearP2 kn PP_unit (next_at k__law_next (k + 2)) h1 (nbp_int (nb_int_at k__law_next k__law_neighbour (k + 1)) n) (by
  rintro _ ⟨j, rfl, hx⟩
  exact toE (to_at (k + 2)) (by omega)) (nbp_int (nb_int_at k__law_next k__law_neighbour (k + 1)) g) (by
  rintro _ ⟨j, rfl, hx⟩
  exact toE (to_at (k + 2)) (by omega)))
theorem ne2_at (k : Nat) : Ne2At (TK (k + 4)) := fun st row h c h1 h2 h3 h4 => wF_cast (tab_fn k__law_told_near_too (k + 3) _) (nearP3 kn PP_unit (next_at k__law_next (k + 2)) h1 (nbp_rowB (B := 19) (nb_row_at k__law_next k__law_neighbour k) (by omega) h3) (by
  rintro _ ⟨xs, rfl, hx, hy⟩
  exact deE (de_at (k + 1)) ⟨by omega, fun x hx => by have := hy x hx; omega, by omega⟩) (nbp_int (nb_int_at k__law_next k__law_neighbour (k + 1)) h) (by
  rintro _ ⟨j, rfl, hx⟩
  exact deE (de_at (k + 1)) ⟨by omega, fun x hx => by have := h3 x hx; omega, by omega⟩) (nbp_int (nb_int_at k__law_next k__law_neighbour (k + 1)) c) (by
  rintro _ ⟨j, rfl, hx⟩
  exact deE (de_at (k + 1)) ⟨by omega, fun x hx => by have := h3 x hx; omega, by omega⟩))
def Un1At (T : Tab) : Prop := ∀ n g : Int, n ≤ 60 → ok1 n g = false → T.fn "_law_unfit" [.int n, .int g] = .ok (.bool true) []
def Un2At (T : Tab) : Prop := ∀ (row : List Int) (h c : Int), BdR row h → ok2 row h c = false → T.fn "_law_unfit_too" [intsT row, .int h, .int c] = .ok (.bool true) []
theorem un1_at (k : Nat) : Un1At (TK (k + 4)) := fun n g h1 h2 => (tab_fn k__law_unfit (k + 3) _).trans (unfit2 kn (not_valid (to_at (k + 2) n g h1) h2) (not_valid (ju1_at k n g .none h1 PP_non) h2))
theorem un2_at (k : Nat) : Un2At (TK (k + 4)) := fun row h c bd h2 => (tab_fn k__law_unfit_too (k + 3) _).trans (unfit3 kn (not_valid (de_at (k + 1) row h c (Nat.le_trans bd.len (by decide)) bd.few) h2) (not_valid (ju2_at k row h c .none bd PP_non) h2))
theorem oddPP {T : Tab} {n : Nat} (OE : OddZAt T n) {st : PyData} {xs : List PyData} (hn : n + 2 ≤ 4) (hst : Sh.St st) (ht : Told 300 (n + 1) xs) (hz : nz (.tuple xs) ≤ 200) : wF (T.fn "_law_odd" [st, .tuple xs]) (fun d io => ∃ st', io = [st'] ∧ Sh.St st' ∧ PP d) (fun _ => False) :=
  wF_mono (OE 300 2000 st xs (by decide) hst ht (by omega)) (fun d io ⟨st', e1, e2, e3⟩ => ⟨st', e1, e2, e3.elim (fun z => .inl ⟨z.1.mono (by decide) hn, z.2⟩) .inr⟩) (fun _ z => z)
theorem law_ok {T : Tab} (NX : NextAt T) (CA : CardsAt T) (TOA : ToAt T) (DE : DeAt T) (NR : Ne1At T) (NS : Ne2At T) (AC : Ac1At T) (AD : Ac2At T) (JU : Ju1At T) (JV : Ju2At T) (UN : Un1At T) (UV : Un2At T) (SA : SameAt T (59 + 1)) (OD : OddZAt T 1) (OE : OddZAt T 2) {ns : List Int} (hl : ns.length ≤ 63) : LawR g_law T [.scr ns, .un, .un, .un, .un, .un, .un, .un, .un, .un, .un, .un, .un, .un] := by
  unfold LawR
  unfold g_law
  have hL : LINE = 16777216 := rfl
  have hB : B64 = 18446744073709551616 := rfl
  repeat walk_at "pv"
  refine for_inv (I := fun i e => ∃ (st : PyData) (s1 s2 : List PyData) (c4 c5 c6 c7 c8 c9 c10 c11 c12 c13 : SV), e = [.scr ns, .own false st, .val (.list s1), .val (.list s2), c4, c5, c6, c7, c8, c9, c10, c11, c12, c13] ∧ Sh.St st ∧ s1.length ≤ 2 * i ∧ s2.length ≤ 2 * i ∧ (∀ d ∈ s1, PP d) ∧ (∀ d ∈ s2, PP d)) _ (fun i d e hd hI => ?_) (fun e hI => ?_) ⟨_, [], [], _, _, _, _, _, _, _, _, _, _, rfl, St_new ns, by decide, by decide, (fun _ z => by cases z), (fun _ z => by cases z)⟩
  · obtain ⟨st, s1, s2, c4, c5, c6, c7, c8, c9, c10, c11, c12, c13, rfl, hst, hs1, hs2, hm_s1, hm_s2⟩ := hI
    refine ⟨[.scr ns, .own false st, .val (.list s1), .val (.list s2), .val d, c5, c6, c7, c8, c9, c10, c11, c12, c13], rfl, ?_⟩
    have hi3 : i < 3 := by simpa using (rgD_get hd).2
    repeat walk_at "pv"
    refine draw NX hst (by decide) (by decide) ?_
    intro u st1 u0 u1 hst1
    refine ⟨_, rfl, ?_⟩
    have mu := mul_ok (a := 2) (b := u) ⟨by omega, by omega⟩
    repeat (first | with_reducible refine O_some mu ?_ | walk_at "pv")
    refine draw NX hst1 (by omega) (by omega) ?_
    intro v st2 v0 v1 hst2
    refine ⟨_, rfl, ?_⟩
    obtain ⟨N, hN⟩ : ∃ N : Nat, 2 + 2 * u = (N : Int) := ⟨(2 + 2 * u).toNat, by omega⟩
    obtain ⟨G, hG⟩ : ∃ G : Nat, v = (G : Int) := ⟨v.toNat, by omega⟩
    subst hG
    rw [hN]
    have hn2 : (N : Int).fmod 2 ≠ 1 := by
      rw [Int.fmod_eq_emod_of_nonneg _ (by decide)]
      omega
    have hg : G < N := by omega
    have hN2 : 2 ≤ N := by omega
    have hN24 : N ≤ 24 := by omega
    have hv1 : ok1 (N : Int) (G : Int) = true := by
      unfold ok1
      rw [decide_eq_false (show ¬ (N : Int) < 2 by omega), decide_eq_false hn2, decide_eq_true (show (0 : Int) ≤ (G : Int) by omega), decide_eq_true (show (G : Int) < (N : Int) by omega)]
      rfl
    have lo1 : T.fn "to_place" [.int (N : Int), .int (G : Int)] = .ok (due1 G) [] := by
      have := is_valid (TOA (N : Int) (G : Int) (by omega)) hv1
      rwa [Int.toNat_natCast] at this
    have nr1 : ∀ st, Sh.St st → _ := fun st h => NR st (N : Int) (G : Int) h ⟨by omega, by omega⟩
    have acc1 := fun (x : PyData) (h : PP x) => AC N G x hn2 hN2 hN24 hg h
    have jud1 : ∀ x, PP x → T.fn "judge_to_place" [.int (N : Int), .int (G : Int), x] = .ok (.bool (acc1B N G x)) [] := fun (x : PyData) (h : PP x) => by
      have := is_valid (JU (N : Int) (G : Int) x (by omega) h) hv1
      rwa [Int.toNat_natCast, Int.toNat_natCast] at this
    have g64 : G < 64 := by omega
    have hpp1 : PP (due1 G) := PP_due1 g64
    have srf1 : acc1B N G (due1 G) = true := acc1_self hn2 hg g64
    have od1 : ∀ st, Sh.St st → wF (T.fn "_law_odd" [st, due1 G]) (fun d io => ∃ st', io = [st'] ∧ Sh.St st' ∧ PP d) (fun _ => False) := fun st hs => by
      obtain ⟨xs, e, t, z⟩ := due1_told (g := G) (B := 300) g64 (by decide)
      rw [e]
      exact oddPP OD (by decide) hs t (by omega)
    have u1 := UN 1 0 (by decide) (by decide)
    have u2 := UN 0 0 (by decide) (by decide)
    have u3 := UN (N : Int) (N : Int) (by omega) (by unfold ok1; rw [decide_eq_false (show ¬ (N : Int) < (N : Int) by omega), Bool.and_false, Bool.and_false, Bool.and_false])
    have u4 := UN (N : Int) (-1) (by omega) (by unfold ok1; rw [show decide ((0 : Int) ≤ -1) = false from rfl, Bool.false_and, Bool.and_false, Bool.and_false])
    generalize acc1B N G = A1 at *
    generalize due1 G = D1 at *
    clear TOA NR AC JU UN OD
    generalize (N : Int) = nI at *
    generalize (G : Int) = gI at *
    repeat walk_at "pv"
    repeat (first | walk_at "pv")
    refine wF_cast lo1 ?_
    refine ⟨rfl, .inl rfl, ?_⟩
    repeat walk_at "pv"
    refine wF_mono (nr1 st2 hst2) ?_ (fun _ z => z)
    rintro near1 _ ⟨sn1, rfl, hsn1, hnear1⟩
    refine ⟨_, rfl, ?_⟩
    repeat walk_at "pv"
    refine wF_cast (acc1 D1 hpp1) ?_
    rw [srf1]
    refine ⟨rfl, .inl rfl, ?_⟩
    repeat walk_at "pv"
    refine wF_cast (jud1 D1 hpp1) ?_
    rw [srf1]
    refine ⟨rfl, .inl rfl, ?_⟩
    repeat (first | walk_at "pv")
    refine wF_cast u1 ?_
    refine ⟨rfl, .inl rfl, ?_⟩
    repeat (first | walk_at "pv")
    refine wF_cast u2 ?_
    refine ⟨rfl, .inl rfl, ?_⟩
    repeat (first | walk_at "pv")
    refine wF_cast u3 ?_
    refine ⟨rfl, .inl rfl, ?_⟩
    repeat (first | walk_at "pv")
    refine wF_cast u4 ?_
    refine ⟨rfl, .inl rfl, ?_⟩
    repeat (first | with_reducible refine O_some (push_add (D := D1) (near := near1) (by omega)) ?_ | walk_at "pv")
    have hJ1 : ∀ (st_ : PyData) (a_ : SV) (x_ : PyData), PP x_ → (dCallF "judge_to_place" (dCons (dVar 5) (dCons (dVar 6) (dCons (dVar 10) dNil)))) T ((fun (st_ : PyData) (a_ b_ : SV) => ([.scr ns, .own false st_, .val (.list (push s1 D1 near1)), .val (.list s2), .val d, .val (.int nI), .val (.int gI), .val D1, .val near1, a_, b_, c11, c12, c13] : Pv.Env)) st_ a_ (.val x_)) = .ok (.d (.bool (A1 x_))) ((fun (st_ : PyData) (a_ b_ : SV) => ([.scr ns, .own false st_, .val (.list (push s1 D1 near1)), .val (.list s2), .val d, .val (.int nI), .val (.int gI), .val D1, .val near1, a_, b_, c11, c12, c13] : Pv.Env)) st_ a_ (.val x_)) := fun st_ a_ x_ h1 => call_ok (ws := [.d (.int nI), .d (.int gI), .d x_]) rfl rfl rfl (jud1 x_ h1)
    have hA1 : ∀ (st_ : PyData) (a_ : SV) (x_ : PyData), PP x_ → (dCallF "_law_accepts" (dCons (dVar 5) (dCons (dVar 6) (dCons (dVar 10) dNil)))) T ((fun (st_ : PyData) (a_ b_ : SV) => ([.scr ns, .own false st_, .val (.list (push s1 D1 near1)), .val (.list s2), .val d, .val (.int nI), .val (.int gI), .val D1, .val near1, a_, b_, c11, c12, c13] : Pv.Env)) st_ a_ (.val x_)) = .ok (.d (.bool (A1 x_))) ((fun (st_ : PyData) (a_ b_ : SV) => ([.scr ns, .own false st_, .val (.list (push s1 D1 near1)), .val (.list s2), .val d, .val (.int nI), .val (.int gI), .val D1, .val near1, a_, b_, c11, c12, c13] : Pv.Env)) st_ a_ (.val x_)) := fun st_ a_ x_ h1 => call_ok (ws := [.d (.int nI), .d (.int gI), .d x_]) rfl rfl rfl (acc1 x_ h1)
    have hpl1 : (push s1 D1 near1).length ≤ 2 * (i + 1) := Nat.le_trans push_len (by omega)
    have hpm1 : ∀ d ∈ (push s1 D1 near1), PP d := push_mem hm_s1 hpp1 hnear1
    refine asksP (sS := 1) (sN := 2) (sT := 7) (sK := 9) (sA := 10) (seen := (push s1 D1 near1)) (D := D1) (E := (fun (st_ : PyData) (a_ b_ : SV) => ([.scr ns, .own false st_, .val (.list (push s1 D1 near1)), .val (.list s2), .val d, .val (.int nI), .val (.int gI), .val D1, .val near1, a_, b_, c11, c12, c13] : Pv.Env))) (k0 := c9) (a0 := c10) ⟨fun _ _ _ _ => rfl, fun _ _ _ _ => rfl, fun _ _ _ _ => rfl, fun _ _ _ => rfl, fun _ _ _ => rfl, fun _ _ _ => rfl, fun _ _ _ => rfl⟩ SA (n := 8) (by decide) (by omega) (P := PP) hpm1 od1 A1 hJ1 hA1 hsn1 (fun st11 k11 a11 hst11 hk11 => ?_)
    repeat walk_at "pv"
    refine wF_mono (CA st11 0 10 20 hst11 (by decide) (by decide) (by decide)) ?_ (fun _ z => z)
    rintro _ _ ⟨st20, cs, rfl, hst20, rfl, nd, hc, hc10, _⟩
    refine ⟨_, rfl, ?_⟩
    have hc10 : cs.length ≤ 10 := hc10
    repeat walk_at "pv"
    refine draw NX hst20 (by decide) (by decide) ?_
    intro x st21 x0 x1 hst21
    refine ⟨_, rfl, ?_⟩
    repeat walk_at "pv"
    refine draw NX hst21 (by decide) (by decide) ?_
    intro kd st22 kd0 kd1 hst22
    refine ⟨_, rfl, ?_⟩
    obtain ⟨h, hh⟩ : ∃ h : Int, h = 1 + x := ⟨_, rfl⟩
    rw [← hh]
    have bd : BdR cs h := ⟨by omega, fun y hy => by have := hc y hy; omega, by omega⟩
    have hv2 : ok2 cs h kd = true := by
      have hk : kd ∈ [(0 : Int), 1] := by
        rcases (show kd = 0 ∨ kd = 1 by omega) with rfl | rfl <;> decide
      unfold ok2
      rw [decide_eq_true nd, decide_eq_false (show ¬ h < 1 by omega), decide_eq_true hk]
      rfl
    have lo2 := is_valid (DE cs h kd (by omega) bd.few) hv2
    have nr2 : ∀ st, Sh.St st → _ := fun st hs => NS st cs h kd hs hc10 (fun y hy => by have := hc y hy; omega) ⟨by omega, by omega⟩
    have acc2 := fun (x : PyData) (hx : PP x) => AD cs h kd x bd hv2 hx
    have jud2 := fun (x : PyData) (hx : PP x) => is_valid (JV cs h kd x bd hx) hv2
    have hpp2 : PP (due2 cs h.toNat kd) := PP_due2 bd
    have srf2 : sameB (due2 cs h.toNat kd) (due2 cs h.toNat kd) = true := sameB_refl ((due2_sd bd).1.good (by decide))
    have od2 : ∀ st, Sh.St st → wF (T.fn "_law_odd" [st, due2 cs h.toNat kd]) (fun d io => ∃ st', io = [st'] ∧ Sh.St st' ∧ PP d) (fun _ => False) := fun st hs => by
      obtain ⟨xs, e, t, z⟩ := due2_told (k := kd) (B := 300) bd (by decide)
      rw [e]
      exact oddPP OE (by decide) hs t (by omega)
    have u5 := UV cs 0 kd ⟨bd.len, bd.low, by decide⟩ (by unfold ok2; rw [decide_eq_true (show (0 : Int) < 1 by decide), Bool.not_true, Bool.false_and, Bool.and_false])
    have u6 := UV cs h 2 bd (by unfold ok2; rw [show decide ((2 : Int) ∈ [(0 : Int), 1]) = false by decide, Bool.and_false, Bool.and_false])
    have u7 : T.fn "_law_unfit_too" [.tuple [.int 1, .int 1], .int h, .int kd] = .ok (.bool true) [] := UV [1, 1] h kd ⟨by decide, by decide, bd.few⟩ (by unfold ok2; rw [show decide ([(1 : Int), 1].Nodup) = false by decide, Bool.false_and])
    generalize due2 cs h.toNat kd = D2 at *
    clear DE NS AD JV UV OE
    repeat walk_at "pv"
    repeat (first | walk_at "pv")
    refine wF_cast lo2 ?_
    refine ⟨rfl, .inl rfl, ?_⟩
    repeat walk_at "pv"
    refine wF_mono (nr2 st22 hst22) ?_ (fun _ z => z)
    rintro near2 _ ⟨sn2, rfl, hsn2, hnear2⟩
    refine ⟨_, rfl, ?_⟩
    repeat walk_at "pv"
    refine wF_cast (acc2 D2 hpp2) ?_
    rw [srf2]
    refine ⟨rfl, .inl rfl, ?_⟩
    repeat walk_at "pv"
    refine wF_cast (jud2 D2 hpp2) ?_
    rw [srf2]
    refine ⟨rfl, .inl rfl, ?_⟩
    repeat (first | walk_at "pv")
    refine wF_cast u5 ?_
    refine ⟨rfl, .inl rfl, ?_⟩
    repeat (first | walk_at "pv")
    refine wF_cast u6 ?_
    refine ⟨rfl, .inl rfl, ?_⟩
    repeat (first | walk_at "pv")
    refine wF_cast u7 ?_
    refine ⟨rfl, .inl rfl, ?_⟩
    repeat (first | with_reducible refine O_some (push_add (D := D2) (near := near2) (by omega)) ?_ | walk_at "pv")
    have hJ2 : ∀ (st_ : PyData) (a_ : SV) (x_ : PyData), PP x_ → (dCallF "judge_dealt" (dCons (dVar 11) (dCons (dVar 12) (dCons (dVar 13) (dCons (dVar 10) dNil))))) T ((fun (st_ : PyData) (a_ b_ : SV) => ([.scr ns, .own false st_, .val (.list (push s1 D1 near1)), .val (.list (push s2 D2 near2)), .val d, .val (.int nI), .val (.int gI), .val D2, .val near2, a_, b_, .val (intsT cs), .val (.int h), .val (.int kd)] : Pv.Env)) st_ a_ (.val x_)) = .ok (.d (.bool ((fun z_ => sameB z_ D2) x_))) ((fun (st_ : PyData) (a_ b_ : SV) => ([.scr ns, .own false st_, .val (.list (push s1 D1 near1)), .val (.list (push s2 D2 near2)), .val d, .val (.int nI), .val (.int gI), .val D2, .val near2, a_, b_, .val (intsT cs), .val (.int h), .val (.int kd)] : Pv.Env)) st_ a_ (.val x_)) := fun st_ a_ x_ h1 => call_ok (ws := [.d (intsT cs), .d (.int h), .d (.int kd), .d x_]) rfl rfl rfl (jud2 x_ h1)
    have hA2 : ∀ (st_ : PyData) (a_ : SV) (x_ : PyData), PP x_ → (dCallF "_law_accepts_too" (dCons (dVar 11) (dCons (dVar 12) (dCons (dVar 13) (dCons (dVar 10) dNil))))) T ((fun (st_ : PyData) (a_ b_ : SV) => ([.scr ns, .own false st_, .val (.list (push s1 D1 near1)), .val (.list (push s2 D2 near2)), .val d, .val (.int nI), .val (.int gI), .val D2, .val near2, a_, b_, .val (intsT cs), .val (.int h), .val (.int kd)] : Pv.Env)) st_ a_ (.val x_)) = .ok (.d (.bool ((fun z_ => sameB z_ D2) x_))) ((fun (st_ : PyData) (a_ b_ : SV) => ([.scr ns, .own false st_, .val (.list (push s1 D1 near1)), .val (.list (push s2 D2 near2)), .val d, .val (.int nI), .val (.int gI), .val D2, .val near2, a_, b_, .val (intsT cs), .val (.int h), .val (.int kd)] : Pv.Env)) st_ a_ (.val x_)) := fun st_ a_ x_ h1 => call_ok (ws := [.d (intsT cs), .d (.int h), .d (.int kd), .d x_]) rfl rfl rfl (acc2 x_ h1)
    have hpl2 : (push s2 D2 near2).length ≤ 2 * (i + 1) := Nat.le_trans push_len (by omega)
    have hpm2 : ∀ d ∈ (push s2 D2 near2), PP d := push_mem hm_s2 hpp2 hnear2
    refine asksP (sS := 1) (sN := 3) (sT := 7) (sK := 9) (sA := 10) (seen := (push s2 D2 near2)) (D := D2) (E := (fun (st_ : PyData) (a_ b_ : SV) => ([.scr ns, .own false st_, .val (.list (push s1 D1 near1)), .val (.list (push s2 D2 near2)), .val d, .val (.int nI), .val (.int gI), .val D2, .val near2, a_, b_, .val (intsT cs), .val (.int h), .val (.int kd)] : Pv.Env))) (k0 := k11) (a0 := a11) ⟨fun _ _ _ _ => rfl, fun _ _ _ _ => rfl, fun _ _ _ _ => rfl, fun _ _ _ => rfl, fun _ _ _ => rfl, fun _ _ _ => rfl, fun _ _ _ => rfl⟩ SA (n := 8) (by decide) (by omega) (P := PP) hpm2 od2 (fun z_ => sameB z_ D2) hJ2 hA2 hsn2 (fun st12 k12 a12 hst12 hk12 => ?_)
    exact ⟨st12, _, _, _, _, _, _, _, _, _, _, _, _, rfl, hst12, hpl1, hpl2, hpm1, hpm2⟩
  · obtain ⟨st, s1, s2, c4, c5, c6, c7, c8, c9, c10, c11, c12, c13, rfl, _⟩ := hI
    repeat walk_at "pv"
    first | done | rfl | exact ⟨rfl, rfl⟩
theorem law_all {ns : List Int} (hl : ns.length ≤ 63) : LawR g_law (tabOf PR 64 60) [.scr ns, .un, .un, .un, .un, .un, .un, .un, .un, .un, .un, .un, .un, .un] := by
  have h1 := @next_at PR 64 k__law_next
  have h2 := @cards_at PR 64 k__law_next k__law_mixed k__law_cards
  have h3 := to_at
  have h4 := de_at
  have h5 := ne1_at
  have h6 := ne2_at
  have h7 := ac1_at
  have h8 := ac2_at
  have h9 := ju1_at
  have h10 := ju2_at
  have h11 := un1_at
  have h12 := un2_at
  have h13 := @same_at PR 64 k__law_same
  have h14 := @oddZ_at PR 64 k__law_next k__law_ints k__law_exchanged k__law_cut k__law_turned_about k__law_changed k__law_odd
  unfold TK at *
  generalize tabOf PR 64 = f at h1 h2 h3 h4 h5 h6 h7 h8 h9 h10 h11 h12 h13 h14 ⊢
  exact law_ok (h1 59) (h2 57) (h3 59) (h4 58) (h5 56) (h6 56) (h7 55) (h8 55) (h9 57) (h10 57) (h11 56) (h12 56) (h13 60) (h14 57 1 (by omega) (by omega)) (h14 57 2 (by omega) (by omega)) hl
theorem pure_ok : Pure := fun ns hl => law_end (law_all hl)
end W24
theorem PySem.Challenge.cw_cardwhole_k24_tops_to_places_and_dealt_h_holds : PySem.Challenge.rw_cardwhole_k24_tops_to_places_and_dealt_h.Holds := by
  exact holds_of W24.pure_ok
end
