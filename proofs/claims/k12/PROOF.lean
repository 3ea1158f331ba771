import PyProof.Rows.All
import Wide.All
import OpenK.AllK
import Wide.FinOn
import HandS.ForMost
import HandS.IsInst
import HandS.TryMany
import HandS.ExcInit
import HandS.ExcOwn
import HandS.ExcField
import HandS.Strs
import HandS.Conv
import HandS.TupMul
import HandS.Style
import HandS.Wide
import HandS.Flow
import HandS.Steps
import HandS.Deep
import KE.KExcIs
import HandS.IterVal
import HandS.Comp
import HandS.Sort
import KE.KDictKeyed
import HandS.Dict
import HandS.TupAny
import HandS.TryOnly
import HandS.SetFor
import HandS.SetBool
import HandS.Gcd
import HandS.WordsExc
import PySem.Challenge.RW_semigroupbench_k12_special_elements
set_option Elab.async false
set_option linter.all false
set_option maxRecDepth 100000
set_option maxHeartbeats 2000000
/-! DL: data over the hand layer: what an expression's reading gives as data, what a statement's reading makes of slots that hold data. -/
namespace DL
open PySem PySem.Spec PyProof.Rows L2
abbrev Sg := List (Option V)

/-- data, without addresses -/
inductive D where
  | non | bl (b : Bool) | int (i : Int) | str (x : Str)
  | tup (ds : List D) | lst (ds : List D) | dct (kvs : List (Key × D)) | op (v : V) | idn (v : V) (d : D) | rng (lo hi : Int)
  /-- an error of an own class, made as a value -/
  | exc (C : Addr)
  /-- a set of n numbers -/
  | set (w : World) (S : Int → Bool) (n : Nat)

def Ex (H H' : Hp) : Prop := ∀ a o, H a = some o → H' a = some o
theorem Ex.refl (H : Hp) : Ex H H := fun _ _ h => h
theorem Ex.trans {H H1 H2 : Hp} (a : Ex H H1) (b : Ex H1 H2) : Ex H H2 := fun x o h => b x o (a x o h)
theorem Ex.new {H : Hp} {p : Addr} {o : HO} (h : H p = none) : Ex H (upd H p o) := fun a u e => by
  rw [upd_ne (ne_of_none e h)]; exact e
theorem Ex.back {H H' : Hp} {p : Addr} (e : Ex H H') (h : H' p = none) : H p = none := by
  cases h1 : H p with
  | none => rfl
  | some o => rw [e p o h1] at h; cases h
theorem ex_rd {H H' : Hp} {a : Addr} {u : HO} (e : Ex H H') (h : Rd H a u) : Rd H' a u := by
  rcases h with h | ⟨o, h⟩
  · exact Or.inl (e a _ h)
  · exact Or.inr ⟨o, e a _ h⟩
theorem ex_l {K : PySem.W.Frag} {H H' : Hp} {a : Addr} {xs : List V} (e : Ex H H') (h : SqL K H a xs) : SqL K H' a xs := by
  rcases h with h | h
  · exact Or.inl (ex_rd e h)
  · exact Or.inr h
theorem ex_t {K : PySem.W.Frag} {H H' : Hp} {a : Addr} {xs : List V} (e : Ex H H') (h : SqT K H a xs) : SqT K H' a xs := by
  rcases h with h | h
  · exact Or.inl (ex_rd e h)
  · exact Or.inr h

mutual
/-- in the view G the value v is the data d -/
inductive Dat (K : PySem.W.Frag) (G : Hp) : V → D → Prop
  | non : Dat K G .non .non
  | bl (b : Bool) : Dat K G (.bl b) (.bl b)
  | int (i : Int) : Dat K G (.int i) (.int i)
  | str (x : Str) : Dat K G (.str x) (.str x)
  | tup {a : Addr} {xs : List V} {ds : List D} : SqT K G a xs → DatL K G xs ds → Dat K G (.ref a) (.tup ds)
  | lst {a : Addr} {xs : List V} {ds : List D} : G a = some (.lst xs) → DatL K G xs ds → Dat K G (.ref a) (.lst ds)
  | dct {a : Addr} {kvs : List (Key × V)} {kds : List (Key × D)} : G a = some (.dK kvs) → DatK K G kvs kds → Dat K G (.ref a) (.dct kds)
  | op (v : V) : Dat K G v (.op v)
  | idn {v : V} {d : D} : Dat K G v d → Dat K G v (.idn v d)
  | rng {a : Addr} {lo hi : Int} : G a = some (.rng lo hi) → Dat K G (.ref a) (.rng lo hi)
  | exc {a C dx : Addr} {fs : List (Str × V)} : G a = some (exo a C (some dx)) → G dx = some (exd dx fs) → Dat K G (.ref a) (.exc C)
  | set {a : Addr} {w : World} {S : Int → Bool} {n : Nat} : G a = some (SetO w a S n) → Dat K G (.ref a) (.set w S n)
inductive DatL (K : PySem.W.Frag) (G : Hp) : List V → List D → Prop
  | nil : DatL K G [] []
  | cons {v : V} {vs : List V} {d : D} {ds : List D} : Dat K G v d → DatL K G vs ds → DatL K G (v :: vs) (d :: ds)
inductive DatK (K : PySem.W.Frag) (G : Hp) : List (Key × V) → List (Key × D) → Prop
  | nil : DatK K G [] []
  | cons {k : Key} {v : V} {vs : List (Key × V)} {d : D} {ds : List (Key × D)} : Dat K G v d → DatK K G vs ds → DatK K G ((k, v) :: vs) ((k, d) :: ds)
end
section
variable {K : PySem.W.Frag} {G G' H H' : Hp}
mutual
theorem Dat.mono (e : Ex G G') : ∀ (d : D) (v : V), Dat K G v d → Dat K G' v d
  | .non, _, h => by cases h; exact .non
  | .bl b, _, h => by cases h; exact .bl b
  | .int i, _, h => by cases h; exact .int i
  | .str x, _, h => by cases h; exact .str x
  | .tup ds, _, h => by cases h with | tup a b => exact .tup (ex_t e a) (DatL.mono e ds _ b)
  | .lst ds, _, h => by cases h with | lst a b => exact .lst (e _ _ a) (DatL.mono e ds _ b)
  | .dct ds, _, h => by cases h with | dct a b => exact .dct (e _ _ a) (DatK.mono e ds _ b)
  | .op v, _, h => by cases h; exact .op v
  | .idn v d, _, h => by cases h with | idn a => exact .idn (Dat.mono e d _ a)
  | .rng _ _, _, h => by cases h with | rng a => exact .rng (e _ _ a)
  | .exc _, _, h => by cases h with | exc a b => exact .exc (e _ _ a) (e _ _ b)
  | .set _ _ _, _, h => by cases h with | set a => exact .set (e _ _ a)
theorem DatL.mono (e : Ex G G') : ∀ (ds : List D) (vs : List V), DatL K G vs ds → DatL K G' vs ds
  | [], _, h => by cases h; exact .nil
  | d :: ds, _, h => by cases h with | cons a b => exact .cons (Dat.mono e d _ a) (DatL.mono e ds _ b)
theorem DatK.mono (e : Ex G G') : ∀ (ds : List (Key × D)) (vs : List (Key × V)), DatK K G vs ds → DatK K G' vs ds
  | [], _, h => by cases h; exact .nil
  | (k, d) :: ds, _, h => by cases h with | cons a b => exact .cons (Dat.mono e d _ a) (DatK.mono e ds _ b)
end
theorem Dat.up {v : V} {d : D} (h : Dat K G v d) (e : Ex G G') : Dat K G' v d := Dat.mono e d v h
theorem DatL.up {v : List V} {d : List D} (h : DatL K G v d) (e : Ex G G') : DatL K G' v d := DatL.mono e d v h
theorem DatL.length : ∀ {vs : List V} {ds : List D}, DatL K G vs ds → vs.length = ds.length
  | _, _, .nil => rfl
  | _, _, .cons _ t => by rw [List.length_cons, List.length_cons, DatL.length t]
theorem DatL.get : ∀ {vs : List V} {ds : List D} {i : Nat} {d : D}, DatL K G vs ds → ds[i]? = some d → ∃ v, vs[i]? = some v ∧ Dat K G v d
  | _, _, _, _, .nil, e => by simp at e
  | _, _, 0, _, .cons a _, e => by simp at e; subst e; exact ⟨_, rfl, a⟩
  | _, _, i + 1, _, .cons _ t, e => by
    obtain ⟨v, h1, h2⟩ := DatL.get (i := i) t (by simpa using e)
    exact ⟨v, by simpa using h1, h2⟩
theorem DatL.getV : ∀ {vs : List V} {ds : List D} {i : Nat} {v : V}, DatL K G vs ds → vs[i]? = some v → ∃ d, ds[i]? = some d ∧ Dat K G v d
  | _, _, _, _, .nil, e => by simp at e
  | _, _, 0, _, .cons a _, e => by simp at e; subst e; exact ⟨_, rfl, a⟩
  | _, _, i + 1, _, .cons _ t, e => by
    obtain ⟨v, h1, h2⟩ := DatL.getV (i := i) t (by simpa using e)
    exact ⟨v, by simpa using h1, h2⟩
theorem DatL.append : ∀ {vs ws : List V} {ds es : List D}, DatL K G vs ds → DatL K G ws es → DatL K G (vs ++ ws) (ds ++ es)
  | _, _, _, _, .nil, h => h
  | _, _, _, _, .cons a t, h => .cons a (DatL.append t h)
theorem DatL.one {v : V} {d : D} (h : Dat K G v d) : DatL K G [v] [d] := .cons h .nil
theorem DatL.set : ∀ {vs : List V} {ds : List D} {v : V} {d : D} (i : Nat), DatL K G vs ds → Dat K G v d → DatL K G (vs.set i v) (ds.set i d)
  | _, _, _, _, _, .nil, _ => .nil
  | _, _, _, _, 0, .cons _ t, h => .cons h t
  | _, _, _, _, i + 1, .cons a t, h => .cons a (DatL.set i t h)
theorem DatL.take : ∀ {vs : List V} {ds : List D} (n : Nat), DatL K G vs ds → DatL K G (vs.take n) (ds.take n)
  | _, _, 0, _ => .nil
  | _, _, _ + 1, .nil => .nil
  | _, _, n + 1, .cons a t => .cons a (DatL.take n t)
theorem DatL.drop : ∀ {vs : List V} {ds : List D} (n : Nat), DatL K G vs ds → DatL K G (vs.drop n) (ds.drop n)
  | _, _, 0, h => h
  | _, _, _ + 1, .nil => .nil
  | _, _, n + 1, .cons _ t => DatL.drop n t
theorem DatL.erase : ∀ {vs : List V} {ds : List D} (n : Nat), DatL K G vs ds → DatL K G (vs.eraseIdx n) (ds.eraseIdx n)
  | _, _, _, .nil => .nil
  | _, _, 0, .cons _ t => t
  | _, _, n + 1, .cons a t => .cons a (DatL.erase n t)
theorem DatL.ints : ∀ (ns : List Int), DatL K G (ns.map V.int) (ns.map D.int)
  | [] => .nil
  | n :: ns => .cons (.int n) (DatL.ints ns)
theorem DatL.intsV : ∀ {ns : List Int} {vs : List V}, DatL K G vs (ns.map D.int) → vs = ns.map V.int
  | [], _, h => by cases h; rfl
  | n :: ns, _, h => by
    cases h with
    | cons a t => cases a; rw [DatL.intsV t]; rfl
theorem DatL.bls : ∀ (ns : List Bool), DatL K G (ns.map V.bl) (ns.map D.bl)
  | [] => .nil
  | n :: ns => .cons (.bl n) (DatL.bls ns)
theorem DatL.blsV : ∀ {ns : List Bool} {vs : List V}, DatL K G vs (ns.map D.bl) → vs = ns.map V.bl
  | [], _, h => by cases h; rfl
  | n :: ns, _, h => by
    cases h with
    | cons a t => cases a; rw [DatL.blsV t]; rfl
theorem DatL.rep {v : V} {d : D} (h : Dat K G v d) : ∀ n, DatL K G (List.replicate n v) (List.replicate n d)
  | 0 => .nil
  | n + 1 => .cons h (DatL.rep h n)
theorem DatL.flatten : ∀ (n : Nat) {vs : List V} {ds : List D}, DatL K G vs ds → DatL K G (List.replicate n vs).flatten (List.replicate n ds).flatten
  | 0, _, _, _ => .nil
  | n + 1, _, _, h => by rw [List.replicate_succ, List.replicate_succ, List.flatten_cons, List.flatten_cons]; exact DatL.append h (DatL.flatten n h)
theorem Dat.intV {i : Int} {v : V} (h : Dat K G v (.int i)) : v = .int i := by cases h; rfl
theorem Dat.blV {i : Bool} {v : V} (h : Dat K G v (.bl i)) : v = .bl i := by cases h; rfl
theorem Dat.strV {i : Str} {v : V} (h : Dat K G v (.str i)) : v = .str i := by cases h; rfl
theorem Dat.nonV {v : V} (h : Dat K G v .non) : v = .non := by cases h; rfl
theorem Dat.tupV {ds : List D} {v : V} (h : Dat K G v (.tup ds)) : ∃ a xs, v = .ref a ∧ SqT K G a xs ∧ DatL K G xs ds := by
  cases h with | tup a b => exact ⟨_, _, rfl, a, b⟩
theorem Dat.lstV {ds : List D} {v : V} (h : Dat K G v (.lst ds)) : ∃ a xs, v = .ref a ∧ G a = some (.lst xs) ∧ DatL K G xs ds := by
  cases h with | lst a b => exact ⟨_, _, rfl, a, b⟩

/-- the heap grows, the view with it; what stands outside the view stays outside -/
structure Stp (G H G' H' : Hp) : Prop where
  gg : Ex G G'
  hh : Ex H H'
  gh : Ex G' H'
  ow : ∀ a, G a = none → H a ≠ none → G' a = none
theorem Stp.refl (h : Ex G H) : Stp G H G H := ⟨.refl _, .refl _, h, fun _ h _ => h⟩
theorem Stp.trans {G1 H1 G2 H2 : Hp} (a : Stp G H G1 H1) (b : Stp G1 H1 G2 H2) : Stp G H G2 H2 :=
  ⟨a.gg.trans b.gg, a.hh.trans b.hh, b.gh, fun x h1 h2 => b.ow x (a.ow x h1 h2) (fun e => by
    cases q : H x with
    | none => exact h2 q
    | some o => rw [a.hh x o q] at e; cases e)⟩
theorem Stp.new {p : Addr} {o : HO} (h : Ex G H) (n : H p = none) : Stp G H (upd G p o) (upd H p o) :=
  ⟨Ex.new (h.back n), Ex.new n, fun a u e => by
    by_cases ha : a = p
    · subst ha; rw [upd_same] at e ⊢; exact e
    · rw [upd_ne ha] at e ⊢; exact h a u e, fun a h1 h2 => by
    have : a ≠ p := fun e => h2 (e ▸ n)
    rw [upd_ne this]; exact h1⟩
end

/-! ### slots -/
/-- what is known of a slot: nothing; a value that is data; a list of one's own that may still change -/
inductive Sl where
  | un
  | val (v : V) (d : D)
  | own (a : Addr) (ds : List D)
abbrev Env' := List Sl
/-- the view and the heap at the entry; the address of the box that the caller lends -/
structure Bas where
  G : Hp
  H : Hp
  bx : Option Addr
section
variable (K : PySem.W.Frag) (β : Bas) (G H : Hp)
def SlOk (o : Option V) : Sl → Prop
  | .un => True
  | .val v d => o = some v ∧ Dat K G v d
  | .own a ds => o = some (.ref a) ∧ (β.H a = none ∨ β.bx = some a) ∧ G a = none ∧ ∃ xs, H a = some (.lst xs) ∧ DatL K G xs ds
inductive SlsOk : Sg → Env' → Prop
  | nil : SlsOk [] []
  | cons {o : Option V} {s : Sl} {σ : Sg} {env : Env'} : SlOk K β G H o s → SlsOk σ env → SlsOk (o :: σ) (s :: env)
end
def ownA : Sl → Option Addr
  | .own a _ => some a
  | _ => none

structure Good (K : PySem.W.Frag) (β : Bas) (σ : Sg) (env : Env') (G H : Hp) : Prop where
  gg : Ex β.G G
  hh : ∀ a o, β.bx ≠ some a → β.H a = some o → H a = some o
  gh : Ex G H
  ow : ∀ a, β.G a = none → β.H a ≠ none → G a = none
  bh : ∀ a, β.bx = some a → H a ≠ none
  sl : SlsOk K β G H σ env
  nd : (env.filterMap ownA).Nodup
section
variable {K : PySem.W.Frag} {β : Bas} {G H G' H' : Hp} {σ : Sg} {env : Env'}
theorem SlOk.up {o : Option V} {s : Sl} (t : Stp G H G' H') (h : SlOk K β G H o s) : SlOk K β G' H' o s := by
  cases s with
  | un => trivial
  | val v d => exact ⟨h.1, h.2.up t.gg⟩
  | own a ds =>
    obtain ⟨h1, h2, h3, xs, h4, h5⟩ := h
    exact ⟨h1, h2, t.ow a h3 (by rw [h4]; exact (fun e => nomatch e)), xs, t.hh _ _ h4, h5.up t.gg⟩
theorem SlsOk.up (t : Stp G H G' H') : ∀ {σ : Sg} {env : Env'}, SlsOk K β G H σ env → SlsOk K β G' H' σ env
  | _, _, .nil => .nil
  | _, _, .cons a r => .cons (a.up t) (SlsOk.up t r)
theorem Good.hn (g : Good K β σ env G H) {a : Addr} (h : β.H a ≠ none) : H a ≠ none := by
  by_cases hx : β.bx = some a
  · exact g.bh a hx
  · cases q : β.H a with
    | none => exact absurd q h
    | some o => rw [g.hh a o hx q]; exact (fun e => nomatch e)
theorem Good.up (g : Good K β σ env G H) (t : Stp G H G' H') : Good K β σ env G' H' :=
  ⟨g.gg.trans t.gg, fun a o h1 h2 => t.hh _ _ (g.hh a o h1 h2), t.gh, fun a h1 h2 => t.ow a (g.ow a h1 h2) (g.hn h2), fun a h => by
    cases q : H a with
    | none => exact absurd q (g.bh a h)
    | some o => rw [t.hh a o q]; exact (fun e => nomatch e), g.sl.up t, g.nd⟩
theorem SlsOk.get : ∀ {σ : Sg} {env : Env'} {i : Nat} {s : Sl}, SlsOk K β G H σ env → env[i]? = some s → ∃ o, σ[i]? = some o ∧ SlOk K β G H o s
  | _, _, _, _, .nil, e => by simp at e
  | _, _, 0, _, .cons a _, e => by simp at e; subst e; exact ⟨_, rfl, a⟩
  | _, _, i + 1, _, .cons _ r, e => by
    obtain ⟨o, h1, h2⟩ := SlsOk.get (i := i) r (by simpa using e)
    exact ⟨o, by simpa using h1, h2⟩
theorem SlsOk.set {o : Option V} {s : Sl} (h : SlOk K β G H o s) : ∀ {σ : Sg} {env : Env'} (i : Nat), SlsOk K β G H σ env → SlsOk K β G H (σ.set i o) (env.set i s)
  | _, _, _, .nil => .nil
  | _, _, 0, .cons _ r => .cons h r
  | _, _, i + 1, .cons a r => .cons a (SlsOk.set h i r)
theorem nd_set {s : Sl} (hs : ownA s = none) : ∀ {env : Env'} (i : Nat), (env.filterMap ownA).Nodup → ((env.set i s).filterMap ownA).Nodup ∧ ((env.set i s).filterMap ownA).Sublist (env.filterMap ownA)
  | [], _, h => ⟨h, .refl _⟩
  | t :: env, 0, h => by
    rw [List.set_cons_zero, List.filterMap_cons, hs]
    rw [List.filterMap_cons] at h
    cases q : ownA t with
    | none => rw [q] at h; exact ⟨h, by rw [List.filterMap_cons, q]; exact .refl _⟩
    | some a => rw [q] at h; exact ⟨(List.nodup_cons.mp h).2, by rw [List.filterMap_cons, q]; exact List.sublist_cons_self _ _⟩
  | t :: env, i + 1, h => by
    rw [List.set_cons_succ, List.filterMap_cons]
    rw [List.filterMap_cons] at h
    cases q : ownA t with
    | none =>
      rw [q] at h
      have r := nd_set hs (env := env) i h
      exact ⟨r.1, by rw [List.filterMap_cons, q]; exact r.2⟩
    | some a =>
      rw [q] at h
      have r := nd_set hs (env := env) i (List.nodup_cons.mp h).2
      refine ⟨List.nodup_cons.mpr ⟨fun m => (List.nodup_cons.mp h).1 (r.2.subset m), r.1⟩, ?_⟩
      rw [List.filterMap_cons, q]
      exact r.2.cons_cons _
theorem nd_own {a : Addr} {ds ds' : List D} : ∀ {env : Env'} {i : Nat}, env[i]? = some (.own a ds) → (env.set i (.own a ds')).filterMap ownA = env.filterMap ownA
  | [], _, e => by simp at e
  | t :: env, 0, e => by simp at e; subst e; rfl
  | t :: env, i + 1, e => by
    rw [List.set_cons_succ, List.filterMap_cons, List.filterMap_cons, nd_own (env := env) (i := i) (by simpa using e)]
/-- a slot gets a value -/
theorem Good.set (g : Good K β σ env G H) (i : Nat) {v : V} {d : D} (h : Dat K G v d) : Good K β (σ.set i (some v)) (env.set i (.val v d)) G H :=
  ⟨g.gg, g.hh, g.gh, g.ow, g.bh, g.sl.set (s := .val v d) ⟨rfl, h⟩ i, (nd_set rfl i g.nd).1⟩
/-- a slot is forgotten -/
theorem Good.drop (g : Good K β σ env G H) (i : Nat) (o : Option V) : Good K β (σ.set i o) (env.set i .un) G H :=
  ⟨g.gg, g.hh, g.gh, g.ow, g.bh, g.sl.set (o := o) (s := .un) trivial i, (nd_set rfl i g.nd).1⟩
theorem SlsOk.forget : ∀ {σ : Sg} {env : Env'} (i : Nat), SlsOk K β G H σ env → SlsOk K β G H σ (env.set i .un)
  | _, _, _, .nil => .nil
  | _, _, 0, .cons _ r => .cons trivial r
  | _, _, i + 1, .cons a r => .cons a (SlsOk.forget i r)
theorem Good.forget (g : Good K β σ env G H) (i : Nat) : Good K β σ (env.set i .un) G H :=
  ⟨g.gg, g.hh, g.gh, g.ow, g.bh, g.sl.forget i, (nd_set rfl i g.nd).1⟩
def wipeE (env : Env') : List Nat → Env'
  | [] => env
  | v :: vs => (wipeE env vs).set v .un
theorem Good.wipe (g : Good K β σ env G H) : ∀ vs, Good K β (L2.wipe σ vs) (wipeE env vs) G H
  | [] => g
  | v :: vs => (Good.wipe g vs).drop v none
theorem SlsOk.wr {a : Addr} {ho : HO} : ∀ {σ : Sg} {env : Env'}, SlsOk K β G H σ env → a ∉ env.filterMap ownA → SlsOk K β G (upd H a ho) σ env
  | _, _, .nil, _ => .nil
  | _, s :: env, .cons x r, h => by
    rw [List.filterMap_cons] at h
    cases s with
    | un => exact .cons trivial (SlsOk.wr r h)
    | val v d => exact .cons x (SlsOk.wr r h)
    | own b ds =>
      have h' : a ∉ b :: env.filterMap ownA := h
      obtain ⟨h1, h2, h3, xs, h4, h5⟩ := x
      exact .cons ⟨h1, h2, h3, xs, by rw [upd_ne (fun e => h' (by rw [← e]; exact List.mem_cons_self))]; exact h4, h5⟩ (SlsOk.wr r fun m => h' (List.mem_cons_of_mem _ m))
theorem SlsOk.wrOwn {a : Addr} {ds ds' : List D} {xs : List V} (hx : DatL K G xs ds') : ∀ {σ : Sg} {env : Env'} {i : Nat}, SlsOk K β G H σ env → env[i]? = some (.own a ds) → (env.filterMap ownA).Nodup →
    SlsOk K β G (upd H a (.lst xs)) σ (env.set i (.own a ds'))
  | _, _, _, .nil, e, _ => by simp at e
  | _, s :: env, 0, .cons x r, e, nd => by
    simp at e; subst e
    obtain ⟨h1, h2, h3, ys, h4, h5⟩ := x
    exact .cons ⟨h1, h2, h3, xs, upd_same, hx⟩ (SlsOk.wr r (List.nodup_cons.mp (show (a :: env.filterMap ownA).Nodup from nd)).1)
  | _, s :: env, i + 1, .cons x r, e, nd => by
    have e' : env[i]? = some (.own a ds) := by simpa using e
    have hm : a ∈ env.filterMap ownA := List.mem_filterMap.mpr ⟨_, List.mem_of_getElem? e', rfl⟩
    rw [List.filterMap_cons] at nd
    cases s with
    | un => exact .cons trivial (SlsOk.wrOwn hx r e' nd)
    | val v d => exact .cons x (SlsOk.wrOwn hx r e' nd)
    | own b cs =>
      have nd' : (b :: env.filterMap ownA).Nodup := nd
      have hb : b ≠ a := fun z => (List.nodup_cons.mp nd').1 (z ▸ hm)
      obtain ⟨h1, h2, h3, ys, h4, h5⟩ := x
      exact .cons ⟨h1, h2, h3, ys, by rw [upd_ne hb]; exact h4, h5⟩ (SlsOk.wrOwn hx r e' (List.nodup_cons.mp nd').2)
theorem Good.own (g : Good K β σ env G H) {i : Nat} {a : Addr} {ds : List D} (e : env[i]? = some (.own a ds)) :
    σ[i]? = some (some (V.ref a)) ∧ (β.H a = none ∨ β.bx = some a) ∧ G a = none ∧ ∃ xs, H a = some (.lst xs) ∧ DatL K G xs ds := by
  obtain ⟨o, h1, h2, h3, h4, h5⟩ := g.sl.get e
  exact ⟨by rw [h1, h2], h3, h4, h5⟩
/-- one's own list is written -/
theorem Good.write (g : Good K β σ env G H) {i : Nat} {a : Addr} {ds ds' : List D} {xs : List V} (e : env[i]? = some (.own a ds)) (hx : DatL K G xs ds') : Good K β σ (env.set i (.own a ds')) G (upd H a (.lst xs)) := by
  obtain ⟨h1, h2, h3, ys, h4, h5⟩ := g.own e
  refine ⟨g.gg, fun b o hb ho => ?_, fun b o ho => ?_, g.ow, fun b hb => ?_, g.sl.wrOwn hx e g.nd, by rw [nd_own e]; exact g.nd⟩
  · have : b ≠ a := fun z => by
      subst z
      rcases h2 with z | z
      · rw [z] at ho; cases ho
      · exact hb z
    rw [upd_ne this]; exact g.hh b o hb ho
  · have : b ≠ a := fun z => by subst z; rw [h3] at ho; cases ho
    rw [upd_ne this]; exact g.gh b o ho
  · by_cases z : b = a
    · subst z; rw [upd_same]; exact (fun e => nomatch e)
    · rw [upd_ne z]; exact g.bh b hb
theorem nd_newOwn {a : Addr} {ds : List D} : ∀ {env : Env'} (_ : a ∉ env.filterMap ownA) (i : Nat), (env.filterMap ownA).Nodup → ((env.set i (.own a ds)).filterMap ownA).Nodup ∧ ∀ b ∈ (env.set i (.own a ds)).filterMap ownA, b = a ∨ b ∈ env.filterMap ownA
  | [], _, _, h => ⟨h, fun b hb => .inr hb⟩
  | t :: env, na, 0, h => by
    have h2 : (env.filterMap ownA).Nodup ∧ ∀ b ∈ env.filterMap ownA, b ∈ (t :: env).filterMap ownA := by
      rw [List.filterMap_cons] at h ⊢
      cases q : ownA t with
      | none => rw [q] at h; exact ⟨h, fun b hb => hb⟩
      | some c => rw [q] at h; exact ⟨(List.nodup_cons.mp h).2, fun b hb => List.mem_cons_of_mem _ hb⟩
    refine ⟨List.nodup_cons.mpr ⟨fun m => na (h2.2 _ m), h2.1⟩, fun b hb => ?_⟩
    rcases List.mem_cons.mp (show b ∈ a :: env.filterMap ownA from hb) with z | z
    · exact .inl z
    · exact .inr (h2.2 _ z)
  | t :: env, na, i + 1, h => by
    rw [List.set_cons_succ]
    rw [List.filterMap_cons] at h na ⊢
    rw [List.filterMap_cons]
    cases q : ownA t with
    | none =>
      rw [q] at h na
      exact nd_newOwn na i h
    | some c =>
      rw [q] at h na
      have na' : a ≠ c ∧ a ∉ env.filterMap ownA := by
        constructor
        · intro z; exact na (by rw [z]; exact List.mem_cons_self)
        · intro z; exact na (List.mem_cons_of_mem _ z)
      have r := nd_newOwn (ds := ds) na'.2 i (List.nodup_cons.mp h).2
      refine ⟨List.nodup_cons.mpr ⟨fun m => ?_, r.1⟩, fun b hb => ?_⟩
      · rcases r.2 _ m with z | z
        · exact na'.1 z.symm
        · exact (List.nodup_cons.mp h).1 z
      · rcases List.mem_cons.mp hb with z | z
        · exact .inr (by rw [z]; exact List.mem_cons_self)
        · rcases r.2 _ z with z | z
          · exact .inl z
          · exact .inr (List.mem_cons_of_mem _ z)
/-- a new list that is one's own -/
theorem Good.newOwn (g : Good K β σ env G H) {a : Addr} {ds : List D} {xs : List V} (i : Nat) (hn : H a = none) (hx : DatL K G xs ds) : Good K β (σ.set i (some (V.ref a))) (env.set i (.own a ds)) G (upd H a (.lst xs)) := by
  have hb : β.H a = none := by
    cases q : β.H a with
    | none => rfl
    | some o => exact absurd hn (g.hn (by rw [q]; exact (fun e => nomatch e)))
  have hG : G a = none := g.gh.back hn
  have hna : a ∉ env.filterMap ownA := fun m => by
    obtain ⟨s, hs, e⟩ := List.mem_filterMap.mp m
    obtain ⟨j, hj⟩ := List.mem_iff_getElem?.mp hs
    cases s with
    | un => cases e
    | val v d => cases e
    | own b ds' =>
      obtain rfl : b = a := Option.some.inj e
      obtain ⟨_, _, _, ys, h4, _⟩ := g.own hj
      rw [h4] at hn; cases hn
  refine ⟨g.gg, fun b o hb' ho => ?_, fun b o ho => ?_, g.ow, fun b hb' => ?_, ?_, ?_⟩
  · rw [upd_ne (fun z => by subst z; rw [hb] at ho; cases ho)]; exact g.hh b o hb' ho
  · rw [upd_ne (fun z => by subst z; rw [hG] at ho; cases ho)]; exact g.gh b o ho
  · by_cases z : b = a
    · subst z; rw [upd_same]; exact (fun e => nomatch e)
    · rw [upd_ne z]; exact g.bh b hb'
  · exact (g.sl.wr hna).set (s := .own a ds) ⟨rfl, .inl hb, hG, xs, upd_same, hx⟩ i
  · exact (nd_newOwn hna i g.nd).1
end
end DL

set_option Elab.async false
set_option linter.all false
set_option maxRecDepth 100000
set_option maxHeartbeats 2000000
namespace DL
open PySem PySem.Spec PyProof.Rows L2

/-! ### readings that give data -/
section
variable (K : PySem.W.Frag) (β : Bas)
def EV (te : TE) (env : Env') (d : D) : Prop := ∀ σ G H, Good K β σ env G H → ∀ Q : VK, (∀ v G' H', Stp G H G' H' → Dat K G' v d → Q v H') → te σ H Q
def EVv (te : TE) (env : Env') (v : V) (d : D) : Prop := ∀ σ G H, Good K β σ env G H → ∀ Q : VK, (∀ G' H', Stp G H G' H' → Dat K G' v d → Q v H') → te σ H Q
def EVT (tt : TT) (env : Env') (b : Bool) : Prop := ∀ σ G H, Good K β σ env G H → ∀ Q : Bool → Hp → Prop, (∀ G' H', Stp G H G' H' → Q b H') → tt σ H Q
def EVA (ta : TA) (env : Env') (ds : List D) : Prop := ∀ σ G H, Good K β σ env G H → ∀ Q : List V → Hp → Prop, (∀ vs G' H', Stp G H G' H' → DatL K G' vs ds → Q vs H') → ta σ H Q
def EVAv (ta : TA) (env : Env') (vs : List V) (ds : List D) : Prop := ∀ σ G H, Good K β σ env G H → ∀ Q : List V → Hp → Prop, (∀ G' H', Stp G H G' H' → DatL K G' vs ds → Q vs H') → ta σ H Q
def EVO (to : TO) (env : Env') (o : Option Int) : Prop := ∀ σ G H, Good K β σ env G H → ∀ Q : Option Int → Hp → Prop, (∀ G' H', Stp G H G' H' → Q o H') → to σ H Q
/-- an operation on data -/
def OpD (r : R2) (x y z : D) : Prop := ∀ G H v1 v2, Ex G H → Dat K G v1 x → Dat K G v2 y → ∀ Q : VK, (∀ v G' H', Stp G H G' H' → Dat K G' v z → Q v H') → r v1 v2 H Q
def UnD (r : V → Hp → VK → Prop) (x z : D) : Prop := ∀ G H v1, Ex G H → Dat K G v1 x → ∀ Q : VK, (∀ v G' H', Stp G H G' H' → Dat K G' v z → Q v H') → r v1 H Q
def CbD (r : List V → Hp → VK → Prop) (xs : List D) (z : D) : Prop := ∀ G H vs, Ex G H → DatL K G vs xs → ∀ Q : VK, (∀ v G' H', Stp G H G' H' → Dat K G' v z → Q v H') → r vs H Q
end
section
variable {K : PySem.W.Frag} {β : Bas} {env : Env'} {ta tb te tc : TE} {tt tu : TT} {x y z d : D} {v w : V}
theorem EVv.ev (h : EVv K β te env v d) : EV K β te env d := fun σ G H g Q q => h σ G H g Q fun G' H' => q v G' H'
theorem EVAv.ev {ta : TA} {vs ds} (h : EVAv K β ta env vs ds) : EVA K β ta env ds := fun σ G H g Q q => h σ G H g Q fun G' H' => q vs G' H'
theorem evv_var {i : Nat} (h : env[i]? = some (.val v d)) : EVv K β (tVar i) env v d := fun σ G H g Q q => by
  obtain ⟨o, h1, h2, h3⟩ := g.sl.get h
  exact ⟨v, by rw [h1, h2], q G H (.refl g.gh) h3⟩
theorem ev_var {i : Nat} (h : env[i]? = some (.val v d)) : EV K β (tVar i) env d := (evv_var h).ev
theorem ev_int {i : Int} : EV K β (tC (.int i)) env (.int i) := fun σ G H g Q q => q _ G H (.refl g.gh) (.int i)
theorem ev_str {i : Str} : EV K β (tC (.str i)) env (.str i) := fun σ G H g Q q => q _ G H (.refl g.gh) (.str i)
theorem ev_bl {i : Bool} : EV K β (tC (.bl i)) env (.bl i) := fun σ G H g Q q => q _ G H (.refl g.gh) (.bl i)
theorem ev_non : EV K β (tC .non) env .non := fun σ G H g Q q => q _ G H (.refl g.gh) .non
theorem evv_c {v : V} : EVv K β (tC v) env v (.op v) := fun σ G H g Q q => q G H (.refl g.gh) (.op v)
theorem ev_c {v : V} : EV K β (tC v) env (.op v) := evv_c.ev
theorem ev_op {r : R2} (ha : EV K β ta env x) (hb : EV K β tb env y) (hr : OpD K r x y z) : EV K β (tOp r ta tb) env z := fun σ G H g Q q =>
  ha σ G H g _ fun v1 G1 H1 t1 d1 => hb σ G1 H1 (g.up t1) _ fun v2 G2 H2 t2 d2 => hr G2 H2 v1 v2 t2.gh (d1.up t2.gg) d2 Q fun v G3 H3 t3 d3 => q v G3 H3 ((t1.trans t2).trans t3) d3
theorem ev_un {r : V → Hp → VK → Prop} (ha : EV K β ta env x) (hr : UnD K r x z) : EV K β (tUn r ta) env z := fun σ G H g Q q =>
  ha σ G H g _ fun v1 G1 H1 t1 d1 => hr G1 H1 v1 t1.gh d1 Q fun v G3 H3 t3 d3 => q v G3 H3 (t1.trans t3) d3
theorem ea_nil : EVA K β tNil env [] := fun σ G H g Q q => q _ G H (.refl g.gh) .nil
theorem ea_cons {tr : TA} {ds : List D} (h : EV K β te env d) (hr : EVA K β tr env ds) : EVA K β (tCons te tr) env (d :: ds) := fun σ G H g Q q =>
  h σ G H g _ fun v1 G1 H1 t1 d1 => hr σ G1 H1 (g.up t1) _ fun vs G2 H2 t2 d2 => q _ G2 H2 (t1.trans t2) (.cons (d1.up t2.gg) d2)
theorem eav_nil : EVAv K β tNil env [] [] := fun σ G H g Q q => q G H (.refl g.gh) .nil
theorem eav_cons {tr : TA} {ds : List D} {vs : List V} (h : EVv K β te env v d) (hr : EVAv K β tr env vs ds) : EVAv K β (tCons te tr) env (v :: vs) (d :: ds) := fun σ G H g Q q =>
  h σ G H g _ fun G1 H1 t1 d1 => hr σ G1 H1 (g.up t1) _ fun G2 H2 t2 d2 => q G2 H2 (t1.trans t2) (.cons (d1.up t2.gg) d2)
theorem ev_tup {ta : TA} {ds : List D} (h : EVA K β ta env ds) (hl : ds.length ≤ sizeLine) : EV K β (tTup ta) env (.tup ds) := fun σ G H g Q q =>
  h σ G H g _ fun vs G1 H1 t1 d1 => ⟨by rw [d1.length]; exact hl, fun p hp => q _ (upd G1 p (.tup vs)) _ (t1.trans (.new t1.gh hp)) (.tup (.of upd_same) (d1.up (.new (t1.gh.back hp))))⟩
theorem ev_lst {ta : TA} {ds : List D} (h : EVA K β ta env ds) (hl : ds.length ≤ sizeLine) : EV K β (tLst ta) env (.lst ds) := fun σ G H g Q q =>
  h σ G H g _ fun vs G1 H1 t1 d1 => ⟨by rw [d1.length]; exact hl, fun p hp => q _ (upd G1 p (.lst vs)) _ (t1.trans (.new t1.gh hp)) (.lst upd_same (d1.up (.new (t1.gh.back hp))))⟩
theorem ev_cb {r : List V → Hp → VK → Prop} {ta : TA} {ds : List D} (h : EVA K β ta env ds) (hr : CbD K r ds z) : EV K β (tCB r ta) env z := fun σ G H g Q q =>
  h σ G H g _ fun vs G1 H1 t1 d1 => hr G1 H1 vs t1.gh d1 Q fun v G3 H3 t3 d3 => q v G3 H3 (t1.trans t3) d3
theorem ev_then {k : V → Hp → VK → Prop} (h : EV K β ta env x) (hr : UnD K k x z) : EV K β (tThen ta k) env z := fun σ G H g Q q =>
  h σ G H g _ fun v1 G1 H1 t1 d1 => hr G1 H1 v1 t1.gh d1 Q fun v G3 H3 t3 d3 => q v G3 H3 (t1.trans t3) d3
/-! tests -/
theorem et_test {b : Bool} (h : EV K β te env (.bl b)) : EVT K β (tTest te) env b := fun σ G H g Q q => h σ G H g _ fun v G1 H1 t1 d1 => ⟨b, d1.blV, q G1 H1 t1⟩
theorem et_B {b : Bool} (h : EV K β te env (.bl b)) : EVT K β (tB te) env b := fun σ G H g Q q => h σ G H g _ fun v G1 H1 t1 d1 => ⟨b, d1.blV, q G1 H1 t1⟩
theorem et_and {a b : Bool} (h1 : EVT K β tt env a) (h2 : a = true → EVT K β tu env b) : EVT K β (tAnd tt tu) env (a && b) := fun σ G H g Q q => h1 σ G H g _ fun G1 H1 t1 => by
  cases a with
  | true => show tu σ H1 Q; exact h2 rfl σ G1 H1 (g.up t1) Q fun G2 H2 t2 => q G2 H2 (t1.trans t2)
  | false => show Q false H1; exact q G1 H1 t1
theorem et_or {a b : Bool} (h1 : EVT K β tt env a) (h2 : a = false → EVT K β tu env b) : EVT K β (tOr tt tu) env (a || b) := fun σ G H g Q q => h1 σ G H g _ fun G1 H1 t1 => by
  cases a with
  | true => show Q true H1; exact q G1 H1 t1
  | false => show tu σ H1 Q; exact h2 rfl σ G1 H1 (g.up t1) Q fun G2 H2 t2 => q G2 H2 (t1.trans t2)
theorem et_not {a : Bool} (h1 : EVT K β tt env a) : EVT K β (tNot tt) env (!a) := fun σ G H g Q q => h1 σ G H g _ fun G1 H1 t1 => q G1 H1 t1
theorem et_is {a b : Bool} (h : EVT K β tt env a) (e : a = b) : EVT K β tt env b := e ▸ h
theorem ev_is {w : D} (h : EV K β te env d) (e : d = w) : EV K β te env w := e ▸ h
theorem ev_and {a b : Bool} (h1 : EV K β ta env (.bl a)) (h2 : a = true → EV K β tb env (.bl b)) : EV K β (tAndV ta tb) env (.bl (a && b)) := fun σ G H g Q q => h1 σ G H g _ fun v1 G1 H1 t1 d1 => ⟨a, d1.blV, by
  cases a with
  | true => show tb σ H1 Q; exact h2 rfl σ G1 H1 (g.up t1) Q fun v G2 H2 t2 d2 => q v G2 H2 (t1.trans t2) d2
  | false => show Q (.bl false) H1; exact q _ G1 H1 t1 (.bl false)⟩
theorem ev_or {a b : Bool} (h1 : EV K β ta env (.bl a)) (h2 : a = false → EV K β tb env (.bl b)) : EV K β (tOrV ta tb) env (.bl (a || b)) := fun σ G H g Q q => h1 σ G H g _ fun v1 G1 H1 t1 d1 => ⟨a, d1.blV, by
  cases a with
  | true => show Q (.bl true) H1; exact q _ G1 H1 t1 (.bl true)
  | false => show tb σ H1 Q; exact h2 rfl σ G1 H1 (g.up t1) Q fun v G2 H2 t2 d2 => q v G2 H2 (t1.trans t2) d2⟩
theorem ev_not {a : Bool} (h1 : EV K β ta env (.bl a)) : EV K β (tNotV ta) env (.bl (!a)) := fun σ G H g Q q => h1 σ G H g _ fun v1 G1 H1 t1 d1 => ⟨a, d1.blV, q _ G1 H1 t1 (.bl _)⟩
theorem ev_if {b : Bool} (h : EVT K β tt env b) (h1 : b = true → EV K β ta env d) (h2 : b = false → EV K β tb env d) : EV K β (tIf tt ta tb) env d := fun σ G H g Q q => h σ G H g _ fun G1 H1 t1 => by
  cases b with
  | true => show ta σ H1 Q; exact h1 rfl σ G1 H1 (g.up t1) Q fun v G2 H2 t2 d2 => q v G2 H2 (t1.trans t2) d2
  | false => show tb σ H1 Q; exact h2 rfl σ G1 H1 (g.up t1) Q fun v G2 H2 t2 d2 => q v G2 H2 (t1.trans t2) d2
theorem evv_if {b : Bool} (h : EVT K β tt env b) (h1 : b = true → EVv K β ta env v d) (h2 : b = false → EVv K β tb env v d) : EVv K β (tIf tt ta tb) env v d := fun σ G H g Q q => h σ G H g _ fun G1 H1 t1 => by
  cases b with
  | true => show ta σ H1 Q; exact h1 rfl σ G1 H1 (g.up t1) Q fun G2 H2 t2 d2 => q G2 H2 (t1.trans t2) d2
  | false => show tb σ H1 Q; exact h2 rfl σ G1 H1 (g.up t1) Q fun G2 H2 t2 d2 => q G2 H2 (t1.trans t2) d2
theorem ev_chain {r r' : R2} {b b' : Bool} (ha : EV K β ta env x) (hb : EV K β tb env y) (hr : OpD K r x y (.bl b)) (hc : b = true → EV K β tc env z) (hr' : b = true → OpD K r' y z (.bl b')) : EV K β (tChain r r' ta tb tc) env (.bl (b && b')) := fun σ G H g Q q =>
  ha σ G H g _ fun v1 G1 H1 t1 d1 => hb σ G1 H1 (g.up t1) _ fun v2 G2 H2 t2 d2 => hr G2 H2 v1 v2 t2.gh (d1.up t2.gg) d2 _ fun v G3 H3 t3 d3 => ⟨b, d3.blV, by
    cases b with
    | true =>
      rw [if_pos rfl]
      exact hc rfl σ G3 H3 (((g.up t1).up t2).up t3) _ fun v4 G4 H4 t4 d4 => hr' rfl G4 H4 v2 v4 t4.gh (d2.up (t3.gg.trans t4.gg)) d4 Q fun v5 G5 H5 t5 d5 => q v5 G5 H5 ((((t1.trans t2).trans t3).trans t4).trans t5) d5
    | false => rw [if_neg Bool.false_ne_true]; exact q _ G3 H3 ((t1.trans t2).trans t3) (.bl false)⟩

/-! ### operations -/
theorem Dat.sq {G : Hp} {v : V} (h : Dat K G v d) : Dat K G v d := h
theorem op_I0 {g : Int → Int → V} {g' : Int → Int → D} (hg : ∀ i j G, Dat K G (g i j) (g' i j)) {i j : Int} : OpD K (rI0 g) (.int i) (.int j) (g' i j) := fun G H v1 v2 e d1 d2 Q q =>
  ⟨i, j, d1.intV, d2.intV, q _ G H (.refl e) (hg i j G)⟩
theorem op_addI {i j : Int} : OpD K (rI0 fun i j => .int (i + j)) (.int i) (.int j) (.int (i + j)) := op_I0 (g' := fun i j => .int (i + j)) fun _ _ _ => .int _
theorem op_subI {i j : Int} : OpD K (rI0 fun i j => .int (i - j)) (.int i) (.int j) (.int (i - j)) := op_I0 (g' := fun i j => .int (i - j)) fun _ _ _ => .int _
theorem op_ltI {i j : Int} : OpD K (rI0 fun i j => .bl (decide (i < j))) (.int i) (.int j) (.bl (decide (i < j))) := op_I0 (g' := fun i j => .bl (decide (i < j))) fun _ _ _ => .bl _
theorem op_leI {i j : Int} : OpD K (rI0 fun i j => .bl (decide (i ≤ j))) (.int i) (.int j) (.bl (decide (i ≤ j))) := op_I0 (g' := fun i j => .bl (decide (i ≤ j))) fun _ _ _ => .bl _
theorem op_gtI {i j : Int} : OpD K (rI0 fun i j => .bl (decide (j < i))) (.int i) (.int j) (.bl (decide (j < i))) := op_I0 (g' := fun i j => .bl (decide (j < i))) fun _ _ _ => .bl _
theorem op_geI {i j : Int} : OpD K (rI0 fun i j => .bl (decide (j ≤ i))) (.int i) (.int j) (.bl (decide (j ≤ i))) := op_I0 (g' := fun i j => .bl (decide (j ≤ i))) fun _ _ _ => .bl _
theorem op_IC {C : Int → Int → Prop} {g : Int → Int → V} {g' : Int → Int → D} (hg : ∀ i j G, Dat K G (g i j) (g' i j)) {i j : Int} (hc : C i j) : OpD K (rI C g) (.int i) (.int j) (g' i j) := fun G H v1 v2 e d1 d2 Q q =>
  ⟨i, j, d1.intV, d2.intV, hc, q _ G H (.refl e) (hg i j G)⟩
theorem op_mulI {i j : Int} (h : (-(2 ^ 64) < i ∧ i < 2 ^ 64) ∨ (-(2 ^ 64) < j ∧ j < 2 ^ 64)) : OpD K (rI CMul fun i j => .int (i * j)) (.int i) (.int j) (.int (i * j)) := op_IC (g' := fun i j => .int (i * j)) (fun _ _ _ => .int _) h
theorem op_fdivI {i j : Int} (h : 0 < j ∧ j < 1073741824) : OpD K (rI CDiv fun i j => .int (i / j)) (.int i) (.int j) (.int (i / j)) := op_IC (g' := fun i j => .int (i / j)) (fun _ _ _ => .int _) h
theorem op_modI {i j : Int} (h : 0 < j) : OpD K (rI (fun _ j => 0 < j) fun i j => .int (i % j)) (.int i) (.int j) (.int (i % j)) := op_IC (g' := fun i j => .int (i % j)) (fun _ _ _ => .int _) h
/-- scalars: == -/
def scalD : D → Option V
  | .non => some .non | .bl b => some (.bl b) | .int i => some (.int i) | .str x => some (.str x) | _ => none
theorem Dat.scal {G : Hp} {u : V} (h : Dat K G v d) (e : scalD d = some u) : v = u := by
  cases h <;> first | exact Option.some.inj e | cases e
theorem op_eqS {u1 u2 : V} (h1 : scalD x = some u1) (h2 : scalD y = some u2) (h : L2.scal u1 u2 = true) : OpD K rEq x y (.bl (decide (u1 = u2))) := fun G H v1 v2 e d1 d2 Q q => by
  rw [d1.scal h1, d2.scal h2]
  exact ⟨h, q _ G H (.refl e) (.bl _)⟩
theorem op_neS {u1 u2 : V} (h1 : scalD x = some u1) (h2 : scalD y = some u2) (h : L2.scal u1 u2 = true) : OpD K rNe x y (.bl (!decide (u1 = u2))) := fun G H v1 v2 e d1 d2 Q q => by
  rw [d1.scal h1, d2.scal h2]
  exact ⟨h, q _ G H (.refl e) (.bl _)⟩
theorem op_eqI {i j : Int} : OpD K rEq (.int i) (.int j) (.bl (decide (i = j))) := fun G H v1 v2 e d1 d2 Q q => by
  rw [d1.intV, d2.intV]
  refine ⟨rfl, ?_⟩
  rw [show (decide (V.int i = V.int j)) = decide (i = j) by simp]
  exact q _ G H (.refl e) (.bl _)
theorem op_neI {i j : Int} : OpD K rNe (.int i) (.int j) (.bl (!decide (i = j))) := fun G H v1 v2 e d1 d2 Q q => by
  rw [d1.intV, d2.intV]
  refine ⟨rfl, ?_⟩
  rw [show (decide (V.int i = V.int j)) = decide (i = j) by simp]
  exact q _ G H (.refl e) (.bl _)
theorem op_eqB {i j : Bool} : OpD K rEq (.bl i) (.bl j) (.bl (i == j)) := fun G H v1 v2 e d1 d2 Q q => by
  rw [d1.blV, d2.blV]
  refine ⟨rfl, ?_⟩
  rw [show (decide (V.bl i = V.bl j)) = (i == j) by cases i <;> cases j <;> rfl]
  exact q _ G H (.refl e) (.bl _)
theorem op_neB {i j : Bool} : OpD K rNe (.bl i) (.bl j) (.bl (i != j)) := fun G H v1 v2 e d1 d2 Q q => by
  rw [d1.blV, d2.blV]
  refine ⟨rfl, ?_⟩
  rw [show (!decide (V.bl i = V.bl j)) = (i != j) by cases i <;> cases j <;> rfl]
  exact q _ G H (.refl e) (.bl _)
theorem op_eqStr {i j : Str} : OpD K rEq (.str i) (.str j) (.bl (decide (i = j))) := fun G H v1 v2 e d1 d2 Q q => by
  rw [d1.strV, d2.strV]
  refine ⟨rfl, ?_⟩
  rw [show (decide (V.str i = V.str j)) = decide (i = j) by simp]
  exact q _ G H (.refl e) (.bl _)
theorem op_neStr {i j : Str} : OpD K rNe (.str i) (.str j) (.bl (!decide (i = j))) := fun G H v1 v2 e d1 d2 Q q => by
  rw [d1.strV, d2.strV]
  refine ⟨rfl, ?_⟩
  rw [show (decide (V.str i = V.str j)) = decide (i = j) by simp]
  exact q _ G H (.refl e) (.bl _)
theorem op_isBD {i j : Bool} : OpD K rIsB (.bl i) (.bl j) (.bl (decide (i = j))) := fun G H v1 v2 e d1 d2 Q q => ⟨i, j, d1.blV, d2.blV, q _ G H (.refl e) (.bl _)⟩
/-- a[i] of a tuple, a list -/
theorem atI_of {xs : List V} {ds : List D} {G : Hp} (h : DatL K G xs ds) {i : Int} (e : atI ds i = some d) : ∃ u, atI xs i = some u ∧ Dat K G u d := by
  unfold atI at e ⊢
  rw [h.length]
  cases q : ixN ds.length i with
  | none => rw [q] at e; cases e
  | some j =>
    rw [q] at e
    exact h.get e
theorem op_ixT {ds : List D} {i : Int} (e : atI ds i = some d) : OpD K (rIxT K) (.tup ds) (.int i) d := fun G H v1 v2 e0 d1 d2 Q q => by
  obtain ⟨a, xs, rfl, ht, hl⟩ := d1.tupV
  obtain ⟨u, hu, du⟩ := atI_of hl e
  exact ⟨a, xs, i, u, rfl, d2.intV, ex_t e0 ht, hu, q u G H (.refl e0) du⟩
theorem op_ixL {ds : List D} {i : Int} (e : atI ds i = some d) : OpD K (rIxL K) (.lst ds) (.int i) d := fun G H v1 v2 e0 d1 d2 Q q => by
  obtain ⟨a, xs, rfl, ht, hl⟩ := d1.lstV
  obtain ⟨u, hu, du⟩ := atI_of hl e
  exact ⟨a, xs, i, u, rfl, d2.intV, ex_l e0 (.of ht), hu, q u G H (.refl e0) du⟩
theorem ixN_nat {n j : Nat} (hj : j < n) : ixN n (j : Int) = some j := by
  unfold ixN
  rw [if_pos (by omega), if_pos (by omega)]
  simp
theorem atI_natD {α : Type} {xs : List α} {j : Nat} {a : α} (h : xs[j]? = some a) : atI xs (j : Int) = some a := by
  unfold atI
  rw [ixN_nat (by obtain ⟨h, _⟩ := List.getElem?_eq_some_iff.mp h; exact h)]
  exact h
theorem atI_int {α : Type} {xs : List α} {i : Int} {a : α} (h0 : 0 ≤ i) (h : xs[i.toNat]? = some a) : atI xs i = some a := by
  have e : ((i.toNat : Nat) : Int) = i := Int.toNat_of_nonneg h0
  rw [← e]
  exact atI_natD h
/-- any of the two -/
theorem op_ix {ds : List D} {i : Int} (h : x = .tup ds ∨ x = .lst ds) (e : atI ds i = some d) : OpD K (rIx K) x (.int i) d := fun G H v1 v2 e0 d1 d2 Q q => by
  rcases h with rfl | rfl
  · exact Or.inr (Or.inl (op_ixT e G H v1 v2 e0 d1 d2 Q q))
  · exact Or.inl (op_ixL e G H v1 v2 e0 d1 d2 Q q)
/-- xs + ys of lists, of tuples -/
theorem op_catTD {ds es : List D} (hl : ds.length + es.length ≤ sizeLine) (h1 : ds ≠ []) (h2 : es ≠ []) : OpD K (rCatT K) (.tup ds) (.tup es) (.tup (ds ++ es)) := fun G H v1 v2 e0 d1 d2 Q q => by
  obtain ⟨a, xs, rfl, ht, hd⟩ := d1.tupV
  obtain ⟨b, ys, rfl, ht', hd'⟩ := d2.tupV
  refine ⟨a, b, xs, ys, rfl, rfl, ex_t e0 ht, ex_t e0 ht', fun z => h1 (List.eq_nil_of_length_eq_zero (by rw [← hd.length, z]; rfl)), by rw [hd.length, hd'.length]; exact hl, ?_⟩
  refine ⟨fun z => absurd (List.eq_nil_of_length_eq_zero (by rw [← hd'.length, z]; rfl)) h2, fun _ p hp => ?_⟩
  exact q _ (upd G p (.tup (xs ++ ys))) _ (.new e0 hp) (.tup (.of upd_same) ((hd.append hd').up (.new (e0.back hp))))
end
end DL

set_option Elab.async false
set_option linter.all false
set_option maxRecDepth 100000
set_option maxHeartbeats 2000000
namespace DL
open PySem PySem.Spec PyProof.Rows L2

/-! ### t * k of tuples, k from 1 on -/
theorem tuple_mul1 (l : Addr) (items : Array Value) (n : Nat) (dd : Option Addr) (sl : Array (Option Value)) (u : Tok) :
    Meets (Builtin.«tuple.__mul__» ⟨[.ref l, .int 1 u], []⟩) (fun _ R s => s.heap.get? l = some { cls := .type "tuple", dict := dd, data := .seq items n, slots := sl } ∧ R (.ok (.ret (Value.ref l))) s) :=
  .of_wp fun prog w A R s h => by
    obtain ⟨hp, g, d, tk, os⟩ := s
    obtain ⟨hl, h⟩ := h
    have f1 := AutoSeq1.idx_int
    wp_walk using wpAny_loadPart' hl
    repeat (first
      | (refine wpAny_ite_false (decide_eq_false (by decide)) ?_; wp_walk using wpAny_loadPart' hl)
      | (refine wpAny_ite_true (decide_eq_true (by simp)) ?_; wp_walk using wpAny_loadPart' hl))
    exact ⟨_, rfl, h⟩
def rRepT2 (K : PySem.W.Frag) : R2 := fun x y H Q => ∃ l k xs, x = .ref l ∧ y = .int k ∧ SqT K H l xs ∧ xs ≠ [] ∧ xs.length ≤ 1000 ∧ k ≤ 1000 ∧ ((k = 1 ∧ Q (.ref l) H) ∨ (2 ≤ k ∧ ∀ p, H p = none → Q (.ref p) (upd H p (.tup (List.replicate k.toNat xs).flatten))))
theorem op_repT2 {X : Cx} : OpR X (binaryOp .Mult) (rRepT2 X.K) := by
  intro pins s σ H x y v u Q I rx ry h
  obtain ⟨l, k, xs, rfl, rfl, hT, hne, hz, hk, h | ⟨h2, q⟩⟩ := h
  · obtain ⟨rfl, q⟩ := h
    cases rx
    obtain ⟨t, rfl⟩ := ry
    obtain ⟨its, r, ⟨⟨cls, dd, data, sl⟩, ho, hc, n, hd⟩, hs⟩ := I.tuple hT
    simp only at hc hd
    subst hc hd
    exact wpAny_binaryOp_repeat_ref (T := "tuple") (U := "int") (by decide) ⟨_, ho, rfl⟩ (fun s' => typeIs_int s' 1 t) noFill_tuple_mul F.fills_int_mul F.slot_int_rmul repeat_tuple F.slot_int_index.lookup
      (call_meets F.slot_int_rmul (typeIs_int s 1 t) F.entry_int_rmul (F.args_int_rmul_2 _ _) (int_rmul_tuple 1 t l its.toArray n dd sl)
        ⟨ho, rfl, ⟨_, ho, rfl⟩, call_meets F.slot_tuple_mul ⟨_, ho, rfl⟩ F.entry_tuple_mul (F.args_tuple_mul_2 _ _) (tuple_mul1 l its.toArray n dd sl t) ⟨ho, ⟨.ref l, H, I, rfl, q⟩⟩⟩)
  · exact op_repT pins s σ H _ _ v u Q I rx ry ⟨l, k, xs, rfl, rfl, hT, hne, h2, hk, hz, q⟩
section
variable {K : PySem.W.Frag} {β : Bas} {env : Env'} {ta tb te tc : TE} {tt tu : TT} {x y z d : D} {v w : V}
theorem op_repT2K {X : Cx} {K : PySem.W.Frag} (h : X.K = K := by rfl) : OpR X (binaryOp .Mult) (rRepT2 K) := h ▸ op_repT2
theorem op_repTD {ds : List D} {k : Int} (h1 : 1 ≤ k) (h2 : k ≤ 1000) (hn : ds ≠ []) (hl : ds.length ≤ 1000) : OpD K (rRepT2 K) (.tup ds) (.int k) (.tup (List.replicate k.toNat ds).flatten) := fun G H v1 v2 e0 d1 d2 Q q => by
  obtain ⟨a, xs, rfl, ht, hd⟩ := d1.tupV
  refine ⟨a, k, xs, rfl, d2.intV, ex_t e0 ht, fun z => hn (List.eq_nil_of_length_eq_zero (by rw [← hd.length, z]; rfl)), by rw [hd.length]; exact hl, h2, ?_⟩
  by_cases hk : k = 1
  · subst hk
    refine .inl ⟨rfl, q _ G H (.refl e0) ?_⟩
    rw [show (List.replicate (1 : Int).toNat ds).flatten = ds by simp]
    exact .tup ht hd
  · refine .inr ⟨by omega, fun p hp => q _ (upd G p _) _ (.new e0 hp) (.tup (.of upd_same) ((DatL.flatten _ hd).up (.new (e0.back hp))))⟩
theorem op_catLD {ds es : List D} (hl : ds.length + es.length ≤ sizeLine) : OpD K rCat (.lst ds) (.lst es) (.lst (ds ++ es)) := fun G H v1 v2 e0 d1 d2 Q q => by
  obtain ⟨a, xs, rfl, ht, hd⟩ := d1.lstV
  obtain ⟨b, ys, rfl, ht', hd'⟩ := d2.lstV
  exact ⟨a, b, xs, ys, rfl, rfl, e0 _ _ ht, e0 _ _ ht', by rw [hd.length, hd'.length]; exact hl, fun p hp => q _ (upd G p (.lst (xs ++ ys))) _ (.new e0 hp) (.lst upd_same ((hd.append hd').up (.new (e0.back hp))))⟩
theorem op_repLD {ds : List D} {k : Int} (h1 : -(2 ^ 63) ≤ k) (h2 : k < 2 ^ 63) (hl : ds.length * k.toNat ≤ sizeLine) : OpD K rRep (.lst ds) (.int k) (.lst (List.replicate k.toNat ds).flatten) := fun G H v1 v2 e0 d1 d2 Q q => by
  obtain ⟨a, xs, rfl, ht, hd⟩ := d1.lstV
  exact ⟨a, k, xs, rfl, d2.intV, e0 _ _ ht, h1, h2, by rw [hd.length]; exact hl, fun p hp => q _ (upd G p _) _ (.new e0 hp) (.lst upd_same ((DatL.flatten _ hd).up (.new (e0.back hp))))⟩
/-! ### built-ins -/
theorem cb_abs {i : Int} : CbD K (fun xs H Q => ∃ i, xs = [V.int i] ∧ Q (.int (if i < 0 then -i else i)) H) [.int i] (.int (if i < 0 then -i else i)) := fun G H vs e dl Q q => by
  cases dl with | cons a t => cases t; cases a; exact ⟨i, rfl, q _ G H (.refl e) (.int _)⟩
theorem cb_int {i : Int} : CbD K (fun xs H Q => (∃ i, xs = [V.int i] ∧ Q (.int i) H) ∨ ∃ k, xs = [V.bl k] ∧ Q (.int (if k then 1 else 0)) H) [.int i] (.int i) := fun G H vs e dl Q q => by
  cases dl with | cons a t => cases t; cases a; exact .inl ⟨i, rfl, q _ G H (.refl e) (.int _)⟩
theorem cb_max2 {i j : Int} : CbD K (fun xs H Q => ∃ i j, xs = [V.int i, V.int j] ∧ Q (.int (if j > i then j else i)) H) [.int i, .int j] (.int (if j > i then j else i)) := fun G H vs e dl Q q => by
  cases dl with | cons a t => cases t with | cons b t => cases t; cases a; cases b; exact ⟨i, j, rfl, q _ G H (.refl e) (.int _)⟩
theorem cb_min2 {i j : Int} : CbD K (fun xs H Q => ∃ i j, xs = [V.int i, V.int j] ∧ Q (.int (if j < i then j else i)) H) [.int i, .int j] (.int (if j < i then j else i)) := fun G H vs e dl Q q => by
  cases dl with | cons a t => cases t with | cons b t => cases t; cases a; cases b; exact ⟨i, j, rfl, q _ G H (.refl e) (.int _)⟩
/-- len -/
def rLen (K : PySem.W.Frag) : List V → Hp → VK → Prop := fun xs H Q => ∃ x n, xs = [x] ∧ LenV K x H n ∧ Q (.int n) H
theorem cb_lenT {ds : List D} : CbD K (rLen K) [.tup ds] (.int ds.length) := fun G H vs e dl Q q => by
  cases dl with | cons a t =>
  cases t
  obtain ⟨a, xs, rfl, ht, hd⟩ := a.tupV
  exact ⟨_, xs.length, rfl, .inr ⟨xs, ex_t e ht, rfl⟩, by rw [hd.length]; exact q _ G H (.refl e) (.int _)⟩
theorem cb_lenL {ds : List D} : CbD K (rLen K) [.lst ds] (.int ds.length) := fun G H vs e dl Q q => by
  cases dl with | cons a t =>
  cases t
  obtain ⟨a, xs, rfl, ht, hd⟩ := a.lstV
  exact ⟨_, xs.length, rfl, .inl ⟨xs, .of (e _ _ ht), rfl⟩, by rw [hd.length]; exact q _ G H (.refl e) (.int _)⟩
/-- tuple(xs) -/
theorem un_tupL {ds : List D} : UnD K (kTup K) (.lst ds) (.tup ds) := fun G H v e d1 Q q => by
  obtain ⟨a, xs, rfl, ht, hd⟩ := d1.lstV
  exact .inl ⟨a, xs, rfl, .of (e _ _ ht), fun p hp => q _ (upd G p (.tup xs)) _ (.new e hp) (.tup (.of upd_same) (hd.up (.new (e.back hp))))⟩
theorem un_tupT {ds : List D} : UnD K (kTup K) (.tup ds) (.tup ds) := fun G H v e d1 Q q => by
  obtain ⟨a, xs, rfl, ht, hd⟩ := d1.tupV
  exact .inr ⟨a, xs, rfl, ex_t e ht, q _ G H (.refl e) (.tup ht hd)⟩
/-- the ints lo, lo + 1, .. as data -/
def rgD (lo : Int) (n : Nat) : List D := (List.range n).map fun i => D.int (lo + (i : Nat))
theorem DatL.rg {G : Hp} (lo : Int) (n : Nat) : DatL K G ((List.range n).map fun i => V.int (lo + (i : Nat))) (rgD lo n) := by
  have h := DatL.ints (K := K) (G := G) ((List.range n).map fun i => lo + (i : Nat))
  rw [List.map_map, List.map_map] at h
  exact h
theorem rgD_length (lo : Int) (n : Nat) : (rgD lo n).length = n := by unfold rgD; rw [List.length_map, List.length_range]
theorem rgD_get {lo : Int} {n i : Nat} (h : i < n) : (rgD lo n)[i]? = some (.int (lo + (i : Nat))) := by
  unfold rgD
  rw [List.getElem?_map, List.getElem?_range h]
  rfl
theorem ev_tupRg1 {n : Int} (h : EV K β ta env (.int n)) (h1 : n ≤ 16777216) (h0 : 0 ≤ n) : EV K β (tTupRg (tRg1 ta)) env (.tup (rgD 0 n.toNat)) := fun σ G H g Q q =>
  h σ G H g _ fun v1 G1 H1 t1 d1 => ⟨n, d1.intV, .of_le (by omega) h1 (by omega) h0, fun p hp => by
    have e : rgV 0 n = ((List.range n.toNat).map fun i => V.int (0 + (i : Nat))) := by unfold rgV; rw [Int.sub_zero]
    rw [e]
    exact q _ (upd G1 p _) _ (t1.trans (.new t1.gh hp)) (.tup (.of upd_same) (DatL.rg 0 _))⟩
theorem ev_lstRg1 {n : Int} (h : EV K β ta env (.int n)) (h1 : n ≤ 16777216) (h0 : 0 ≤ n) : EV K β (tLstRg (tRg1 ta)) env (.lst (rgD 0 n.toNat)) := fun σ G H g Q q =>
  h σ G H g _ fun v1 G1 H1 t1 d1 => ⟨n, d1.intV, .of_le (by omega) h1 (by omega) h0, fun p hp => by
    have e : rgV 0 n = ((List.range n.toNat).map fun i => V.int (0 + (i : Nat))) := by unfold rgV; rw [Int.sub_zero]
    rw [e]
    exact q _ (upd G1 p _) _ (t1.trans (.new t1.gh hp)) (.lst upd_same (DatL.rg 0 _))⟩
theorem ev_tupRg2 {m n : Int} (h : EV K β ta env (.int m)) (h' : EV K β tb env (.int n)) (h0 : 0 ≤ m ∧ m ≤ 16777216 ∧ 0 ≤ n ∧ n ≤ 16777216) : EV K β (tTupRg (tRg2 ta tb)) env (.tup (rgD m (n - m).toNat)) := fun σ G H g Q q =>
  h σ G H g _ fun v1 G1 H1 t1 d1 => h' σ G1 H1 (g.up t1) _ fun v2 G2 H2 t2 d2 => ⟨m, n, d1.intV, d2.intV, .of_le h0.1 h0.2.2.2 h0.2.1 h0.2.2.1, fun p hp => q _ (upd G2 p _) _ ((t1.trans t2).trans (.new t2.gh hp)) (.tup (.of upd_same) (DatL.rg m _))⟩
theorem ev_lstRg2 {m n : Int} (h : EV K β ta env (.int m)) (h' : EV K β tb env (.int n)) (h0 : 0 ≤ m ∧ m ≤ 16777216 ∧ 0 ≤ n ∧ n ≤ 16777216) : EV K β (tLstRg (tRg2 ta tb)) env (.lst (rgD m (n - m).toNat)) := fun σ G H g Q q =>
  h σ G H g _ fun v1 G1 H1 t1 d1 => h' σ G1 H1 (g.up t1) _ fun v2 G2 H2 t2 d2 => ⟨m, n, d1.intV, d2.intV, .of_le h0.1 h0.2.2.2 h0.2.1 h0.2.2.1, fun p hp => q _ (upd G2 p _) _ ((t1.trans t2).trans (.new t2.gh hp)) (.lst upd_same (DatL.rg m _))⟩
/-! ### isinstance -/
/-- the type of data -/
def tyD : D → Option String
  | .non => some "NoneType" | .bl _ => some "bool" | .int _ => some "int" | .str _ => some "str" | .tup _ => some "tuple" | .lst _ => some "list" | .dct _ => some "dict" | .op _ => none | .rng _ _ => none | .exc _ => none | .set _ _ _ => none | .idn _ d => tyD d
theorem Dat.ty {G H : Hp} (x : Ex G H) : ∀ {d : D} {v : V} {t : String}, Dat K G v d → tyD d = some t → TyX K H v (.type t)
  | .non, _, _, h, e => by cases h; cases e; exact .base .non
  | .bl b, _, _, h, e => by cases h; cases e; exact .base (.bl b)
  | .int b, _, _, h, e => by cases h; cases e; exact .base (.int b)
  | .str b, _, _, h, e => by cases h; cases e; exact .base (.str b)
  | .tup b, _, _, h, e => by
    cases e
    cases h with | tup a b =>
    rcases ex_t x a with a | ⟨o, its, n, h1, h2, _⟩
    · rcases a with a | ⟨o, a⟩
      · exact .base (.tup a)
      · exact .fTuple a
    · exact .kTuple h1 h2
  | .lst b, _, _, h, e => by cases e; cases h with | lst a b => exact .base (.lst (x _ _ a))
  | .dct b, _, _, h, e => by cases e; cases h with | dct a b => exact .base (.dK (x _ _ a))
  | .op v, _, _, h, e => by cases e
  | .rng _ _, _, _, h, e => by cases e
  | .exc _, _, _, h, e => by cases e
  | .set _ _ _, _, _, h, e => by cases e
  | .idn v d, _, _, h, e => by cases h with | idn a => exact Dat.ty x a e
/-- isinstance(x, T) -/
theorem cb_isi {t T : String} {b : Bool} (e : tyD d = some t) (h : kitB t T = some b) : CbD K (rIsi K) [d, .op (.ty T)] (.bl b) := fun G H vs x dl Q q => by
  cases dl with | cons a t => cases t with | cons c t =>
  cases t
  cases c
  exact ⟨_, _, _, _, b, rfl, .ty T, a.ty x e, kit_ty h, q _ G H (.refl x) (.bl b)⟩
/-- isinstance(x, (S, T)) -/
theorem ev_isi2 {t S T : String} {b c : Bool} (hx : EV K β te env d) (e : tyD d = some t) (h : kitB t S = some b) (h' : kitB t T = some c) :
    EV K β (tCB (rIsiT K) (tCons te (tCons (tTup (tCons (tC (.ty S)) (tCons (tC (.ty T)) tNil))) tNil))) env (.bl (b || c)) := fun σ G H g Q q =>
  hx σ G H g _ fun v1 G1 H1 t1 d1 => ⟨by show 2 ≤ sizeLine; decide, fun p hp => by
    have t2 := t1.trans (Stp.new (o := .tup [V.ty S, V.ty T]) t1.gh hp)
    refine ⟨_, _, _, _, _, b || c, rfl, upd_same, .cons (.ty S) (.cons (.ty T) .nil), d1.ty (t1.gh.trans (.new hp)) e, ?_, q _ _ _ t2 (.bl _)⟩
    refine kitAny_cons (kit_ty h) (fun hb => ?_) (fun hb => by rw [hb]; rfl)
    exact kitAny_cons (kit_ty h') (fun hc => by rw [hb, hc]; exact kitAny_nil) (fun hc => by rw [hc, Bool.or_true])⟩

/-! ### what is walked -/
variable (K β) in
/-- the iterator gives the values vs, one after another, and makes nothing -/
def ItV (J : It) (G : Hp) (vs : List V) : Prop := ∀ i H, Ex G H → (i = vs.length → J.stop i H) ∧ ∀ x, vs[i]? = some x → J.go i H ∧ ∀ y H3, J.yld i H y H3 → y = x ∧ H3 = H
variable (K β) in
def EVI (wi : TI) (env : Env') (ds : List D) : Prop := ∀ σ G H, Good K β σ env G H → ∀ R : It → Hp → Prop, (∀ J vs G' H', Stp G H G' H' → DatL K G' vs ds → ItV J G' vs → R J H') → wi σ H R
theorem itv_list {a : Addr} {vs : List V} {G : Hp} (h : G a = some (.lst vs)) : ItV (Itl K a) G vs := fun i H e =>
  ⟨fun hi => ⟨vs, .of (e _ _ h), by omega⟩, fun x hx => ⟨⟨vs, x, .of (e _ _ h), hx⟩, fun y H3 hy => by
    obtain ⟨e3, f⟩ := hy
    exact ⟨Option.some.inj ((f vs (.of (e _ _ h))).symm.trans hx), e3⟩⟩⟩
theorem itv_tup {a : Addr} {vs : List V} {G : Hp} (h : SqT K G a vs) : ItV (Itt K a) G vs := fun i H e =>
  ⟨fun hi => ⟨vs, ex_t e h, by omega⟩, fun x hx => ⟨⟨vs, x, ex_t e h, hx⟩, fun y H3 hy => by
    obtain ⟨e3, f⟩ := hy
    exact ⟨Option.some.inj ((f vs (ex_t e h)).symm.trans hx), e3⟩⟩⟩
theorem itv_rng {lo : Int} {n : Nat} {G : Hp} : ItV (Itr lo n) G ((List.range n).map fun i => V.int (lo + (i : Nat))) := fun i H e =>
  ⟨fun hi => by
    rw [List.length_map, List.length_range] at hi
    exact Nat.le_of_eq hi.symm, fun x hx => by
    rw [List.getElem?_map] at hx
    by_cases hi : i < n
    · rw [List.getElem?_range hi] at hx
      refine ⟨hi, fun y H3 hy => ?_⟩
      obtain ⟨e3, f⟩ := hy
      refine ⟨?_, ?_⟩
      · first | exact f.trans (Option.some.inj hx) | exact e3.trans (Option.some.inj hx)
      · first | exact e3 | exact f
    · rw [List.getElem?_eq_none (by rw [List.length_range]; omega)] at hx
      cases hx⟩
theorem ei_list {tl : TE} {ds : List D} (h : EV K β tl env (.lst ds)) : EVI K β (iList K tl) env ds := fun σ G H g R q =>
  h σ G H g _ fun v G1 H1 t1 d1 => by
    obtain ⟨a, xs, rfl, ht, hd⟩ := d1.lstV
    exact ⟨a, rfl, ⟨xs, .of (t1.gh _ _ ht)⟩, q _ xs G1 H1 t1 hd (itv_list ht)⟩
theorem ei_tup {tl : TE} {ds : List D} (h : EV K β tl env (.tup ds)) : EVI K β (iTup K tl) env ds := fun σ G H g R q =>
  h σ G H g _ fun v G1 H1 t1 d1 => by
    obtain ⟨a, xs, rfl, ht, hd⟩ := d1.tupV
    exact ⟨a, rfl, ⟨xs, ex_t t1.gh ht⟩, q _ xs G1 H1 t1 hd (itv_tup ht)⟩
theorem ei_rng1 {ta : TA} {n : Int} (h : EVA K β ta env [.int n]) (h0 : -(2 ^ 62) ≤ n) (h1 : n < 2 ^ 62) : EVI K β (iRng1 ta) env (rgD 0 n.toNat) := fun σ G H g R q =>
  h σ G H g _ fun vs G1 H1 t1 d1 => by
    cases d1 with | cons a t => cases t; cases a; exact ⟨n, rfl, h0, h1, q _ _ G1 H1 t1 (DatL.rg 0 _) itv_rng⟩
theorem ei_rng2 {ta : TA} {m n : Int} (h : EVA K β ta env [.int m, .int n]) (h0 : -(2 ^ 62) ≤ m ∧ m < 2 ^ 62 ∧ -(2 ^ 62) ≤ n ∧ n < 2 ^ 62) : EVI K β (iRng2 ta) env (rgD m (n - m).toNat) := fun σ G H g R q =>
  h σ G H g _ fun vs G1 H1 t1 d1 => by
    cases d1 with | cons a t => cases t with | cons b t => cases t; cases a; cases b; exact ⟨m, n, rfl, h0, q _ _ G1 H1 t1 (DatL.rg m _) itv_rng⟩
variable (K β) in
/-- a target -/
def EG (g : TG) (env : Env') (v : V) (d : D) (P : Env' → Prop) : Prop := ∀ σ G H, Good K β σ env G H → Dat K G v d → ∀ Q : Sg → Hp → Prop, (∀ σ' env', Good K β σ' env' G H → P env' → Q σ' H) → g v σ H Q
theorem eg_name {i : Nat} : EG K β (gName i) env v d (fun e => e = env.set i (.val v d)) := fun σ G H g dv Q q => q _ _ (g.set i dv) rfl
theorem eg_tup {gs : TGs} {n : Nat} {ds : List D} {P : Env' → Prop} (hn : ds.length = n) (h : ∀ vs σ G H, Good K β σ env G H → DatL K G vs ds → ∀ Q : Sg → Hp → Prop, (∀ σ' env', Good K β σ' env' G H → P env' → Q σ' H) → gs vs σ H Q) : EG K β (gTup K n gs) env v (.tup ds) P := fun σ G H g dv Q q => by
  obtain ⟨a, xs, rfl, ht, hd⟩ := dv.tupV
  exact ⟨a, xs, rfl, ex_t g.gh ht, by rw [hd.length, hn], h xs σ G H g hd Q q⟩
theorem eg_two {i j : Nat} {a b : D} : EG K β (gTup K 2 (gCons (gName i) (gCons (gName j) gNil))) env v (.tup [a, b]) (fun e => ∃ v1 v2, e = (env.set i (.val v1 a)).set j (.val v2 b)) :=
  eg_tup rfl fun vs σ G H g dl Q q => by
    cases dl with | cons d1 t => cases t with | cons d2 t =>
    cases t
    exact ⟨_, _, rfl, _, _, rfl, rfl, q _ _ ((g.set i d1).set j d2) ⟨_, _, rfl⟩⟩
/-! ### comprehensions -/
theorem Stp.side {G H G' H' : Hp} {p : Addr} {o : HO} (t : Stp G H G' H') (h1 : H p = none) (h2 : G' p = none) : Stp G H G' (upd H' p o) :=
  ⟨t.gg, fun a u e => by rw [upd_ne (ne_of_none e h1)]; exact t.hh a u e, fun a u e => by rw [upd_ne (ne_of_none e h2)]; exact t.gh a u e, t.ow⟩
theorem Stp.take {G H G' H' : Hp} {p : Addr} {o : HO} (t : Stp G H G' H') (h1 : H p = none) (h2 : G' p = none) (h3 : H' p = some o) : Stp G H (upd G' p o) H' :=
  ⟨t.gg.trans (.new h2), t.hh, fun a u e => by
    by_cases ha : a = p
    · subst ha; rw [upd_same] at e; rw [h3]; exact e
    · rw [upd_ne ha] at e; exact t.gh a u e, fun a h4 h5 => by
    have : a ≠ p := fun e => h5 (e ▸ h1)
    rw [upd_ne this]; exact t.ow a h4 h5⟩
theorem wipe_set (σ : Sg) : ∀ (vs : List Nat) (j : Nat) (x : Option V), j ∈ vs → L2.wipe ((L2.wipe σ vs).set j x) vs = L2.wipe σ vs := by
  intro vs j x hj
  refine List.ext_getElem? fun i => ?_
  have key : ∀ (ws : List Nat) (τ : Sg) (i : Nat), i ∈ ws → i < τ.length → (L2.wipe τ ws)[i]? = some none := by
    intro ws
    induction ws with
    | nil => intro τ i h; cases h
    | cons w ws ih =>
      intro τ i h hl
      unfold L2.wipe
      by_cases e : w = i
      · subst e
        rw [List.getElem?_set_self (by rw [L2.wipe_length]; exact hl)]
      · rw [List.getElem?_set_ne e]
        exact ih τ i (by
          rcases List.mem_cons.mp h with z | z
          · exact absurd z.symm e
          · exact z) hl
  by_cases hi : i ∈ vs
  · by_cases hl : i < σ.length
    · rw [key vs _ i hi (by rw [List.length_set, L2.wipe_length]; exact hl), key vs _ i hi hl]
    · rw [List.getElem?_eq_none (by rw [L2.wipe_length, List.length_set, L2.wipe_length]; omega), List.getElem?_eq_none (by rw [L2.wipe_length]; omega)]
  · rw [L2.wipe_out hi, List.getElem?_set_ne (fun e => hi (by rw [← e]; exact hj))]
/-- [e for j in .. if ..]: f says which turns give, F what -/
def keep (f : Nat → Bool) (F : Nat → D) (n : Nat) : List D := ((List.range n).filter f).map F
theorem keep_yes {f : Nat → Bool} {F : Nat → D} {n : Nat} (h : f n = true) : keep f F (n + 1) = keep f F n ++ [F n] := by
  unfold keep
  rw [List.range_succ, List.filter_append, List.map_append, List.filter_cons, if_pos h] <;> rfl
theorem keep_no {f : Nat → Bool} {F : Nat → D} {n : Nat} (h : f n = false) : keep f F (n + 1) = keep f F n := by
  unfold keep
  rw [List.range_succ, List.filter_append, List.map_append, List.filter_cons, if_neg (by rw [h]; decide)]
  exact List.append_nil _
theorem keep_len (f : Nat → Bool) (F : Nat → D) (n : Nat) : (keep f F n).length ≤ n := by
  unfold keep
  rw [List.length_map]
  have h := List.length_filter_le f (List.range n)
  rw [List.length_range] at h
  exact h
theorem keep_all {F : Nat → D} {n : Nat} : keep (fun _ => true) F n = (List.range n).map F := by
  unfold keep
  rw [List.filter_eq_self.mpr (fun _ _ => rfl)]
theorem ev_lc {wi : TI} {g : TG} {vs : List Nat} {ds : List D} {f : Nat → Bool} {F : Nat → D} (hI : EVI K β wi env ds) (hn : ds.length < sizeLine)
    (hg : ∀ i v d, ds[i]? = some d → ∃ P, EG K β g (wipeE env vs) v d P ∧ (∀ σ' env' G H, Good K β σ' env' G H → P env' → True) ∧
      ∀ env', P env' → EVT K β tt env' (f i) ∧ (f i = true → EV K β te env' (F i)))
    (hw : ∀ x σ H (Q : Sg → Hp → Prop), g x (L2.wipe σ vs) H Q → g x (L2.wipe σ vs) H fun σ2 H2 => L2.wipe σ2 vs = L2.wipe σ vs ∧ Q σ2 H2) :
    EV K β (tLc wi g tt te vs) env (.lst (keep f F ds.length)) := fun σ G H g0 Q q =>
  hI σ G H g0 _ fun J us G1 H1 t1 hd hJ Dl hD => by
    refine ⟨fun i m H' => m = us.length - i ∧ i ≤ us.length ∧ ∃ G' acc, Stp G1 H1 G' H' ∧ G' Dl = none ∧ H' Dl = some (.lst acc) ∧ DatL K G' acc (keep f F i),
      ⟨us.length, by simp, Nat.zero_le _, G1, [], (Stp.refl t1.gh).side hD (t1.gh.back hD), t1.gh.back hD, upd_same, .nil⟩, ?_⟩
    rintro i m H' ⟨rfl, hi, G', acc, t2, hG, hacc, hda⟩
    by_cases hlt : i < us.length
    · have hx : us[i]? = some us[i] := List.getElem?_eq_getElem hlt
      obtain ⟨d, hdi, dx⟩ := hd.getV hx
      obtain ⟨P, hgP, _, hP⟩ := hg i us[i] d hdi
      obtain ⟨hgo, hyl⟩ := (hJ i H' (t2.gg.trans t2.gh)).2 _ hx
      refine .inr ⟨hgo, fun H'' => ∃ G' acc, Stp G1 H1 G' H'' ∧ G' Dl = none ∧ H'' Dl = some (.lst acc) ∧ DatL K G' acc (keep f F (i + 1)), fun H'' z => ⟨us.length - (i + 1), by omega, rfl, hlt, z⟩, fun x H'' hy => ?_⟩
      obtain ⟨rfl, rfl⟩ := hyl _ _ hy
      have gB := ((g0.up t1).up t2).wipe vs
      refine hw _ _ _ _ (hgP _ _ _ gB (dx.up t2.gg) _ fun σ2 env2 g2 hp2 => ?_)
      obtain ⟨hT, hE⟩ := hP env2 hp2
      refine hT _ _ _ g2 _ fun G3 H3 t3 => ?_
      have a3 : G3 Dl = none := t3.ow _ hG (by rw [hacc]; exact (fun e => nomatch e))
      cases hf : f i with
      | false =>
        rw [if_neg Bool.false_ne_true]
        exact ⟨G3, acc, t2.trans t3, a3, t3.hh _ _ hacc, by rw [keep_no hf]; exact hda.up t3.gg⟩
      | true =>
        rw [if_pos rfl]
        refine hE hf _ _ _ (g2.up t3) _ fun y G4 H4 t4 dy => ?_
        have a4 : G4 Dl = none := t4.ow _ a3 (by rw [t3.hh _ _ hacc]; exact (fun e => nomatch e))
        refine ⟨acc, t4.hh _ _ (t3.hh _ _ hacc), ?_, G4, acc ++ [y], ((t2.trans t3).trans t4).side hD a4, a4, upd_same, ?_⟩
        · rw [hda.length]
          have := keep_len f F i
          have := hd.length
          omega
        · rw [keep_yes hf]
          exact (hda.up (t3.gg.trans t4.gg)).append (.one dy)
    · have hil : i = us.length := by omega
      refine .inl ⟨(hJ i H' (t2.gg.trans t2.gh)).1 hil, ?_⟩
      refine q _ (upd G' Dl (.lst acc)) H' (t1.trans (t2.take hD hG hacc)) (.lst upd_same (.up ?_ (.new hG)))
      rw [hil, hd.length] at hda
      exact hda
/-- the usual form: the target a name -/
theorem ev_lcN {wi : TI} {j : Nat} {vs : List Nat} {ds : List D} {f : Nat → Bool} {F : Nat → D} (hI : EVI K β wi env ds) (hn : ds.length < sizeLine) (hj : j ∈ vs)
    (hs : ∀ i v d, ds[i]? = some d → EVT K β tt ((wipeE env vs).set j (.val v d)) (f i) ∧ (f i = true → EV K β te ((wipeE env vs).set j (.val v d)) (F i))) :
    EV K β (tLc wi (gName j) tt te vs) env (.lst (keep f F ds.length)) :=
  ev_lc hI hn (fun i v d hd => ⟨_, eg_name, fun _ _ _ _ _ _ => trivial, fun env' e => by subst e; exact hs i v d hd⟩)
    fun x σ H Q h => ⟨wipe_set σ vs j (some x) hj, h⟩
theorem et_yes : EVT K β tYes env true := fun σ G H g Q q => q G H (.refl g.gh)
/-- without a test -/
theorem ev_lcA {wi : TI} {j : Nat} {vs : List Nat} {ds : List D} {F : Nat → D} (hI : EVI K β wi env ds) (hn : ds.length < sizeLine) (hj : j ∈ vs)
    (hs : ∀ i v d, ds[i]? = some d → EV K β te ((wipeE env vs).set j (.val v d)) (F i)) :
    EV K β (tLc wi (gName j) tYes te vs) env (.lst ((List.range ds.length).map F)) := by
  rw [← keep_all]
  exact ev_lcN hI hn hj fun i v d hd => ⟨et_yes, fun _ => hs i v d hd⟩
end
end DL

set_option Elab.async false
set_option linter.all false
set_option maxRecDepth 100000
set_option maxHeartbeats 2000000
namespace DL
open PySem PySem.Spec PyProof.Rows L2
/-! ### rules whose reading names K: K given ahead, for what stands in a comprehension -/
section
variable {X : Cx} (K : PySem.W.Frag)
theorem call_isiK (h : X.K = K := by rfl) : CallR X (.builtin "isinstance") (rIsi K) := h ▸ call_isi
theorem call_isiTK (h : X.K = K := by rfl) : CallR X (.builtin "isinstance") (rIsiT K) := h ▸ call_isiT
theorem call_lenK (h : X.K = K := by rfl) : CallR X (.builtin "len") (rLen K) := by subst h; exact call_len
theorem ix_seqK (h : X.K = K := by rfl) : IxR X (rIx K) := h ▸ ix_seq
theorem ix_listK (h : X.K = K := by rfl) : IxR X (rIxL K) := h ▸ ix_list
theorem ix_tupK (h : X.K = K := by rfl) : IxR X (rIxT K) := h ▸ ix_tup
theorem op_catTK (h : X.K = K := by rfl) : OpR X (binaryOp .Add) (rCatT K) := h ▸ op_catT
theorem op_inK (h : X.K = K := by rfl) : OpR X (compareOp .In) (rIn K false) := h ▸ op_in_seq
theorem op_notInK (h : X.K = K := by rfl) : OpR X (compareOp .NotIn) (rIn K true) := h ▸ op_notIn_seq
theorem sl_listK (h : X.K = K := by rfl) : SlR X (rSlL K) := h ▸ sl_list
theorem pi_listK {tg l : Expr} {tl : TE} (hl : PE X l tl) (h : X.K = K := by rfl) : PI X tg l (iList K tl) := h ▸ pi_list hl
theorem pi_tupK {tg l : Expr} {tl : TE} (hl : PE X l tl) (h : X.K = K := by rfl) : PI X tg l (iTup K tl) := h ▸ pi_tup hl
theorem pe_tupleOfK {a : Expr} {ta : TE} {p pos : Pos} (hg : Gl X "tuple") (hm : X.mg "tuple" = none) (ha : PE X a ta) (na : starEach [a] X.env = (false, eval a X.env) :: starEach [] X.env := by rfl) (h : X.K = K := by rfl) :
    PE X (.Call (.Name "tuple" p) [a] [] pos) (tThen ta (kTup K)) := h ▸ pe_tupleOf hg hm ha na
def rListOf (K : PySem.W.Frag) : List V → Hp → VK → Prop := fun xs H Q => ∃ p ys, xs = [.ref p] ∧ (SqL K H p ys ∨ SqT K H p ys) ∧ ∀ l, H l = none → Q (.ref l) (upd H l (.lst ys))
theorem call_list_ofK (h : X.K = K := by rfl) : CallR X (.type "list") (rListOf K) := by subst h; exact call_list_of
theorem pg_tupK {es : List Expr} {k : Nat} {t : TGs} {n : Nat} {pos : Pos} (hc : X.calm = true) (hp : PGs X es t)
    (hn : (assignEach es X.env).length = n := by rfl) (hst : (assignEach es X.env).findIdx? (·.1) = none := by rfl) (h : X.K = K := by rfl) : PG X (.Tuple es k pos) (gTup K n t) := h ▸ pg_tup hc hp hn hst
theorem pe_bmK {o e : Expr} {es : List Expr} {to : TE} {t : TA} {name : Str} {apos cpos : Pos} {T id : String} {r : V → List V → Hp → VK → Prop} (pa : PlainAttrs T) (slot : Slot T name id) (hty : typeOf (.builtin id) = pure (.type "method_descriptor")) (hm : MtR X id r) (ho : PE X o to) (ha : PA X (e :: es) t)
    (hbase : attributeBase o name X.env (eval o X.env) = eval o X.env := by rfl)
    (hfew : ((backTo cpos (starEach (e :: es) X.env)).all (fun x => !x.1) && (backToKw cpos (keywordEach [] X.env)).all (fun x => x.1.isSome)
      && decide ((e :: es).length + ([] : List Keyword).length + (if ([] : List Keyword).isEmpty then 0 else 1) < 30)) = true := by rfl)
    (hline : (apos.endLine == cpos.line) = true := by rfl) (hs : starEach (e :: es) X.env = (false, eval e X.env) :: starEach es X.env := by rfl) (hplain : (backTo cpos (starEach es X.env)).any (·.1) = false := by rfl) (h : X.K = K := by rfl) :
    PE X (.Call (.Attribute o name apos) (e :: es) [] cpos) (tBM K T r to t) := h ▸ pe_bm pa slot hty hm ho ha hbase hfew hline hs hplain
end
end DL

set_option Elab.async false
set_option linter.all false
set_option maxRecDepth 100000
set_option maxHeartbeats 2000000
namespace DL
open PySem PySem.Spec PyProof.Rows L2

/-! ### statements -/
/-- what is wanted behind a statement: of the slots where it goes on, of what it hands back, of what it raises (class, the error's field and its value) -/
structure Post where
  nx : Env' → Prop := fun _ => False
  rt : V → D → Env' → Prop := fun _ _ _ => False
  bk : Env' → Prop := fun _ => False
  ct : Env' → Prop := fun _ => False
  ex : Value → Str → V → Env' → Prop := fun _ _ _ _ => False
section
variable (K : PySem.W.Frag) (β : Bas)
/-- the wish W takes what P says may be raised -/
def ExOk (W : WX) (P : Post) (G : Hp) : Prop := ∀ σ' env' G' H' cls f v dx, Good K β σ' env' G' H' → Ex G G' → H' dx = some (.xd [(f, v)]) → G' dx = none → P.ex cls f v env' → W cls (some dx) σ' H'
structure Cont (Dn : Ends) (P : Post) (G : Hp) : Prop where
  nx : ∀ σ' env' G' H', Good K β σ' env' G' H' → Ex G G' → P.nx env' → Dn.nx σ' H'
  rt : ∀ σ' env' G' H' v d, Good K β σ' env' G' H' → Ex G G' → Dat K G' v d → P.rt v d env' → Dn.rt v H'
  bk : ∀ σ' env' G' H', Good K β σ' env' G' H' → Ex G G' → P.bk env' → Dn.bk σ' H'
  ct : ∀ σ' env' G' H', Good K β σ' env' G' H' → Ex G G' → P.ct env' → Dn.ct σ' H'
def EX (W : WX) (ts : TS) (env : Env') (P : Post) : Prop := ∀ σ G H, Good K β σ env G H → ∀ Dn : Ends, Cont K β Dn P G → ExOk K β W P G → ts Dn σ H
end
section
variable {K : PySem.W.Frag} {β : Bas} {env : Env'} {ta tb te tc : TE} {tt tu : TT} {x y z d : D} {v w : V} {P : Post} {W : WX} {ts tr : TS}
theorem ExOk.up {G G' : Hp} (h : ExOk K β W P G) (e : Ex G G') : ExOk K β W P G' := fun σ' env' G2 H2 cls f v dx g e2 => h σ' env' G2 H2 cls f v dx g (e.trans e2)
theorem Cont.up {Dn : Ends} {G G' : Hp} (h : Cont K β Dn P G) (e : Ex G G') : Cont K β Dn P G' :=
  ⟨fun σ' env' G2 H2 g e2 => h.nx σ' env' G2 H2 g (e.trans e2), fun σ' env' G2 H2 v d g e2 => h.rt σ' env' G2 H2 v d g (e.trans e2), fun σ' env' G2 H2 g e2 => h.bk σ' env' G2 H2 g (e.trans e2), fun σ' env' G2 H2 g e2 => h.ct σ' env' G2 H2 g (e.trans e2)⟩
/-- one statement, then the rest -/
theorem ex_seq {N : Env' → Prop} (h1 : EX K β W ts env { P with nx := N }) (h2 : ∀ env', N env' → EX K β W tr env' P) : EX K β W (tSeq ts tr) env P := fun σ G H g Dn c x =>
  h1 σ G H g _ ⟨fun σ' env' G' H' g' e n => h2 env' n σ' G' H' g' Dn (c.up e) (x.up e), c.rt, c.bk, c.ct⟩ x
/-- .. one that leaves one state of the slots -/
theorem ex_cons {env1 : Env'} (h1 : EX K β W ts env { P with nx := fun e => e = env1 }) (h2 : EX K β W tr env1 P) : EX K β W (tSeq ts tr) env P := ex_seq h1 fun env' e => e ▸ h2
theorem ex_next (h : P.nx env) : EX K β W tNext env P := fun σ G H g Dn c x => c.nx σ env G H g (.refl _) h
theorem ex_asg {i : Nat} (he : EV K β te env d) (h : ∀ v, P.nx (env.set i (.val v d))) : EX K β W (tAsg te (gName i)) env P := fun σ G H g Dn c x =>
  he σ G H g _ fun v G1 H1 t1 d1 => c.nx _ _ G1 H1 ((g.up t1).set i d1) t1.gg (h v)
theorem ex_asgV {i : Nat} (he : EVv K β te env v d) (h : P.nx (env.set i (.val v d))) : EX K β W (tAsg te (gName i)) env P := fun σ G H g Dn c x =>
  he σ G H g _ fun G1 H1 t1 d1 => c.nx _ _ G1 H1 ((g.up t1).set i d1) t1.gg h
/-- x = e, then the rest: a fresh value -/
theorem ex_let {i : Nat} (he : EV K β te env d) (h : ∀ v, EX K β W tr (env.set i (.val v d)) P) : EX K β W (tSeq (tAsg te (gName i)) tr) env P :=
  ex_seq (N := fun e => ∃ v, e = env.set i (.val v d)) (ex_asg he fun v => ⟨v, rfl⟩) fun env' ⟨v, e⟩ => e ▸ h v
theorem ex_ret (he : EV K β te env d) (h : ∀ v, P.rt v d env) : EX K β W (tRet te) env P := fun σ G H g Dn c x =>
  he σ G H g _ fun v G1 H1 t1 d1 => c.rt _ _ G1 H1 v d (g.up t1) t1.gg d1 (h v)
theorem ex_retV (he : EVv K β te env v d) (h : P.rt v d env) : EX K β W (tRet te) env P := fun σ G H g Dn c x =>
  he σ G H g _ fun G1 H1 t1 d1 => c.rt _ _ G1 H1 v d (g.up t1) t1.gg d1 h
theorem ex_drop (he : EV K β te env d) (h : P.nx env) : EX K β W (tDrop te) env P := fun σ G H g Dn c x =>
  he σ G H g _ fun v G1 H1 t1 d1 => c.nx _ _ G1 H1 (g.up t1) t1.gg h
theorem ex_if {b : Bool} (ht : EVT K β tt env b) (h1 : b = true → EX K β W ts env P) (h2 : b = false → EX K β W tr env P) : EX K β W (tIfS tt ts tr) env P := fun σ G H g Dn c x =>
  ht σ G H g _ fun G1 H1 t1 => by
    cases b with
    | true => rw [if_pos rfl]; exact h1 rfl σ G1 H1 (g.up t1) Dn (c.up t1.gg) (x.up t1.gg)
    | false => rw [if_neg Bool.false_ne_true]; exact h2 rfl σ G1 H1 (g.up t1) Dn (c.up t1.gg) (x.up t1.gg)
/-- if without else, then the rest -/
theorem ex_when {b : Bool} (ht : EVT K β tt env b) (h1 : b = true → EX K β W ts env { P with nx := fun _ => False }) (h2 : b = false → EX K β W tr env P) : EX K β W (tSeq (tIfS tt ts tNext) tr) env P := by
  cases b with
  | true => exact ex_seq (N := fun _ => False) (ex_if ht h1 fun h => nomatch h) fun env' n => False.elim n
  | false => exact ex_seq (N := fun e => e = env) (ex_if ht (fun h => nomatch h) fun _ => ex_next rfl) fun env' n => n ▸ h2 rfl
theorem ex_break (h : P.bk env) : EX K β W tBreak env P := fun σ G H g Dn c x => c.bk σ env G H g (.refl _) h
theorem ex_cont (h : P.ct env) : EX K β W tCont env P := fun σ G H g Dn c x => c.ct σ env G H g (.refl _) h
/-- a weaker wish -/
theorem EX.imp {Q : Post} (h : EX K β W ts env Q) (h1 : ∀ e, Q.nx e → P.nx e) (h2 : ∀ v d e, Q.rt v d e → P.rt v d e) (h3 : ∀ e, Q.bk e → P.bk e) (h4 : ∀ e, Q.ct e → P.ct e) (h5 : ∀ c f v e, Q.ex c f v e → P.ex c f v e) : EX K β W ts env P := fun σ G H g Dn c x =>
  h σ G H g Dn ⟨fun σ' env' G' H' g' e n => c.nx σ' env' G' H' g' e (h1 _ n), fun σ' env' G' H' v d g' e dv n => c.rt σ' env' G' H' v d g' e dv (h2 _ _ _ n), fun σ' env' G' H' g' e n => c.bk σ' env' G' H' g' e (h3 _ n), fun σ' env' G' H' g' e n => c.ct σ' env' G' H' g' e (h4 _ n)⟩
    fun σ' env' G' H' cls f v dx g' e q1 q2 n => x σ' env' G' H' cls f v dx g' e q1 q2 (h5 _ _ _ _ n)
/-! ### loops -/
theorem ex_for {wi : TI} {g : TG} {ds : List D} (I : Nat → Env' → Prop) (hI : EVI K β wi env ds) (h0 : I 0 env)
    (hs : ∀ i env' v d, ds[i]? = some d → I i env' → ∃ Pg, EG K β g env' v d Pg ∧ ∀ env2, Pg env2 → EX K β W ts env2 { P with nx := I (i + 1), ct := I (i + 1), bk := P.nx })
    (hd : ∀ env', I ds.length env' → P.nx env') : EX K β W (tFor wi g ts) env P := fun σ G H g0 Dn c x =>
  hI σ G H g0 _ fun J us G1 H1 t1 hdl hJ => by
    refine ⟨fun i m σ' H' => m = us.length - i ∧ i ≤ us.length ∧ ∃ env' G', Good K β σ' env' G' H' ∧ Ex G1 G' ∧ I i env', ⟨us.length, by simp, Nat.zero_le _, env, G1, g0.up t1, .refl _, h0⟩, ?_⟩
    rintro i m σ' H' ⟨rfl, hi, env', G', g', e', hIi⟩
    by_cases hlt : i < us.length
    · have hx : us[i]? = some us[i] := List.getElem?_eq_getElem hlt
      obtain ⟨d, hdi, dx⟩ := hdl.getV hx
      obtain ⟨Pg, hg, hb⟩ := hs i env' us[i] d hdi hIi
      obtain ⟨hgo, hyl⟩ := (hJ i H' (e'.trans g'.gh)).2 _ hx
      refine .inr ⟨hgo, fun σ2 H2 => ∃ env2 G2, Good K β σ2 env2 G2 H2 ∧ Ex G1 G2 ∧ I (i + 1) env2, fun σ2 H2 z => ⟨us.length - (i + 1), by omega, rfl, hlt, z⟩, fun x0 H'' hy => ?_⟩
      obtain ⟨rfl, rfl⟩ := hyl _ _ hy
      refine hg _ _ _ g' (dx.up e') _ fun σ2 env2 g2 hp => ?_
      refine hb env2 hp σ2 G' _ g2 _ ⟨fun σ3 env3 G3 H3 g3 e3 n => ⟨env3, G3, g3, e'.trans e3, n⟩, fun σ3 env3 G3 H3 v d g3 e3 => c.rt σ3 env3 G3 H3 v d g3 (t1.gg.trans (e'.trans e3)), fun σ3 env3 G3 H3 g3 e3 => c.nx σ3 env3 G3 H3 g3 (t1.gg.trans (e'.trans e3)),
        fun σ3 env3 G3 H3 g3 e3 n => ⟨env3, G3, g3, e'.trans e3, n⟩⟩ (x.up (t1.gg.trans e'))
    · have hil : i = us.length := by omega
      refine .inl ⟨(hJ i H' (e'.trans g'.gh)).1 hil, ?_⟩
      refine c.nx σ' env' G' H' g' (t1.gg.trans e') (hd env' ?_)
      rw [hil, hdl.length] at hIi
      exact hIi
/-- the target a name -/
theorem ex_forN {wi : TI} {j : Nat} {ds : List D} (I : Nat → Env' → Prop) (hI : EVI K β wi env ds) (h0 : I 0 env)
    (hs : ∀ i env' v d, ds[i]? = some d → I i env' → EX K β W ts (env'.set j (.val v d)) { P with nx := I (i + 1), ct := I (i + 1), bk := P.nx })
    (hd : ∀ env', I ds.length env' → P.nx env') : EX K β W (tFor wi (gName j) ts) env P :=
  ex_for I hI h0 (fun i env' v d hd' hi => ⟨_, eg_name, fun env2 e => by subst e; exact hs i env' v d hd' hi⟩) hd
theorem ex_while {tt : Env' → Bool} {ttr : TT} (I : Env' → Prop) (μ : Env' → Nat) (h0 : I env) (ht : ∀ env', I env' → EVT K β ttr env' (tt env'))
    (hs : ∀ env', I env' → tt env' = true → EX K β W ts env' { P with nx := fun e => I e ∧ μ e < μ env', ct := fun e => I e ∧ μ e < μ env', bk := P.nx })
    (hd : ∀ env', I env' → tt env' = false → P.nx env') : EX K β W (tWhile ttr ts) env P := fun σ G H g0 Dn c x => by
  refine ⟨fun m σ' H' => ∃ env' G', m = μ env' ∧ Good K β σ' env' G' H' ∧ Ex G G' ∧ I env', ⟨_, env, G, rfl, g0, .refl _, h0⟩, ?_⟩
  rintro m σ' H' ⟨env', G', rfl, g', e', hi⟩
  refine ht env' hi σ' G' H' g' _ fun G1 H1 t1 => ?_
  cases hb : tt env' with
  | true =>
    rw [if_pos rfl]
    refine ⟨fun σ2 H2 => ∃ env2 G2, Good K β σ2 env2 G2 H2 ∧ Ex G G2 ∧ I env2 ∧ μ env2 < μ env', fun σ2 H2 ⟨env2, G2, g2, e2, i2, l⟩ => ⟨_, l, env2, G2, rfl, g2, e2, i2⟩, ?_⟩
    exact hs env' hi hb σ' G1 H1 (g'.up t1) _ ⟨fun σ3 env3 G3 H3 g3 e3 n => ⟨env3, G3, g3, (e'.trans t1.gg).trans e3, n.1, n.2⟩, fun σ3 env3 G3 H3 v d g3 e3 => c.rt σ3 env3 G3 H3 v d g3 ((e'.trans t1.gg).trans e3),
      fun σ3 env3 G3 H3 g3 e3 => c.nx σ3 env3 G3 H3 g3 ((e'.trans t1.gg).trans e3), fun σ3 env3 G3 H3 g3 e3 n => ⟨env3, G3, g3, (e'.trans t1.gg).trans e3, n.1, n.2⟩⟩ (x.up (e'.trans t1.gg))
  | false =>
    rw [if_neg Bool.false_ne_true]
    exact c.nx σ' env' G1 H1 (g'.up t1) (e'.trans t1.gg) (hd env' hi hb)
/-! ### lists of one's own -/
/-- x = [] (or any display whose items are data) that is one's own from here on -/
theorem ex_new {i : Nat} {ta : TA} {ds : List D} (he : EVA K β ta env ds) (hl : ds.length ≤ sizeLine) (h : ∀ a, P.nx (env.set i (.own a ds))) : EX K β W (tAsg (tLst ta) (gName i)) env P := fun σ G H g Dn c x =>
  he σ G H g _ fun vs G1 H1 t1 d1 => ⟨by rw [d1.length]; exact hl, fun p hp => c.nx _ _ G1 _ ((g.up t1).newOwn i hp d1) t1.gg (h p)⟩
theorem ex_app {i : Nat} {a : Addr} {ds : List D} (hi : env[i]? = some (.own a ds)) (he : EV K β te env d) (hl : ds.length < sizeLine) (h : P.nx (env.set i (.own a (ds ++ [d])))) :
    EX K β W (tDrop (tBM K "list" rAppend (tVar i) (tCons te tNil))) env P := fun σ G H g Dn c x => by
  obtain ⟨h1, h2, h3, xs, h4, h5⟩ := g.own hi
  refine ⟨.ref a, h1, .inl ⟨rfl, xs, .of h4⟩, he σ G H g _ fun v G1 H1 t1 d1 => ?_⟩
  refine ⟨a, xs, v, rfl, rfl, t1.hh _ _ h4, by rw [h5.length]; exact hl, ?_⟩
  exact c.nx _ _ G1 _ ((g.up t1).write hi ((h5.up t1.gg).append (.one d1))) t1.gg h
/-- return x, x a list of one's own: it is handed over -/
theorem ex_retOwn {i : Nat} {a : Addr} {ds : List D} (hi : env[i]? = some (.own a ds)) (hb : ∀ σ G H, Good K β σ env G H → β.bx ≠ some a) (h : ∀ v, P.rt v (.lst ds) (env.set i .un)) : EX K β W (tRet (tVar i)) env P := fun σ G H g Dn c x => by
  obtain ⟨h1, h2, h3, xs, h4, h5⟩ := g.own hi
  have hb' := hb σ G H g
  have h6 : β.H a = none := h2.resolve_right hb'
  have g1 := g.forget i
  have hna : a ∉ (env.set i .un).filterMap ownA := by
    have nd := g.nd
    clear h hb hb' g1 h1 h2 h3 h4 h5 h6 g c x
    induction env generalizing i with
    | nil => simp at hi
    | cons t env ih =>
      cases i with
      | zero =>
        simp at hi
        subst hi
        exact (List.nodup_cons.mp (show (a :: env.filterMap ownA).Nodup from nd)).1
      | succ i =>
        have hi' : env[i]? = some (.own a ds) := by simpa using hi
        rw [List.set_cons_succ, List.filterMap_cons]
        rw [List.filterMap_cons] at nd
        have hm : a ∈ env.filterMap ownA := List.mem_filterMap.mpr ⟨_, List.mem_of_getElem? hi', rfl⟩
        cases q : ownA t with
        | none => rw [q] at nd; exact ih hi' nd
        | some b =>
          rw [q] at nd
          intro m
          rcases List.mem_cons.mp m with z | z
          · exact (List.nodup_cons.mp nd).1 (z ▸ hm)
          · exact ih hi' (List.nodup_cons.mp nd).2 z
  refine ⟨.ref a, h1, c.rt σ (env.set i .un) (upd G a (.lst xs)) H (.ref a) (.lst ds) ?_ (.new h3) (.lst upd_same (h5.up (.new h3))) (h _)⟩
  have sl : ∀ {σ : Sg} {env : Env'}, SlsOk K β G H σ env → a ∉ env.filterMap ownA → SlsOk K β (upd G a (.lst xs)) H σ env := by
    intro σ env s
    induction s with
    | nil => intro _; exact .nil
    | @cons o s σ env x r ih =>
      intro m
      rw [List.filterMap_cons] at m
      cases s with
      | un => exact .cons trivial (ih m)
      | val v d => exact .cons ⟨x.1, x.2.up (.new h3)⟩ (ih m)
      | own b es =>
        have m' : a ∉ b :: env.filterMap ownA := m
        obtain ⟨y1, y2, y3, ys, y4, y5⟩ := x
        have hne : b ≠ a := fun z => m' (by rw [← z]; exact List.mem_cons_self)
        exact .cons ⟨y1, y2, by rw [upd_ne hne]; exact y3, ys, y4, y5.up (.new h3)⟩ (ih fun z => m' (List.mem_cons_of_mem _ z))
  exact ⟨g.gg.trans (.new h3), g.hh, fun b u e => by
    by_cases hb : b = a
    · subst hb; rw [upd_same] at e; rw [h4]; exact e
    · rw [upd_ne hb] at e; exact g.gh b u e, fun b e1 e2 => by
    have hne : b ≠ a := fun z => e2 (z ▸ h6)
    rw [upd_ne hne]; exact g.ow b e1 e2, g.bh, sl g1.sl hna, g1.nd⟩
/-- found[k], len(found) of one's own -/
theorem ev_ixOwn {i : Nat} {a : Addr} {ds : List D} {k : Int} (hi : env[i]? = some (.own a ds)) (hk : EV K β tb env (.int k)) (e : atI ds k = some d) : EV K β (tOp (rIxL K) (tVar i) tb) env d := fun σ G H g Q q => by
  obtain ⟨h1, h2, h3, xs, h4, h5⟩ := g.own hi
  refine ⟨.ref a, h1, hk σ G H g _ fun v G1 H1 t1 d1 => ?_⟩
  obtain ⟨u, hu, du⟩ := atI_of (h5.up t1.gg) e
  exact ⟨a, xs, k, u, rfl, d1.intV, .of (t1.hh _ _ h4), hu, q u G1 H1 t1 du⟩
theorem ev_lenOwn {i : Nat} {a : Addr} {ds : List D} (hi : env[i]? = some (.own a ds)) : EV K β (tCB (rLen K) (tCons (tVar i) tNil)) env (.int ds.length) := fun σ G H g Q q => by
  obtain ⟨h1, h2, h3, xs, h4, h5⟩ := g.own hi
  exact ⟨.ref a, h1, .ref a, xs.length, rfl, .inl ⟨xs, .of h4, rfl⟩, by rw [h5.length]; exact q _ G H (.refl g.gh) (.int _)⟩
/-! ### promises -/
variable (K) in
/-- a def that hands back data by data and does nothing else -/
def spD (R : List D → D → Prop) : Sp := fun vs H Q _ => ∃ G ds d, Ex G H ∧ DatL K G vs ds ∧ R ds d ∧ ∀ v G' H', Stp G H G' H' → Dat K G' v d → Q v H'
theorem ev_call {R : List D → D → Prop} {ta : TA} {ds : List D} {E : XK} (he : EVA K β ta env ds) (h : R ds d) : EV K β (tCall (spD K R) [] E ta) env d := fun σ G H g Q q =>
  he σ G H g _ fun vs G1 H1 t1 d1 => ⟨G1, ds, d, t1.gh, by rw [List.append_nil]; exact d1, h, fun v G2 H2 t2 d2 => q v G2 H2 (t1.trans t2) d2⟩
/-- a def's entry: nothing lent -/
theorem EX.fin {G H : Hp} {Q : VK} {d : D} {t : TS} {σ : Sg} (g : Good K ⟨G, H, none⟩ σ env G H) (q : ∀ v G' H', Stp G H G' H' → Dat K G' v d → Q v H') (h : EX K ⟨G, H, none⟩ W t env { rt := fun _ d' _ => d' = d, nx := fun _ => d = .non }) :
    t { nx := fun _ H' => Q .non H', rt := Q } σ H := by
  have st : ∀ {σ' env' G' H'}, Good K ⟨G, H, none⟩ σ' env' G' H' → Stp G H G' H' := fun g' => ⟨g'.gg, fun a o e => g'.hh a o (fun z => nomatch z) e, g'.gh, g'.ow⟩
  refine h σ G H g _ ⟨fun σ' env' G' H' g' e n => q _ G' H' (st g') (n ▸ .non), fun σ' env' G' H' v d' g' e dv n => q v G' H' (st g') (n ▸ dv), fun _ _ _ _ _ _ n => False.elim n, fun _ _ _ _ _ _ n => False.elim n⟩ fun _ _ _ _ _ _ _ _ _ _ _ _ n => False.elim n
theorem SlsOk.vals {G H : Hp} : ∀ {vs : List V} {ds : List D}, DatL K G vs ds → SlsOk K β G H (vs.map some) (List.zipWith Sl.val vs ds)
  | _, _, .nil => .nil
  | _, _, .cons a t => .cons ⟨rfl, a⟩ (SlsOk.vals t)
theorem SlsOk.uns {G H : Hp} : ∀ m : Nat, SlsOk K β G H (List.replicate m none) (List.replicate m Sl.un)
  | 0 => .nil
  | m + 1 => .cons (s := .un) trivial (SlsOk.uns m)
theorem SlsOk.app {G H : Hp} : ∀ {σ τ : Sg} {env env' : Env'}, SlsOk K β G H σ env → SlsOk K β G H τ env' → SlsOk K β G H (σ ++ τ) (env ++ env')
  | _, _, _, _, .nil, h => h
  | _, _, _, _, .cons a r, h => .cons a (SlsOk.app r h)
theorem own_vals : ∀ (vs : List V) (ds : List D), (List.zipWith Sl.val vs ds).filterMap ownA = []
  | [], _ => by simp
  | _ :: _, [] => rfl
  | v :: vs, d :: ds => by
    rw [List.zipWith_cons_cons, List.filterMap_cons]
    exact own_vals vs ds
theorem own_uns : ∀ m : Nat, (List.replicate m Sl.un).filterMap ownA = []
  | 0 => rfl
  | m + 1 => by
    rw [List.replicate_succ, List.filterMap_cons]
    exact own_uns m
/-- the slots at a def's entry: the parameters' data, then nothing -/
def entry (N : List Str) (vs : List V) (ds : List D) : Env' := List.zipWith Sl.val vs ds ++ List.replicate (N.length - vs.length) Sl.un
theorem good_start {G H : Hp} (e : Ex G H) {vs : List V} {ds : List D} (h : DatL K G vs ds) (N : List Str) : Good K ⟨G, H, none⟩ (start N vs) (entry N vs ds) G H :=
  ⟨.refl _, fun _ _ _ e => e, e, fun _ h _ => h, (fun _ h => by cases h), (SlsOk.vals h).app (.uns _), by
    unfold entry
    rw [List.filterMap_append, own_vals, own_uns]
    exact List.nodup_nil⟩
end
end DL

set_option Elab.async false
set_option linter.all false
set_option maxRecDepth 100000
set_option maxHeartbeats 2000000
namespace DL
open PySem PySem.Spec PyProof.Rows L2

/-! ### an error class of the program: directly below SemigroupError, which is a ValueError -/
/-- what the written part says of SemigroupError -/
structure SemC (K : PySem.W.Frag) (mg : Str → Option Value) (C0 : Addr) : Prop where
  gC : mg "SemigroupError" = some (.ref C0)
  sp : PySem.W.specialIn K (.ref C0) "__getattribute__" = some (some (.builtin "type.__getattribute__"))
  rd : PySem.W.readsIn K C0 (.type "type") = true
  fi : PySem.W.findCls K (.ref C0) (.type "type") "__init__" = some (.val (.builtin "ValueError.__init__"))
  exC : PySem.W.subIn K (.ref C0) (.type "BaseException") = some true
  tyC : PySem.W.typeIn K (.ref C0) = some (.type "type")
  ic : PySem.W.isClsIn K C0 = true
/-- .. of a class x with one field f, set by its __init__ at fI -/
structure ErrC (K : PySem.W.Frag) (mg : Str → Option Value) (x f : Str) (C fI : Addr) : Prop where
  gC : mg x = some (.ref C)
  oe : OexC K C
  iC : PySem.W.findIn K (.ref C) "__init__" = some (some (.ref fI))
  tI : PySem.W.typeIn K (.ref fI) = some (.type "function")
  xf : XfC K C
  nf : PySem.W.findIn K (.ref C) f = some none
  ic : PySem.W.isClsIn K C = true
  ha : PySem.W.findIn K (.ref C) "__class__" = some (some (.builtin "object.__class__"))
  hn : PySem.W.specialIn K (.builtin "object.__class__") "__get__" = some (some (.builtin "getset_descriptor.__get__"))
  ht : PySem.W.takesIn K (.builtin "object.__class__") = some true
  hm : PySem.W.mroIn K C (.type "object") = some true
section
variable {X : Cx} {o e : Expr} {es : List Expr} {to te : TE} {ta : TA} {f : Str} {p p' p1 p2 pos : Pos}
theorem pe_seinit {pl : Sem Bool} {C0 : Addr} (S : SemC X.K X.mg C0) (hg : Gl X "SemigroupError") (ha : PA X (e :: es) ta)
    (hc : eval (.Call (.Attribute (.Name "SemigroupError" p1) "__init__" p2) (e :: es) [] pos) X.env = (do
      let ov ← eval (.Name "SemigroupError" p1) X.env
      standAt p2.atName
      let (f, first) ← holding [ov] (getMethod ov "__init__" pl)
      callWith pos f first (backTo pos (starEach (e :: es) X.env)) (backToKw pos (keywordEach [] X.env))) := by rfl)
    (he : starEach (e :: es) X.env = (false, eval e X.env) :: starEach es X.env := by rfl) (hpl : (backTo pos (starEach es X.env)).any (·.1) = false := by rfl) :
    PE X (.Call (.Attribute (.Name "SemigroupError" p1) "__init__" p2) (e :: es) [] pos) (tVeI X.K ta) := by
  refine ⟨fun pins s σ H Q I h => ?_⟩
  refine PySem.W.methodCall_KW (ld_glob I hg S.gC ?_ (by decide)) hc
  refine PySem.W.method_cls I.kIn S.sp (PySem.W.cls_value I.kIn S.rd S.fi (by decide +kernel) ?_)
  show wpAny _ _ (callWith pos (Value.builtin "ValueError.__init__") [] (backTo pos (starEach (e :: es) X.env)) []) _ _ _
  refine PyProof.Rows.callWith_method1 (thn (ha.run pos pins _ σ H _ (I.tok _) h) fun us s1 ⟨vs, H1, I1, r1, a, C, ws, ev, hl, T, ea, q⟩ => ?_) he hpl
  subst ev
  cases r1 with
  | @cons _ u0 _ ur ra rw' =>
    obtain rfl : u0 = Value.ref a := ra
    have hlen : ur.length ≤ sizeLine := by
      rw [← Paired.length rw', sizeLine_eq]
      omega
    exact oinit_ok T I1 ea hlen fun s' J => ⟨.non, H1, J, rfl, q⟩
end
/-- what __init__ of such a class does -/
def spErr (K : PySem.W.Frag) (f : Str) : Sp := fun vs H Q _ => ∃ (a C : Addr) (v : V), vs = [.ref a, v] ∧ OexC K C ∧ PySem.W.findIn K (.ref C) f = some none ∧ H a = some (exo a C none) ∧
  ∀ dx, H dx = none → dx ≠ a → Q .non (upd (upd H dx (exd dx [(f, v)])) a (exo a C (some dx)))
section
variable {K : PySem.W.Frag} {β : Bas} {env : Env'} {ta tb te tc : TE} {tt tu : TT} {x y z d : D} {v w : V} {P : Post} {W : WX} {ts tr : TS} {C : Addr} {f : Str}
/-- raise X(e) -/
theorem ex_raise {ta : TA} (he : EVAv K β ta env [v] [d]) (T : OexC K C) (nf : PySem.W.findIn K (.ref C) f = some none) (h : P.ex (.ref C) f v env) :
    EX K β W (fun _ σ H => tMkO C (spErr K f) [] ta σ H fun cls dd H' => W cls dd σ H') env P := fun σ G H g Dn c x =>
  he σ G H g _ fun G1 H1 t1 d1 => ⟨by show 1 ≤ 1000; decide, fun a ha => ⟨a, C, v, rfl, T, nf, upd_same, fun dx h1 h2 => by
    rw [upd_ne h2] at h1
    have e2 : ∀ b, b ≠ a → b ≠ dx → (upd (upd (upd H1 a (exo a C none)) dx (exd dx [(f, v)])) a (exo a C (some dx))) b = H1 b := fun b hb hd => by rw [upd_ne hb, upd_ne hd, upd_ne hb]
    refine ⟨rfl, dx, [(f, v)], upd_same, by rw [upd_ne h2, upd_same], h1, ?_⟩
    have g1 : G1 dx = none := t1.gh.back h1
    have eq : upd (del (upd (upd (upd H1 a (exo a C none)) dx (exd dx [(f, v)])) a (exo a C (some dx))) a) dx (.xd [(f, v)]) = upd H1 dx (.xd [(f, v)]) := by
      funext b
      by_cases hd : b = dx
      · subst hd; rw [upd_same, upd_same]
      · rw [upd_ne hd, upd_ne hd]
        by_cases hb : b = a
        · subst hb; rw [del_same, ha]
        · rw [del_ne hb, e2 b hb hd]
    rw [eq]
    exact x σ env G1 _ (.ref C) f v dx ((g.up t1).up ((Stp.refl t1.gh).side h1 g1)) t1.gg upd_same g1 h⟩⟩
/-! ### promises of defs that may raise -/
variable (K) in
/-- data by data, or an error of the class C with the field f that is the value v -/
def spX (R : List D → D → Prop) (E' : List V → List D → Value → Str → V → Prop) : Sp := fun vs H Q E => ∃ G ds, Ex G H ∧ DatL K G vs ds ∧
  ((∃ d, R ds d ∧ ∀ v G' H', Stp G H G' H' → Dat K G' v d → Q v H') ∨ (∃ cls f v, E' vs ds cls f v ∧ ∀ G' H' dx, Stp G H G' H' → H' dx = some (.xd [(f, v)]) → G' dx = none → E cls (some dx) H'))
/-- a call, on the way on which it hands back -/
theorem ev_callX {R : List D → D → Prop} {E' : List V → List D → Value → Str → V → Prop} {ta : TA} {ds : List D} {E : Sg → XK} (he : EVA K β ta env ds) (h : R ds d) : EV K β (tCallS (spX K R E') E ta) env d := fun σ G H g Q q =>
  he σ G H g _ fun vs G1 H1 t1 d1 => ⟨G1, ds, t1.gh, d1, .inl ⟨d, h, fun v G2 H2 t2 d2 => q v G2 H2 (t1.trans t2) d2⟩⟩
/-- .. on the way on which it raises: whatever the statement does with its value is never reached -/
def Raises' (K : PySem.W.Frag) (β : Bas) (W : WX) (te : TE) (env : Env') (cls : Value) (f : Str) (v : V) : Prop :=
  ∀ σ G H, Good K β σ env G H → ∀ Q : VK, (∀ G' H' dx, Stp G H G' H' → H' dx = some (.xd [(f, v)]) → G' dx = none → W cls (some dx) σ H') → te σ H Q
theorem rs_call {R : List D → D → Prop} {E' : List V → List D → Value → Str → V → Prop} {ta : TA} {ds : List D} {vs : List V} {cls : Value} (he : EVAv K β ta env vs ds) (h : E' vs ds cls f v) : Raises' K β W (tCallS (spX K R E') (WE W) ta) env cls f v := fun σ G H g Q q =>
  he σ G H g _ fun G1 H1 t1 d1 => ⟨G1, ds, t1.gh, d1, .inr ⟨cls, f, v, h, fun G2 H2 dx t2 => q G2 H2 dx (t1.trans t2)⟩⟩
theorem ex_rs {cls : Value} (h : Raises' K β W te env cls f v) (hp : P.ex cls f v env) {k : Ends → Sg → VK} : EX K β W (fun D σ H => te σ H (k D σ)) env P := fun σ G H g Dn c x =>
  h σ G H g _ fun G1 H1 dx t1 e1 e2 => x σ env G1 H1 cls f v dx (g.up t1) t1.gg e1 e2 hp
theorem ex_rsDrop {cls : Value} (h : Raises' K β W te env cls f v) (hp : P.ex cls f v env) : EX K β W (tSeq (tDrop te) tr) env P :=
  ex_seq (N := fun _ => False) (show EX K β W (fun D σ H => te σ H (fun _ H' => D.nx σ H')) env { P with nx := fun _ => False } from ex_rs (P := { P with nx := fun _ => False }) (k := fun D σ _ H' => D.nx σ H') h hp) fun _ n => n.elim
theorem ex_rsRet {cls : Value} (h : Raises' K β W te env cls f v) (hp : P.ex cls f v env) : EX K β W (tRet te) env P := ex_rs (k := fun D _ => D.rt) h hp
/-- a def's end, where it may raise -/
theorem EX.finX {G H : Hp} {Q : VK} {E : XK} {t : TS} {σ : Sg} (g : Good K ⟨G, H, none⟩ σ env G H)
    (q : (∃ d, (∀ v G' H', Stp G H G' H' → Dat K G' v d → Q v H') ∧ EX K ⟨G, H, none⟩ (fun cls d _ H => E cls d H) t env { rt := fun _ d' _ => d' = d, nx := fun _ => d = .non }) ∨
      (∃ cls f v, (∀ G' H' dx, Stp G H G' H' → H' dx = some (.xd [(f, v)]) → G' dx = none → E cls (some dx) H') ∧ EX K ⟨G, H, none⟩ (fun cls d _ H => E cls d H) t env { ex := fun c f' v' _ => c = cls ∧ f' = f ∧ v' = v })) :
    t { nx := fun _ H' => Q .non H', rt := Q } σ H := by
  have st : ∀ {σ' env' G' H'}, Good K ⟨G, H, none⟩ σ' env' G' H' → Stp G H G' H' := fun g' => ⟨g'.gg, fun a o e => g'.hh a o (fun z => nomatch z) e, g'.gh, g'.ow⟩
  rcases q with ⟨d, q, h⟩ | ⟨cls, f, v, q, h⟩
  · exact h σ G H g _ ⟨fun σ' env' G' H' g' e n => q _ G' H' (st g') (n ▸ .non), fun σ' env' G' H' v d' g' e dv n => q v G' H' (st g') (n ▸ dv), fun _ _ _ _ _ _ n => False.elim n, fun _ _ _ _ _ _ n => False.elim n⟩ fun _ _ _ _ _ _ _ _ _ _ _ _ n => False.elim n
  · refine h σ G H g _ ⟨fun _ _ _ _ _ _ n => False.elim n, fun _ _ _ _ _ _ _ _ _ n => False.elim n, fun _ _ _ _ _ _ n => False.elim n, fun _ _ _ _ _ _ n => False.elim n⟩ fun σ' env' G' H' c f' v' dx g' e e1 e2 n => ?_
    obtain ⟨rfl, rfl, rfl⟩ := n
    exact q G' H' dx (st g') e1 e2
end
/-! ### several except clauses, with names or without -/
/-- what the clauses wish: (class, the slot of the name if there is one, the suite) -/
def wManyA (K : PySem.W.Frag) (Wout : WX) (D : Ends) : List (Value × Option Nat × (Addr → Value → Option Addr → TS)) → WX
  | [] => Wout
  | (c, none, ts) :: r => fun cls d σ H => ∃ b, PySem.W.exmOne K cls c = some b ∧ (b = true → ∀ a, H a = none → ts a cls d D σ H) ∧ (b = false → wManyA K Wout D r cls d σ H)
  | (c, some i, ts) :: r => fun cls d σ H => ∃ b, PySem.W.exmOne K cls c = some b ∧
      (b = true → ∀ a, H a = none → ts a cls d { nx := fun σ' H' => D.nx (σ'.set i none) H', rt := D.rt, bk := fun σ' H' => D.bk (σ'.set i none) H', ct := fun σ' H' => D.ct (σ'.set i none) H' } (σ.set i (some (.ref a))) H) ∧ (b = false → wManyA K Wout D r cls d σ H)
inductive HdsA (X : Cx) : List ExceptHandler → List (Value × Option Nat × (Addr → Value → Option Addr → TS)) → Prop
  | nil : HdsA X [] []
  | cons {x : Str} {c : Value} {ts : Addr → Value → Option Addr → TS} {b₀ : Stmt} {suite : List Stmt} {np pos' : Pos} {hds : List ExceptHandler} {l} (hc : Names X x c)
      (hsu : ∀ (a : Addr) (oe : Obj) (cls : Value) (d : Option Addr) (pn : List (Addr × Obj)), Zc cls d oe → (∃ vs, oe.data = .fields vs) → PSs (X.suite a ((a, oe) :: pn)) (b₀ :: suite) (ts a cls d)) (r : HdsA X hds l) :
      HdsA X (.ExceptHandler (some (.Name x np)) none (b₀ :: suite) pos' :: hds) ((c, none, ts) :: l)
  | consA {x n : Str} {i : Nat} {c : Value} {ts : Addr → Value → Option Addr → TS} {b₀ : Stmt} {suite : List Stmt} {np pos' : Pos} {hds : List ExceptHandler} {l} (hc : Names X x c) (hN : X.N.Nodup) (hi : X.N[i]? = some n) (hln : X.env.kindOf n = some .local)
      (hsu : ∀ (a : Addr) (oe : Obj) (cls : Value) (d : Option Addr) (pn : List (Addr × Obj)), Zc cls d oe → (∃ vs, oe.data = .fields vs) → PSs (X.suite a ((a, oe) :: pn)) (b₀ :: suite) (ts a cls d)) (r : HdsA X hds l) :
      HdsA X (.ExceptHandler (some (.Name x np)) (some n) (b₀ :: suite) pos' :: hds) ((c, some i, ts) :: l)
section
variable {X : Cx} {body : List Stmt} {h₀ : ExceptHandler} {hds : List ExceptHandler} {l : List (Value × Option Nat × (Addr → Value → Option Addr → TS))} {pos : Pos} {tb : WX → TS} {Wout : WX}
theorem ps_try_manyA (hs : X.stack = X.env :: X.outer) (hf : X.env.frame = some X.env.locals) (tk : Takes X Wout)
    (hb : ∀ (W : WX) (pn : List (Addr × Obj)) (xe : Value → Shared → Prop), Takes (X.tr pn xe) W → PassesOwn (model X.prog X.w) X.A X.env xe → PSs (X.tr pn xe) body (tb W))
    (hh : HdsA X (h₀ :: hds) l) : PS X (.Try body (h₀ :: hds) [] [] pos) (fun D σ H => tb (wManyA X.K Wout D l) D σ H) := by
  refine ⟨fun pins s σ H D I h => ?_⟩
  have ok := I.ok
  have hfr : X.A.frames = some (X.env :: X.outer) := by rw [ok.frames, hs]
  refine wpAny_Try_except ?_
  refine wpAny_mono ((hb (wManyA X.K Wout D l) (X.pn ++ pins) (fun e s₁ => wpAny (model X.prog X.w) X.A (noteFrame e X.env) (fun _ s₂ => wpAny (model X.prog X.w) X.A (setFlight e none) (fun _ s₃ =>
    wpAny (model X.prog X.w) X.A (handleBy e X.env (h₀ :: hds)) (SP X pins D) X.xe s₃) X.xe s₂) X.xe s₁) (fun u s' xx => ?_) PassesOwn.looking).run [] s σ H D (I.toTry _) h) (fun f s1 hsp => ?_) (fun e s1 he => he)
  · obtain ⟨a, B, sI, pins', σ', H', cls, d, rfl, J', nb, up, sky, na, os, ag, w⟩ := xx
    have J : Inv X pins σ' H' sI := J'.ofTry ok
    have sky' : Sky B (X.env :: X.outer) a (Zc cls d) X.env.locals s'.heap := by rw [← hs]; exact sky
    show wpAny (model X.prog X.w) X.A (noteFrame (.ref a) X.env) _ _ _
    refine Sky.land Zc.steady hfr hf sky' fun h3 fl3 up3 => ?_
    have J3 : Inv X pins σ' H' { s' with heap := h3 } := J.landed nb fl3.1 (up.trans up3) os ag
    obtain ⟨oe3, vs3, he3, hz3, hd3⟩ := fl3.there
    have notFr : ∀ {h : Heap} {o : Obj} {vs : Array Value}, h.FunFrames B (X.env :: X.outer) → h.get? a = some o → o.data = .fields vs → a ∉ frs (X.env :: X.outer) := fun {h o vs} ff e dd hm => by
      obtain ⟨_, o', e', hnf⟩ := ff.mem hm
      rw [e] at e'; cases e'
      exact hnf _ dd
    have nfr := notFr fl3.2.2.1 he3 hd3
    have nL : a ≠ X.env.locals := fun z => nfr (List.mem_filterMap.mpr ⟨X.env, List.mem_cons_self, by rw [hf, z]⟩)
    have nF : a ∉ X.fs := fun hm => by
      obtain ⟨e, he, q⟩ := List.mem_filterMap.mp hm
      exact nfr (List.mem_filterMap.mpr ⟨e, List.mem_cons_of_mem _ he, q⟩)
    have S3 := J3.suite he3 hd3 na nL nF
    have LT : PySem.W.Looks (model X.prog X.w) h3 (typeOf (.ref a)) cls := fun A Q E s k q => wpAny_typeOf_ref (k _ _ he3) (by rw [hz3.1]; exact q)
    have test : ∀ {x : Str} {c : Value} {np : Pos} {Q : Value → Shared → Prop} {E : Value → Shared → Prop}, Names X x c → Q c { s' with heap := h3 } → wpAny (model X.prog X.w) (X.A.mark (some (.ref a))) (eval (.Name x np) X.env) Q E { s' with heap := h3 } := fun {x c np Q E} hc q => by
      obtain ⟨hg, hdbg, hm | ⟨hm, hv, hnn⟩⟩ := hc
      · exact ld_glob (X := X.suite a ((a, oe3) :: (X.pn ++ pins))) S3 hg hm q hdbg
      · exact ld_blt (X := X.suite a ((a, oe3) :: (X.pn ++ pins))) S3 hg hm hv q hnn hdbg
    have go : ∀ {hds' : List ExceptHandler} {l'}, HdsA X hds' l' → wManyA X.K Wout D l' cls d σ' H' →
        wpAny (model X.prog X.w) X.A (handleBy (.ref a) X.env hds') (SP X pins D) X.xe { s' with heap := h3 } := by
      intro hds' l' hk
      induction hk with
      | nil =>
        intro w
        refine wpAny_handleBy_nil ?_
        obtain ⟨k1, k2, k3, oe, vs, T, oT, ts', he, hz, hd, h1, hr⟩ := id fl3
        unfold PySem.passOn
        refine wpAny_bind (wpAny_field he hd h1 ?_)
        rw [if_neg (show ¬ ((Value.ref T == Value.none) = true) from by simp)]
        have fin : wpAny (model X.prog X.w) X.A (setFlight (.ref a) X.env.frame) (fun _ s4 => wpAny (model X.prog X.w) X.A (throw (.ref a) : Sem Flow) (SP X pins D) X.xe s4) X.xe { s' with heap := h3 } := by
          rw [hf]
          refine HandSPX.setFlight_upZ fl3 fun h4 hh4 up4 => wpAny_throw (tk _ _ ?_)
          exact ⟨a, B, sI, pins, σ', H', cls, d, rfl, J, nb, (up.trans up3).trans up4, .inr (.inr (by rw [hs]; exact hh4)), na, os, ag, w⟩
        first
          | exact wpAny_bind (wpAny_pure (wpAny_bind fin))
          | exact wpAny_bind fin
      | @cons x c ts b₀ suite np pos' hds2 l2 hc hsu r ih =>
        intro w
        obtain ⟨b, hb1, hyes, hno⟩ := w
        refine wpAny_handleBy_cons (codeAny_handlers_test ?_) (by intro q; cases q)
        have LM := PySem.W.exm_one (M := model X.prog X.w) (J3.kIn) LT hb1
        refine test hc (LM.here ?_)
        cases b with
        | true =>
          refine codeAny_handlers_suite ?_
          refine HandSPX.lands_againZ fl3 fun h4 fl4 up4 => ?_
          have J4 : Inv X pins σ' H' { s' with heap := h4 } := J.landed nb fl4.1 ((up.trans up3).trans up4) os ag
          obtain ⟨oe4, vs4, he4, hz4, hd4⟩ := fl4.there
          have S4 := J4.suite he4 hd4 na nL nF
          refine wpAny_mono ((hsu a oe4 cls d (X.pn ++ pins) hz4 ⟨_, hd4⟩).run [] _ _ H' _ S4 (hyes rfl a na)) (fun f s6 hsp => ?_) (fun _ _ z => False.elim z)
          cases f with
          | next =>
            obtain ⟨σ6, H6, S6, q6⟩ := hsp
            exact ⟨_, _, S6.unsuite ok, q6⟩
          | brk =>
            obtain ⟨σ6, H6, S6, q6⟩ := hsp
            exact ⟨_, _, S6.unsuite ok, q6⟩
          | cont =>
            obtain ⟨σ6, H6, S6, q6⟩ := hsp
            exact ⟨_, _, S6.unsuite ok, q6⟩
          | ret u =>
            obtain ⟨v6, σ6, H6, S6, r6, q6⟩ := hsp
            exact ⟨_, _, _, S6.unsuite ok, r6, q6⟩
        | false =>
          show wpAny _ X.A (handleBy (.ref a) X.env hds2) _ _ _
          exact ih (hno rfl)
      | @consA x n i c ts b₀ suite np pos' hds2 l2 hc hN hi hln hsu r ih =>
        intro w
        obtain ⟨b, hb1, hyes, hno⟩ := w
        have hloc : Loc X.env.scope n := .inl hln
        refine wpAny_handleBy_cons (codeAny_handlers_test ?_) (by intro q; cases q)
        have LM := PySem.W.exm_one (M := model X.prog X.w) (J3.kIn) LT hb1
        refine test hc (LM.here ?_)
        cases b with
        | true =>
          refine codeAny_handlers_suite_as ?_
          refine HandSPX.lands_againZ fl3 fun h4 fl4 up4 => ?_
          have J4 : Inv X pins σ' H' { s' with heap := h4 } := J.landed nb fl4.1 ((up.trans up3).trans up4) os ag
          obtain ⟨oe4, vs4, he4, hz4, hd4⟩ := fl4.there
          have S4 := J4.suite he4 hd4 na nL nF
          refine store_ok (X := X.suite a ((a, oe4) :: (X.pn ++ pins))) (v := .ref a) S4 hN hi hloc rfl (fun s5 S5 => ?_) (.inr hln)
          refine wpAny_mono ((hsu a oe4 cls d (X.pn ++ pins) hz4 ⟨_, hd4⟩).run [] s5 _ H' _ S5 (hyes rfl a na)) (fun f s6 hsp => ?_) (fun _ _ z => False.elim z)
          have end_ : ∀ {σ6 : Sg} {H6 : Hp} {Q : Shared → Prop}, Inv (X.suite a ((a, oe4) :: (X.pn ++ pins))) [] σ6 H6 s6 → (∀ s7, Inv X pins (σ6.set i none) H6 s7 → Q s7) →
              wpAny (model X.prog X.w) X.A (do bindName X.env n .none; unbindBehindTheSuite X.env n pos') (fun _ s7 => Q s7) X.xe s6 := fun {σ6 H6 Q} S6 hq => gone_ok (S6.unsuite ok) hN hi hln hq
          cases f with
          | next =>
            obtain ⟨σ6, H6, S6, q6⟩ := hsp
            exact end_ S6 fun s7 J7 => ⟨_, _, J7, q6⟩
          | brk =>
            obtain ⟨σ6, H6, S6, q6⟩ := hsp
            exact end_ S6 fun s7 J7 => ⟨_, _, J7, q6⟩
          | cont =>
            obtain ⟨σ6, H6, S6, q6⟩ := hsp
            exact end_ S6 fun s7 J7 => ⟨_, _, J7, q6⟩
          | ret u =>
            obtain ⟨v6, σ6, H6, S6, r6, q6⟩ := hsp
            exact end_ S6 fun s7 J7 => ⟨_, _, _, J7, r6, q6⟩
        | false =>
          show wpAny _ X.A (handleBy (.ref a) X.env hds2) _ _ _
          exact ih (hno rfl)
    exact go hh w
  · cases f with
    | next =>
      obtain ⟨σ', H', J', q⟩ := hsp
      exact wpAny_execs_nil ⟨σ', H', J'.ofTry ok, q⟩
    | brk =>
      obtain ⟨σ', H', J', q⟩ := hsp
      exact ⟨σ', H', J'.ofTry ok, q⟩
    | cont =>
      obtain ⟨σ', H', J', q⟩ := hsp
      exact ⟨σ', H', J'.ofTry ok, q⟩
    | ret u =>
      obtain ⟨v, σ', H', J', r, q⟩ := hsp
      exact ⟨v, σ', H', J'.ofTry ok, r, q⟩
/-- isinstance(e, c), e the caught error of the class D with its dict -/
def rIsX (K : PySem.W.Frag) (D a : Addr) (d : Option Addr) : List V → Hp → VK → Prop := fun xs H Q => ∃ (c : V) (cv : Value) (b : Bool) (dd : Addr) (fs : List (Str × V)), xs = [.ref a, c] ∧ (∀ u, RelV c u → u = cv) ∧ d = some dd ∧ H dd = some (.xd fs) ∧ PySem.W.kitOne K (.ref D) cv = some b ∧ Q (.bl b) H
theorem call_isX {a D : Addr} {d : Option Addr} {oe : Obj} {mg : Str → Option Value} {x f : Str} {fI : Addr} {cls : Value} {pn : List (Addr × Obj)} (C : ErrC X.K mg x f D fI) (hz : Zc cls d oe) (hf : ∃ vs, oe.data = .fields vs) :
    CallR (X.suite a ((a, oe) :: pn)) (.builtin "isinstance") (fun xs H Q => cls = .ref D ∧ rIsX X.K D a d xs H Q) := by
  intro pins s σ H xs us Q I r h
  obtain ⟨rfl, c, cv, b, dd, fs, rfl, hcv, rfl, hxd, e, q⟩ := h
  cases r with
  | cons rx rr =>
    cases rr with
    | cons rt rr =>
      cases rr
      cases rx
      have ec := hcv _ rt
      subst ec
      obtain ⟨hget, _⟩ := I.pin (a, oe) (List.mem_append.mpr (.inl List.mem_cons_self))
      obtain ⟨vs, hv⟩ := hf
      have hx : ObjOk X.prog X.w H s.heap dd (.xd fs) := I.hok dd _ hxd
      obtain ⟨mA, ⟨od, es, ep, ho, hr⟩, _⟩ := hx
      have J : PySem.W.InstAt s.heap a oe D (some od) := ⟨hget, hz.1, by unfold PySem.W.notCls; rw [hv] <;> rfl, by rw [hz.2]; exact ho⟩
      have hcl : (PySem.W.clsIn X.K D).isSome = true := C.ic
      exact PySem.W.kia_one (PySem.W.kitx_exc (od := some od) hcl C.xf.ga C.xf.gg C.xf.exC C.ha C.hn C.ht C.hm) I.kIn J e (fun z => nomatch z) fun tk => ⟨.bl b, H, I.kept (t' := tk) fun _ _ z => z, rfl, q⟩
end
end DL

set_option Elab.async false
set_option linter.all false
set_option maxRecDepth 100000
set_option maxHeartbeats 2000000
namespace DL
open PySem PySem.Spec PyProof.Rows L2

/-! ### calls by keywords alone -/
def tCallK0 (sp : Sp) (gV : List V → List V → List V) (E : Sg → XK) (tk : TA) : TE := fun σ H Q => tk σ H fun zs H2 => sp (gV [] zs) H2 Q (E σ)
section
variable {X : Cx} {CX : CXT} {k n : Nat} {f C : Addr} {fd : FuncData} {ps ks : List Str} {sp : Sp} {E : XK} {ES : Sg → XK} {x : Str} {p pos : Pos} {kws : List Keyword} {t tk : TA} {g : List Value → List Value → List Value} {gV : List V → List V → List V}
theorem pe_callK0 (F : FnOk X.prog X.w X.K X.mg X.base CX k f fd ps sp) (hr : Room k X.A) (hg : Gl X x) (hm : X.mg x = some (.ref f)) (hk : PySem.W.keepIn X.K (.ref f) = true) (hb : KBinds X.K fd ps ks g gV) (hx : Passes CX X E)
    (hkw : PK X kws tk) (hall : (backToKw pos (keywordEach kws X.env)).all (·.1.isSome) = true := by rfl) (hks : (backToKw pos (keywordEach kws X.env)).filterMap (·.1) = ks := by rfl)
    (hdb : (x == ("__debug__" : Str)) = false := by decide) (hpl : ((backTo pos (starEach [] X.env)).any (·.1) || (backToKw pos (keywordEach kws X.env)).any (·.1.isNone)) = false := by rfl) :
    PE X (.Call (.Name x p) [] kws pos) (tCallK0 sp gV (fun _ => E) tk) := by
  refine ⟨fun pins s σ H Q I h => ?_⟩
  refine wpAny_Call_Name_kw (ld_glob I hg hm ?_ hdb)
  refine PySem.W.callWith_KW0 (h₀ := X.base) I.ok.mod.kin hk hall ?_ hpl
  refine thn (hkw.run pos pins s σ H _ I h) fun ws s2 ⟨zs, H2, I2, rz, q2⟩ => ⟨I2.kIn, ?_⟩
  rw [hks]
  exact run_fnk F hr hb hx I2 .nil rz q2
theorem run_fnkS {pins : List (Addr × Obj)} {σ : Sg} {H : Hp} {s : Shared} {Q : VK} {us ws : List Value} {vs zs : List V} (F : FnOk X.prog X.w X.K X.mg X.base CX k f fd ps sp) (hr : Room k X.A) (hb : KBinds X.K fd ps ks g gV) (hx : PassesAt CX X σ (ES σ))
    (I : Inv X pins σ H s) (r : Vals vs us) (rz : Vals zs ws) (h : sp (gV vs zs) H Q (ES σ)) : wpAny (model X.prog X.w) X.A (call (.ref f) us (ks.zip ws)) (EP X pins σ Q) X.xe s := by
  have r2 := hb.rel r rz
  have hl : (g us ws).length = ps.length := by rw [← r2.length]; exact F.len _ _ _ _ h
  refine wpAny_call (codeAny_mono (F.run X.A X.stack s H ⟨us, ks.zip ws⟩ (g us ws) (gV vs zs) Q (ES σ) hr I.env0 (hb.to s us ws I.kIn hl) r2 h) fun r s' hq => ?_)
  cases r with
  | error e => exact hx pins H s e s' I hq
  | ok fl =>
    cases fl with
    | ret u => exact I.after hq
    | next => exact False.elim hq
    | brk => exact False.elim hq
    | cont => exact False.elim hq
theorem pe_callK0S (F : FnOk X.prog X.w X.K X.mg X.base CX k f fd ps sp) (hr : Room k X.A) (hg : Gl X x) (hm : X.mg x = some (.ref f)) (hk : PySem.W.keepIn X.K (.ref f) = true) (hb : KBinds X.K fd ps ks g gV) (hx : ∀ σ, PassesAt CX X σ (ES σ))
    (hkw : PK X kws tk) (hall : (backToKw pos (keywordEach kws X.env)).all (·.1.isSome) = true := by rfl) (hks : (backToKw pos (keywordEach kws X.env)).filterMap (·.1) = ks := by rfl)
    (hdb : (x == ("__debug__" : Str)) = false := by decide) (hpl : ((backTo pos (starEach [] X.env)).any (·.1) || (backToKw pos (keywordEach kws X.env)).any (·.1.isNone)) = false := by rfl) :
    PE X (.Call (.Name x p) [] kws pos) (tCallK0 sp gV ES tk) := by
  refine ⟨fun pins s σ H Q I h => ?_⟩
  refine wpAny_Call_Name_kw (ld_glob I hg hm ?_ hdb)
  refine PySem.W.callWith_KW0 (h₀ := X.base) I.ok.mod.kin hk hall ?_ hpl
  refine thn (hkw.run pos pins s σ H _ I h) fun ws s2 ⟨zs, H2, I2, rz, q2⟩ => ⟨I2.kIn, ?_⟩
  rw [hks]
  exact run_fnkS F hr hb (hx σ) I2 .nil rz q2
end
theorem fun_kbinds {K : PySem.W.Frag} {x qual : Str} {st : Stmt} {f : Addr} {fd : FuncData} {ps ks : List Str} {g : List Value → List Value → List Value} {gV : List V → List V → List V} (F : Fun K x qual st f fd)
    (h : ∀ (kV doc pm : Value) (an : Option Addr) (cdv ct : Value) (us ws : List Value), (g us ws).length = ps.length → bindArgs (PySem.W.fnOf x qual (defArgs st) (defBody st) (defScope st) .none kV doc pm an cdv ct) ⟨us, ks.zip ws⟩ = pure (ps.zip (g us ws)))
    (hr : ∀ {vs : List V} {us : List Value} {zs : List V} {ws : List Value}, Vals vs us → Vals zs ws → Vals (gV vs zs) (g us ws)) : KBinds K fd ps ks g gV := by
  obtain ⟨oc, od, kV, doc, pm, an, cdv, ct, osl, rfl, lk, hcd⟩ := F.ex
  exact ⟨fun s us ws _ hl => .of_eq (h kV doc pm an cdv ct us ws hl), hr⟩
/-- the error classes' __init__ -/
theorem ok_err0 {P : Program} {w : World} {K : PySem.W.Frag} {mg : Str → Option Value} {base : Heap} {f : Str} {fI : Addr} {fd : FuncData} {q : Str} {st : Stmt} {C0 : Addr} (F : Fun K "__init__" q st fI fd) (S : SemC K mg C0)
    (sc : FnScope ["self", f] ["self", f] (defScope st))
    (tm : ∀ (A : Around) (outer : List Env) (s : Shared) (H : Hp) (E : XK) (cdv : Value), PSs (cxOf CX0 P w K mg base ["self", f] q (defScope st) fI cdv A outer s H E).nox (defBody st) (tSeq (tDrop (tVeI K (tCons (tVar 0) (tCons (tC (.str q)) tNil)))) (tOst K f (tVar 0) (tVar 1)))) :
    True := trivial

/-! ### expressions that may change what is one's own -/
structure StpE (own : List Addr) (G H G' H' : Hp) : Prop where
  gg : Ex G G'
  gh : Ex G' H'
  hh : ∀ a o, a ∉ own → H a = some o → H' a = some o
  ow : ∀ a, G a = none → H a ≠ none → G' a = none
abbrev owns (env : Env') : List Addr := env.filterMap ownA
section
variable (K : PySem.W.Frag) (β : Bas)
def XE (te : TE) (env : Env') (P : V → D → Env' → Prop) : Prop := ∀ σ G H, Good K β σ env G H → ∀ Q : VK, (∀ v d env' G' H', Good K β σ env' G' H' → StpE (owns env) G H G' H' → owns env' = owns env → Dat K G' v d → P v d env' → Q v H') → te σ H Q
def XT (tt : TT) (env : Env') (P : Bool → Env' → Prop) : Prop := ∀ σ G H, Good K β σ env G H → ∀ Q : Bool → Hp → Prop, (∀ b env' G' H', Good K β σ env' G' H' → StpE (owns env) G H G' H' → owns env' = owns env → P b env' → Q b H') → tt σ H Q
def XA (ta : TA) (env : Env') (P : List V → List D → Env' → Prop) : Prop := ∀ σ G H, Good K β σ env G H → ∀ Q : List V → Hp → Prop, (∀ vs ds env' G' H', Good K β σ env' G' H' → StpE (owns env) G H G' H' → owns env' = owns env → DatL K G' vs ds → P vs ds env' → Q vs H') → ta σ H Q
end
section
variable {K : PySem.W.Frag} {β : Bas} {env : Env'} {ta tb te tc : TE} {tt tu : TT} {x y z d : D} {v w : V} {P : V → D → Env' → Prop}
theorem StpE.refl {own : List Addr} {G H : Hp} (h : Ex G H) : StpE own G H G H := ⟨.refl _, h, fun _ _ _ h => h, fun _ h _ => h⟩
theorem StpE.of {own : List Addr} {G H G' H' : Hp} (t : Stp G H G' H') : StpE own G H G' H' := ⟨t.gg, t.gh, fun a o _ h => t.hh a o h, t.ow⟩
theorem StpE.trans {own : List Addr} {G H G1 H1 G2 H2 : Hp} (hn : ∀ a ∈ own, H a ≠ none → H1 a ≠ none) (a : StpE own G H G1 H1) (b : StpE own G1 H1 G2 H2) : StpE own G H G2 H2 :=
  ⟨a.gg.trans b.gg, b.gh, fun x o hx h => b.hh x o hx (a.hh x o hx h), fun x h1 h2 => b.ow x (a.ow x h1 h2) (by
    by_cases hx : x ∈ own
    · exact hn x hx h2
    · cases q : H x with
      | none => exact absurd q h2
      | some o => rw [a.hh x o hx q]; exact (fun e => nomatch e))⟩
/-- what is one's own stands in the heap -/
theorem Good.there {σ : Sg} {G H : Hp} (g : Good K β σ env G H) {a : Addr} (h : a ∈ owns env) : H a ≠ none := by
  obtain ⟨s, hs, e⟩ := List.mem_filterMap.mp h
  obtain ⟨j, hj⟩ := List.mem_iff_getElem?.mp hs
  cases s with
  | un => cases e
  | val v d => cases e
  | own b ds =>
    obtain rfl : b = a := Option.some.inj e
    obtain ⟨_, _, _, ys, h4, _⟩ := g.own hj
    rw [h4]; exact (fun e => nomatch e)
theorem StpE.tr {G H G1 H1 G2 H2 : Hp} {σ : Sg} {env1 : Env'} (g1 : Good K β σ env1 G1 H1) (e : owns env1 = owns env) (a : StpE (owns env) G H G1 H1) (b : StpE (owns env1) G1 H1 G2 H2) : StpE (owns env) G H G2 H2 :=
  StpE.trans (fun x hx _ => g1.there (by rw [e]; exact hx)) a (by rw [← e]; exact b)
theorem EV.xe (h : EV K β te env d) : XE K β te env (fun _ d' env' => d' = d ∧ env' = env) := fun σ G H g Q q => h σ G H g Q fun v G' H' t dv => q v d env G' H' (g.up t) (.of t) rfl dv ⟨rfl, rfl⟩
theorem EVv.xe (h : EVv K β te env v d) : XE K β te env (fun v' d' env' => v' = v ∧ d' = d ∧ env' = env) := fun σ G H g Q q => h σ G H g Q fun G' H' t dv => q v d env G' H' (g.up t) (.of t) rfl dv ⟨rfl, rfl, rfl⟩
theorem EVT.xt {b : Bool} (h : EVT K β tt env b) : XT K β tt env (fun b' env' => b' = b ∧ env' = env) := fun σ G H g Q q => h σ G H g Q fun G' H' t => q b env G' H' (g.up t) (.of t) rfl ⟨rfl, rfl⟩
theorem EVA.xa {ta : TA} {ds : List D} (h : EVA K β ta env ds) : XA K β ta env (fun _ d' env' => d' = ds ∧ env' = env) := fun σ G H g Q q => h σ G H g Q fun v G' H' t dv => q v ds env G' H' (g.up t) (.of t) rfl dv ⟨rfl, rfl⟩
theorem XE.imp {P' : V → D → Env' → Prop} (h : XE K β te env P) (i : ∀ v d e, P v d e → P' v d e) : XE K β te env P' := fun σ G H g Q q => h σ G H g Q fun v d env' G' H' g' t e dv p => q v d env' G' H' g' t e dv (i _ _ _ p)
theorem xe_op {r : R2} {P1 : V → D → Env' → Prop} {P2 : D → V → D → Env' → Prop} (ha : XE K β ta env P1) (hb : ∀ v1 d1 env1, P1 v1 d1 env1 → XE K β tb env1 (P2 d1)) (hr : ∀ v1 d1 env1 v2 d2 env2, P1 v1 d1 env1 → P2 d1 v2 d2 env2 → ∃ z, OpD K r d1 d2 z ∧ ∀ v, P v z env2) : XE K β (tOp r ta tb) env P := fun σ G H g Q q =>
  ha σ G H g _ fun v1 d1 env1 G1 H1 g1 t1 e1 dv1 p1 => hb v1 d1 env1 p1 σ G1 H1 g1 _ fun v2 d2 env2 G2 H2 g2 t2 e2 dv2 p2 => by
    obtain ⟨z, ho, hp⟩ := hr v1 d1 env1 v2 d2 env2 p1 p2
    exact ho G2 H2 v1 v2 g2.gh (dv1.up t2.gg) dv2 Q fun v G3 H3 t3 dz => q v z env2 G3 H3 (g2.up t3) (StpE.tr g2 (e2.trans e1) (StpE.tr g1 e1 t1 t2) (.of t3)) (e2.trans e1) dz (hp v)
theorem xa_nil : XA K β tNil env (fun vs ds env' => vs = [] ∧ ds = [] ∧ env' = env) := fun σ G H g Q q => q [] [] env G H g (.refl g.gh) rfl .nil ⟨rfl, rfl, rfl⟩
theorem xa_cons {tr : TA} {P1 : V → D → Env' → Prop} {P2 : V → D → List V → List D → Env' → Prop} {P3 : List V → List D → Env' → Prop} (ha : XE K β te env P1) (hb : ∀ v1 d1 env1, P1 v1 d1 env1 → XA K β tr env1 (P2 v1 d1))
    (hp : ∀ v1 d1 env1 vs ds env2, P1 v1 d1 env1 → P2 v1 d1 vs ds env2 → P3 (v1 :: vs) (d1 :: ds) env2) : XA K β (tCons te tr) env P3 := fun σ G H g Q q =>
  ha σ G H g _ fun v1 d1 env1 G1 H1 g1 t1 e1 dv1 p1 => hb v1 d1 env1 p1 σ G1 H1 g1 _ fun vs ds env2 G2 H2 g2 t2 e2 dvs p2 => q (v1 :: vs) (d1 :: ds) env2 G2 H2 g2 (StpE.tr g1 e1 t1 t2) (e2.trans e1) (.cons (dv1.up t2.gg) dvs) (hp _ _ _ _ _ _ p1 p2)
theorem xe_lst {ta : TA} {P1 : List V → List D → Env' → Prop} (ha : XA K β ta env P1) (hp : ∀ vs ds env1, P1 vs ds env1 → ds.length ≤ sizeLine ∧ ∀ v, P v (.lst ds) env1) : XE K β (tLst ta) env P := fun σ G H g Q q =>
  ha σ G H g _ fun vs ds env1 G1 H1 g1 t1 e1 dvs p1 => ⟨by rw [dvs.length]; exact (hp _ _ _ p1).1, fun p hp' => q _ _ env1 (upd G1 p (.lst vs)) _ (g1.up (.new g1.gh hp')) (StpE.tr g1 e1 t1 (.of (.new g1.gh hp'))) e1 (.lst upd_same (dvs.up (.new (g1.gh.back hp')))) ((hp _ _ _ p1).2 _)⟩
theorem xe_tup {ta : TA} {P1 : List V → List D → Env' → Prop} (ha : XA K β ta env P1) (hp : ∀ vs ds env1, P1 vs ds env1 → ds.length ≤ sizeLine ∧ ∀ v, P v (.tup ds) env1) : XE K β (tTup ta) env P := fun σ G H g Q q =>
  ha σ G H g _ fun vs ds env1 G1 H1 g1 t1 e1 dvs p1 => ⟨by rw [dvs.length]; exact (hp _ _ _ p1).1, fun p hp' => q _ _ env1 (upd G1 p (.tup vs)) _ (g1.up (.new g1.gh hp')) (StpE.tr g1 e1 t1 (.of (.new g1.gh hp'))) e1 (.tup (.of upd_same) (dvs.up (.new (g1.gh.back hp')))) ((hp _ _ _ p1).2 _)⟩
theorem xt_test {P1 : V → D → Env' → Prop} {P2 : Bool → Env' → Prop} (h : XE K β te env P1) (hp : ∀ v d env1, P1 v d env1 → ∃ b, d = .bl b ∧ P2 b env1) : XT K β (tTest te) env P2 := fun σ G H g Q q =>
  h σ G H g _ fun v d env1 G1 H1 g1 t1 e1 dv p1 => by
    obtain ⟨b, rfl, p⟩ := hp _ _ _ p1
    exact ⟨b, dv.blV, q b env1 G1 H1 g1 t1 e1 p⟩
theorem xt_B {P1 : V → D → Env' → Prop} {P2 : Bool → Env' → Prop} (h : XE K β te env P1) (hp : ∀ v d env1, P1 v d env1 → ∃ b, d = .bl b ∧ P2 b env1) : XT K β (tB te) env P2 := fun σ G H g Q q =>
  h σ G H g _ fun v d env1 G1 H1 g1 t1 e1 dv p1 => by
    obtain ⟨b, rfl, p⟩ := hp _ _ _ p1
    exact ⟨b, dv.blV, q b env1 G1 H1 g1 t1 e1 p⟩
theorem xt_not {P1 P2 : Bool → Env' → Prop} (h : XT K β tt env P1) (hp : ∀ b e, P1 b e → P2 (!b) e) : XT K β (tNot tt) env P2 := fun σ G H g Q q => h σ G H g _ fun b env1 G1 H1 g1 t1 e1 p => q (!b) env1 G1 H1 g1 t1 e1 (hp _ _ p)
theorem xe_if {P1 : Bool → Env' → Prop} (h : XT K β tt env P1) (h1 : ∀ e, P1 true e → XE K β ta e P) (h2 : ∀ e, P1 false e → XE K β tb e P) : XE K β (tIf tt ta tb) env P := fun σ G H g Q q =>
  h σ G H g _ fun b env1 G1 H1 g1 t1 e1 p1 => by
    cases b with
    | true => rw [if_pos rfl]; exact h1 env1 p1 σ G1 H1 g1 Q fun v d env2 G2 H2 g2 t2 e2 => q v d env2 G2 H2 g2 (StpE.tr g1 e1 t1 t2) (e2.trans e1)
    | false => rw [if_neg Bool.false_ne_true]; exact h2 env1 p1 σ G1 H1 g1 Q fun v d env2 G2 H2 g2 t2 e2 => q v d env2 G2 H2 g2 (StpE.tr g1 e1 t1 t2) (e2.trans e1)
theorem xe_call {R : List D → D → Prop} {ta : TA} {E : XK} {P1 : List V → List D → Env' → Prop} (ha : XA K β ta env P1) (hp : ∀ vs ds env1, P1 vs ds env1 → ∃ d, R ds d ∧ ∀ v, P v d env1) : XE K β (tCall (spD K R) [] E ta) env P := fun σ G H g Q q =>
  ha σ G H g _ fun vs ds env1 G1 H1 g1 t1 e1 dvs p1 => by
    obtain ⟨d, hR, hd⟩ := hp _ _ _ p1
    exact ⟨G1, ds, d, g1.gh, by rw [List.append_nil]; exact dvs, hR, fun v G2 H2 t2 dv => q v d env1 G2 H2 (g1.up t2) (StpE.tr g1 e1 t1 (.of t2)) e1 dv (hd v)⟩
theorem xe_then {k : V → Hp → VK → Prop} {P1 : V → D → Env' → Prop} (h : XE K β te env P1) (hp : ∀ v d env1, P1 v d env1 → ∃ z, UnD K k d z ∧ ∀ v, P v z env1) : XE K β (tThen te k) env P := fun σ G H g Q q =>
  h σ G H g _ fun v d env1 G1 H1 g1 t1 e1 dv p1 => by
    obtain ⟨z, hz, hd⟩ := hp _ _ _ p1
    exact hz G1 H1 v g1.gh dv Q fun u G2 H2 t2 dz => q u z env1 G2 H2 (g1.up t2) (StpE.tr g1 e1 t1 (.of t2)) e1 dz (hd u)
theorem xe_cb {r : List V → Hp → VK → Prop} {ta : TA} {P1 : List V → List D → Env' → Prop} (ha : XA K β ta env P1) (hp : ∀ vs ds env1, P1 vs ds env1 → ∃ z, CbD K r ds z ∧ ∀ v, P v z env1) : XE K β (tCB r ta) env P := fun σ G H g Q q =>
  ha σ G H g _ fun vs ds env1 G1 H1 g1 t1 e1 dvs p1 => by
    obtain ⟨z, hz, hd⟩ := hp _ _ _ p1
    exact hz G1 H1 vs g1.gh dvs Q fun u G2 H2 t2 dz => q u z env1 G2 H2 (g1.up t2) (StpE.tr g1 e1 t1 (.of t2)) e1 dz (hd u)
/-! statements over such expressions -/
variable {Po : Post} {W : WX} {ts tr : TS}
theorem ex_asgX {i : Nat} (h : XE K β te env P) (k : ∀ v d e, P v d e → Po.nx (e.set i (.val v d))) : EX K β W (tAsg te (gName i)) env Po := fun σ G H g Dn c x =>
  h σ G H g _ fun v d env1 G1 H1 g1 t1 e1 dv p => c.nx _ _ G1 H1 (g1.set i dv) t1.gg (k _ _ _ p)
theorem ex_letX {i : Nat} (h : XE K β te env P) (k : ∀ v d e, P v d e → EX K β W tr (e.set i (.val v d)) Po) : EX K β W (tSeq (tAsg te (gName i)) tr) env Po :=
  ex_seq (N := fun e' => ∃ v d e, P v d e ∧ e' = e.set i (.val v d)) (ex_asgX h fun v d e p => ⟨v, d, e, p, rfl⟩) fun env' ⟨v, d, e, p, q⟩ => q ▸ k v d e p
theorem ex_retX (h : XE K β te env P) (k : ∀ v d e, P v d e → Po.rt v d e) : EX K β W (tRet te) env Po := fun σ G H g Dn c x =>
  h σ G H g _ fun v d env1 G1 H1 g1 t1 e1 dv p => c.rt _ _ G1 H1 v d g1 t1.gg dv (k _ _ _ p)
theorem ex_dropX (h : XE K β te env P) (k : ∀ v d e, P v d e → Po.nx e) : EX K β W (tDrop te) env Po := fun σ G H g Dn c x =>
  h σ G H g _ fun v d env1 G1 H1 g1 t1 e1 dv p => c.nx _ _ G1 H1 g1 t1.gg (k _ _ _ p)
theorem ex_ifX {P1 : Bool → Env' → Prop} (h : XT K β tt env P1) (h1 : ∀ e, P1 true e → EX K β W ts e Po) (h2 : ∀ e, P1 false e → EX K β W tr e Po) : EX K β W (tIfS tt ts tr) env Po := fun σ G H g Dn c x =>
  h σ G H g _ fun b env1 G1 H1 g1 t1 e1 p => by
    cases b with
    | true => rw [if_pos rfl]; exact h1 env1 p σ G1 H1 g1 Dn (c.up t1.gg) (x.up t1.gg)
    | false => rw [if_neg Bool.false_ne_true]; exact h2 env1 p σ G1 H1 g1 Dn (c.up t1.gg) (x.up t1.gg)
/-- a, b = x, y -/
theorem ex_parX {i j : Nat} {ta : TA} {PA' : List V → List D → Env' → Prop} (h : XA K β ta env PA') (k : ∀ vs ds e, PA' vs ds e → ∃ d1 d2, ds = [d1, d2] ∧ ∀ v1 v2, vs = [v1, v2] → Po.nx ((e.set i (.val v1 d1)).set j (.val v2 d2))) : EX K β W (tPar i j ta) env Po := fun σ G H g Dn c x =>
  h σ G H g _ fun vs ds env1 G1 H1 g1 t1 e1 dvs p => by
    obtain ⟨d1, d2, rfl, hk⟩ := k _ _ _ p
    cases dvs with | cons a t => cases t with | cons b t =>
    cases t
    exact ⟨_, _, rfl, c.nx _ _ G1 H1 ((g1.set i a).set j b) t1.gg (hk _ _ rfl)⟩
/-- xs[k] = e, xs one's own -/
theorem ex_setOwn {i : Nat} {a : Addr} {ds : List D} {kk : Int} {j : Nat} (hi : env[i]? = some (.own a ds)) (he : EV K β te env d) (hk : EV K β tb env (.int kk)) (hj : ixN ds.length kk = some j) (k : Po.nx (env.set i (.own a (ds.set j d)))) :
    EX K β W (tAsg te (gSub (tVar i) tb rSetL)) env Po := fun σ G H g Dn c x =>
  he σ G H g _ fun v G1 H1 t1 dv => by
    obtain ⟨h1, h2, h3, xs, h4, h5⟩ := g.own hi
    refine ⟨.ref a, h1, hk σ G1 H1 (g.up t1) _ fun u G2 H2 t2 du => ?_⟩
    refine ⟨a, xs, kk, j, rfl, du.intV, t2.hh _ _ (t1.hh _ _ h4), by rw [h5.length]; exact hj, ?_⟩
    exact c.nx _ _ G2 _ (((g.up t1).up t2).write hi ((h5.up (t1.gg.trans t2.gg)).set j (dv.up t2.gg))) (t1.gg.trans t2.gg) k
/-! ### a box that is lent -/
/-- the box of draws: how much it holds (a number, whether it is great, its rest, how often it was asked, at most n times) -/
def BoxD (n : Nat) (ds : List D) : Prop := ∃ (g : Int) (f : Bool) (s c : Int), ds = [.int g, .bl f, .int s, .int c] ∧ 0 ≤ g ∧ 0 ≤ s ∧ s < 2147483648 ∧ 0 ≤ c ∧ c ≤ n
theorem BoxD.mono {n m : Nat} {ds : List D} (h : BoxD n ds) (l : n ≤ m) : BoxD m ds := by
  obtain ⟨g, f, s, c, e, h1, h2, h3, h4, h5⟩ := h
  exact ⟨g, f, s, c, e, h1, h2, h3, h4, by omega⟩
variable (K) in
/-- a def whose first argument is a box, which it asks at most k times; R: what is known of the answer's data -/
def spB (k : Nat) (R : List D → (D → Prop) → Prop) : Sp := fun vs H Q _ => ∃ (G : Hp) (b : Addr) (n : Nat) (xs : List V) (bs : List D) (ws : List V) (ds : List D) (Pd : D → Prop),
  vs = .ref b :: ws ∧ G b = none ∧ H b = some (.lst xs) ∧ DatL K G xs bs ∧ BoxD n bs ∧ n + k ≤ 1000000000 ∧ Ex G H ∧ DatL K G ws ds ∧ R ds Pd ∧
  ∀ v d G' H' xs' bs', Pd d → StpE [b] G H G' H' → H' b = some (.lst xs') → G' b = none → DatL K G' xs' bs' → BoxD (n + k) bs' → Dat K G' v d → Q v H'
theorem xe_callB {R : List D → (D → Prop) → Prop} {i k n : Nat} {b : Addr} {bs : List D} {tr : TA} {E : XK} {Pd : D → Prop} {ds : List D} (hi : env[i]? = some (.own b bs)) (hb : BoxD n bs) (hn : n + k ≤ 1000000000) (ha : EVA K β tr env ds) (hR : R ds Pd) :
    XE K β (tCall (spB K k R) [] E (tCons (tVar i) tr)) env (fun _ d e => Pd d ∧ ∃ bs', BoxD (n + k) bs' ∧ e = env.set i (.own b bs')) := fun σ G H g Q q => by
  obtain ⟨h1, h2, h3, xs, h4, h5⟩ := g.own hi
  refine ⟨.ref b, h1, ha σ G H g _ fun ws G1 H1 t1 dws => ?_⟩
  have g1 := g.up t1
  obtain ⟨_, _, h3', ys, h4', h5'⟩ := g1.own hi
  refine ⟨G1, b, n, ys, bs, ws, ds, Pd, by rw [List.append_nil], h3', h4', h5', hb, hn, t1.gh, dws, hR, fun v d G2 H2 xs' bs' pd t2 e1 e2 dx hbx dv => ?_⟩
  have hm : b ∈ owns env := List.mem_filterMap.mpr ⟨_, List.mem_of_getElem? hi, rfl⟩
  -- the step, as a step that leaves the box, then the box's own write
  have t3 : StpE (owns env) G H G2 H2 := ⟨t1.gg.trans t2.gg, t2.gh, fun a o hx h => t2.hh a o (fun z => hx (by rw [List.mem_singleton.mp z]; exact hm)) (t1.hh a o h), fun a h5 h6 => t2.ow a (t1.ow a h5 h6) (by
    cases q' : H a with
    | none => exact absurd q' h6
    | some o => rw [t1.hh a o q']; exact (fun e => nomatch e))⟩
  have g2 : Good K β σ (env.set i (.own b bs')) G2 H2 := by
    have gw := g1.write hi (xs := ys) (ds' := bs) h5'
    refine ⟨g1.gg.trans t2.gg, fun a o h5 h6 => ?_, t2.gh, fun a h5 h6 => t2.ow a (g1.ow a h5 h6) (g1.hn h6), fun a h5 => ?_, ?_, by rw [nd_own hi]; exact g.nd⟩
    · by_cases hab : a = b
      · subst hab
        rcases h2 with z | z
        · rw [z] at h6; cases h6
        · exact absurd z h5
      · exact t2.hh a o (fun z => hab (List.mem_singleton.mp z)) (g1.hh a o h5 h6)
    · by_cases hab : a = b
      · subst hab; rw [e1]; exact (fun e => nomatch e)
      · cases q' : H1 a with
        | none => exact absurd q' (g1.bh a h5)
        | some o => rw [t2.hh a o (fun z => hab (List.mem_singleton.mp z)) q']; exact (fun e => nomatch e)
    · have key : ∀ {σ : Sg} {env : Env'} {i : Nat}, SlsOk K β G1 H1 σ env → env[i]? = some (.own b bs) → (env.filterMap ownA).Nodup → SlsOk K β G2 H2 σ (env.set i (.own b bs')) := by
        have other : ∀ {σ : Sg} {env : Env'}, SlsOk K β G1 H1 σ env → b ∉ env.filterMap ownA → SlsOk K β G2 H2 σ env := by
          intro σ env s
          induction s with
          | nil => intro _; exact .nil
          | @cons o s σ env x r ih =>
            intro m
            rw [List.filterMap_cons] at m
            cases s with
            | un => exact .cons trivial (ih m)
            | val v d => exact .cons ⟨x.1, x.2.up t2.gg⟩ (ih m)
            | own c es =>
              have m' : b ∉ c :: env.filterMap ownA := m
              obtain ⟨y1, y2, y3, zs, y4, y5⟩ := x
              have hne : c ≠ b := fun z => m' (by rw [← z]; exact List.mem_cons_self)
              exact .cons ⟨y1, y2, t2.ow c y3 (by rw [y4]; exact (fun e => nomatch e)), zs, t2.hh c _ (fun z => hne (List.mem_singleton.mp z)) y4, y5.up t2.gg⟩ (ih fun z => m' (List.mem_cons_of_mem _ z))
        intro σ env i s
        induction s generalizing i with
        | nil => intro e; simp at e
        | @cons o s σ env x r ih =>
          intro e nd
          cases i with
          | zero =>
            simp at e
            subst e
            obtain ⟨y1, y2, y3, zs, y4, y5⟩ := x
            exact .cons ⟨y1, y2, e2, xs', e1, dx⟩ (other r (List.nodup_cons.mp (show (b :: env.filterMap ownA).Nodup from nd)).1)
          | succ i =>
            have e' : env[i]? = some (.own b bs) := by simpa using e
            have hm' : b ∈ env.filterMap ownA := List.mem_filterMap.mpr ⟨_, List.mem_of_getElem? e', rfl⟩
            rw [List.filterMap_cons] at nd
            cases s with
            | un => exact .cons trivial (ih e' nd)
            | val v d => exact .cons ⟨x.1, x.2.up t2.gg⟩ (ih e' nd)
            | own c es =>
              have nd' : (c :: env.filterMap ownA).Nodup := nd
              have hne : c ≠ b := fun z => (List.nodup_cons.mp nd').1 (by rw [z]; exact hm')
              obtain ⟨y1, y2, y3, zs, y4, y5⟩ := x
              exact .cons ⟨y1, y2, t2.ow c y3 (by rw [y4]; exact (fun e => nomatch e)), zs, t2.hh c _ (fun z => hne (List.mem_singleton.mp z)) y4, y5.up t2.gg⟩ (ih e' (List.nodup_cons.mp nd').2)
      exact key g1.sl hi g.nd
  exact q v d _ G2 H2 g2 t3 (nd_own hi) dv ⟨pd, bs', hbx, rfl⟩
/-- a def with a box: its entry and its end -/
theorem good_box {G H : Hp} (e : Ex G H) {b : Addr} {xs : List V} {bs : List D} {ws : List V} {ds : List D} (hG : G b = none) (hH : H b = some (.lst xs)) (hx : DatL K G xs bs) (h : DatL K G ws ds) (N : List Str) :
    Good K ⟨G, H, some b⟩ (start N (.ref b :: ws)) (.own b bs :: (List.zipWith Sl.val ws ds ++ List.replicate (N.length - (ws.length + 1)) Sl.un)) G H := by
  refine ⟨.refl _, fun _ _ _ e => e, e, fun _ h _ => h, fun a h => ?_, .cons (s := .own b bs) ⟨rfl, .inr rfl, hG, xs, hH, hx⟩ ((SlsOk.vals h).app (.uns _)), ?_⟩
  · obtain rfl : b = a := Option.some.inj h
    rw [hH]; exact (fun e => nomatch e)
  · show (b :: _).Nodup
    rw [List.filterMap_append, own_vals, own_uns]
    simp
theorem EX.finB {G H : Hp} {Q : VK} {b : Addr} {n k : Nat} {Pd : D → Prop} {t : TS} {σ : Sg} {bs0 : List D} (hi : env[0]? = some (.own b bs0)) (g : Good K ⟨G, H, some b⟩ σ env G H)
    (q : ∀ v d G' H' xs' bs', Pd d → StpE [b] G H G' H' → H' b = some (.lst xs') → G' b = none → DatL K G' xs' bs' → BoxD (n + k) bs' → Dat K G' v d → Q v H')
    (h : EX K ⟨G, H, some b⟩ W t env { rt := fun _ d e => Pd d ∧ ∃ bs, BoxD (n + k) bs ∧ e[0]? = some (.own b bs) }) :
    t { nx := fun _ H' => Q .non H', rt := Q } σ H := by
  refine h σ G H g _ ⟨fun _ _ _ _ _ _ n => False.elim n, fun σ' env' G' H' v d g' e dv p => ?_, fun _ _ _ _ _ _ n => False.elim n, fun _ _ _ _ _ _ n => False.elim n⟩ fun _ _ _ _ _ _ _ _ _ _ _ _ n => False.elim n
  obtain ⟨pd, bs, hb, e0⟩ := p
  obtain ⟨h1, h2, h3, xs, h4, h5⟩ := g'.own e0
  exact q v d G' H' xs bs pd ⟨g'.gg, g'.gh, fun a o hx ho => g'.hh a o (fun z => hx (by rw [Option.some.inj z]; exact List.mem_singleton.mpr rfl)) ho, fun a h5 h6 => g'.ow a h5 h6⟩ h4 h3 h5 hb dv
end
end DL

set_option Elab.async false
set_option linter.all false
set_option maxRecDepth 100000
set_option maxHeartbeats 2000000
namespace DL
open PySem PySem.Spec PyProof.Rows L2
/-- data without the mark of its value -/
def D.top : D → D
  | .idn _ d => D.top d
  | d => d
theorem Dat.top {K : PySem.W.Frag} {G : Hp} : ∀ {d : D} {v : V}, Dat K G v d → Dat K G v d.top
  | .non, _, h => h | .bl _, _, h => h | .int _, _, h => h | .str _, _, h => h | .tup _, _, h => h | .lst _, _, h => h | .dct _, _, h => h | .op _, _, h => h | .rng _ _, _, h => h | .exc _, _, h => h | .set _ _ _, _, h => h
  | .idn _ d, _, h => by cases h with | idn a => exact Dat.top (d := d) a
theorem top_no : ∀ {d : D} (v : V) (x : D), d.top ≠ .idn v x
  | .non, _, _, h => by cases h | .bl _, _, _, h => by cases h | .int _, _, _, h => by cases h | .str _, _, _, h => by cases h | .tup _, _, _, h => by cases h | .lst _, _, _, h => by cases h | .dct _, _, _, h => by cases h | .op _, _, _, h => by cases h | .rng _ _, _, _, h => by cases h | .exc _, _, _, h => by cases h | .set _ _ _, _, _, h => by cases h
  | .idn _ d, v, x, h => top_no (d := d) v x h
theorem tyD_top : ∀ {d : D}, tyD d.top = tyD d
  | .non => rfl | .bl _ => rfl | .int _ => rfl | .str _ => rfl | .tup _ => rfl | .lst _ => rfl | .dct _ => rfl | .op _ => rfl | .rng _ _ => rfl | .exc _ => rfl | .set _ _ _ => rfl
  | .idn _ d => tyD_top (d := d)
theorem Dat.idnV {K : PySem.W.Frag} {G : Hp} {u v : V} {d : D} (h : Dat K G u (.idn v d)) : u = v ∧ Dat K G v d := by cases h with | idn a => exact ⟨rfl, a⟩
theorem Dat.strip {K : PySem.W.Frag} {G : Hp} {u v : V} {d : D} (h : Dat K G u (.idn v d)) : Dat K G u d := by cases h with | idn a => exact a
theorem sz (n : Nat) (h : n ≤ 16777216 := by decide) : n ≤ sizeLine := by rw [sizeLine_eq]; exact h
section
variable {K : PySem.W.Frag} {β : Bas} {env : Env'} {ta tb te tc : TE} {tt tu : TT} {x y z d : D} {v w : V} {P : Post} {W : WX} {ts tr : TS}
theorem ev_up {d' : D} (h : EV K β te env d) (f : ∀ G v, Dat K G v d → Dat K G v d') : EV K β te env d' := fun σ G H g Q q => h σ G H g Q fun v G' H' t dv => q v G' H' t (f _ _ dv)
theorem ev_top (h : EV K β te env d) : EV K β te env d.top := ev_up h fun _ _ => Dat.top
theorem ev_tp (h : EV K β te env d) (e : d.top = x) : EV K β te env x := e ▸ ev_top h
theorem evv_idn (h : EV K β te env (.idn v d)) : EVv K β te env v d := fun σ G H g Q q => h σ G H g _ fun u G' H' t du => by
  obtain ⟨rfl, dv⟩ := du.idnV
  exact q G' H' t dv
theorem ev_idn (h : EVv K β te env v d) : EV K β te env (.idn v d) := fun σ G H g Q q => h σ G H g _ fun G' H' t dv => q v G' H' t (.idn dv)
theorem ev_strip (h : EV K β te env (.idn v d)) : EV K β te env d := fun σ G H g Q q => h σ G H g _ fun u G' H' t du => q u G' H' t du.strip
theorem evv_as (h : EVv K β te env v d) : EVv K β te env v (.idn v d) := fun σ G H g Q q => h σ G H g _ fun G' H' t dv => q G' H' t (.idn dv)
theorem evv_var2 {i : Nat} (h : env[i]? = some (.val w (.idn v d))) : EVv K β (tVar i) env v (.idn v d) := evv_as (evv_idn (ev_var h))
/-- [e for j in range(n)] -/
theorem ev_lcR {tn : TE} {n : Nat} {j : Nat} {vs : List Nat} {F : Nat → D} (hn : EV K β tn env (.int n)) (hl : n < 16777216) (hj : j ∈ vs)
    (hs : ∀ (i : Nat) v, i < n → EV K β te ((wipeE env vs).set j (.val v (.int i))) (F i)) : EV K β (tLc (iRng1 (tCons tn tNil)) (gName j) tYes te vs) env (.lst ((List.range n).map F)) := by
  have h := ev_lcA (K := K) (β := β) (te := te) (F := F) (ei_rng1 (ea_cons hn ea_nil) (by omega) (by omega)) (by rw [rgD_length, sizeLine_eq]; omega) hj (fun i v d hd => by
    have hi : i < n := by
      have := (List.getElem?_eq_some_iff.mp hd).1
      rw [rgD_length] at this
      omega
    have e : d = .int (i : Nat) := by
      have := rgD_get (lo := 0) (n := (n : Int).toNat) (i := i) (by omega)
      rw [this] at hd
      rw [← Option.some.inj hd, Int.zero_add]
    rw [e]
    exact hs i v hi)
  rw [rgD_length] at h
  exact h
theorem ev_lcRf {tn : TE} {n : Nat} {j : Nat} {vs : List Nat} {f : Nat → Bool} {F : Nat → D} (hn : EV K β tn env (.int n)) (hl : n < 16777216) (hj : j ∈ vs)
    (hs : ∀ (i : Nat) v, i < n → EVT K β tt ((wipeE env vs).set j (.val v (.int i))) (f i) ∧ (f i = true → EV K β te ((wipeE env vs).set j (.val v (.int i))) (F i))) : EV K β (tLc (iRng1 (tCons tn tNil)) (gName j) tt te vs) env (.lst (keep f F n)) := by
  have h := ev_lcN (K := K) (β := β) (te := te) (tt := tt) (F := F) (f := f) (ei_rng1 (ea_cons hn ea_nil) (by omega) (by omega)) (by rw [rgD_length, sizeLine_eq]; omega) hj (fun i v d hd => by
    have hi : i < n := by
      have := (List.getElem?_eq_some_iff.mp hd).1
      rw [rgD_length] at this
      omega
    have e : d = .int (i : Nat) := by
      have := rgD_get (lo := 0) (n := (n : Int).toNat) (i := i) (by omega)
      rw [this] at hd
      rw [← Option.some.inj hd, Int.zero_add]
    rw [e]
    exact hs i v hi)
  rw [rgD_length] at h
  exact h
end
/-- tables as data -/
def rowD (n : Nat) (f : Nat → Nat) : D := .tup ((List.range n).map fun y => .int (f y : Nat))
def tblD (n : Nat) (f : Nat → Nat → Nat) : D := .tup ((List.range n).map fun x => rowD n (f x))
theorem tblD_congr {n : Nat} {f g : Nat → Nat → Nat} (h : ∀ x y, x < n → y < n → f x y = g x y) : tblD n f = tblD n g := by
  unfold tblD rowD
  congr 1
  refine List.map_congr_left fun x hx => ?_
  congr 1
  refine List.map_congr_left fun y hy => ?_
  rw [h x y (List.mem_range.mp hx) (List.mem_range.mp hy)]
theorem rep_map {α : Type} (a : α) : ∀ n : Nat, (List.replicate n [a]).flatten = (List.range n).map fun _ => a
  | 0 => rfl
  | n + 1 => by
    rw [List.replicate_succ', List.range_succ, List.flatten_append, List.map_append, rep_map a n]
    rfl
theorem map_tbl {n : Nat} {f : Nat → Nat → Nat} {F : Nat → D} (h : ∀ x, x < n → F x = rowD n (f x)) : D.tup ((List.range n).map F) = tblD n f := by
  unfold tblD
  congr 1
  exact List.map_congr_left fun x hx => h x (List.mem_range.mp hx)
theorem map_row {n : Nat} {f : Nat → Nat} {F : Nat → D} (h : ∀ x, x < n → F x = .int (f x : Nat)) : D.tup ((List.range n).map F) = rowD n f := by
  unfold rowD
  congr 1
  exact List.map_congr_left fun x hx => h x (List.mem_range.mp hx)
/-- a number between low and high, and no bool -/
def inRg (x : D) (l h : Int) : Bool := match x.top with
  | .int i => decide (l ≤ i) && decide (i ≤ h)
  | _ => false
theorem inRg_iff {x : D} {l h : Int} (e : inRg x l h = true) : ∃ i : Int, x.top = .int i ∧ l ≤ i ∧ i ≤ h := by
  unfold inRg at e
  cases q : x.top with
  | int i =>
    rw [q] at e
    obtain ⟨a, b⟩ := Bool.and_eq_true_iff.mp e
    exact ⟨i, rfl, of_decide_eq_true a, of_decide_eq_true b⟩
  | _ => rw [q] at e; cases e
end DL

set_option Elab.async false
set_option linter.all false
set_option maxRecDepth 100000
set_option maxHeartbeats 2000000
namespace DL
open PySem PySem.Spec PyProof.Rows L2
section
variable {K : PySem.W.Frag} {β : Bas} {env : Env'} {ta tb te tc : TE} {tt tu : TT} {x y z d : D} {v w : V} {P : Post} {W : WX} {ts tr : TS}
theorem op_powI {i j : Int} (h : CPow i j) : OpD K (rI CPow fun i j => .int (i ^ j.toNat)) (.int i) (.int j) (.int (i ^ j.toNat)) := op_IC (g' := fun i j => .int (i ^ j.toNat)) (fun _ _ _ => .int _) h
/-- == [] -/
theorem Dp.nil {H : Hp} {a : Addr} (h : H a = some (.lst [])) : Dp K H (.ref a) (.list []) := .lst (.inl (.inl h)) .nil
theorem op_eqNil : OpD K (rEqD K) (.lst []) (.lst []) (.bl true) := fun G H v1 v2 e d1 d2 Q q => by
  cases d1 with | lst a1 b1 =>
  cases d2 with | lst a2 b2 =>
  cases b1; cases b2
  exact ⟨_, _, Dp.nil (e _ _ a1), Dp.nil (e _ _ a2), rfl, rfl, q _ G H (.refl e) (.bl _)⟩
theorem op_neNil : OpD K (rNeD K) (.lst []) (.lst []) (.bl false) := fun G H v1 v2 e d1 d2 Q q => by
  cases d1 with | lst a1 b1 =>
  cases d2 with | lst a2 b2 =>
  cases b1; cases b2
  exact ⟨_, _, Dp.nil (e _ _ a1), Dp.nil (e _ _ a2), rfl, rfl, q _ G H (.refl e) (.bl _)⟩
/-- a call with a promise of its own kind, the arguments' values known -/
theorem ev_callR {sp : Sp} {ta : TA} {vs : List V} {ds : List D} {E : XK} (he : EVAv K β ta env vs ds)
    (h : ∀ σ G H, Good K β σ env G H → DatL K G vs ds → ∀ Q : VK, (∀ v G' H', Stp G H G' H' → Dat K G' v d → Q v H') → sp vs H Q E) : EV K β (tCall sp [] E ta) env d := fun σ G H g Q q =>
  he σ G H g _ fun G1 H1 t1 d1 => by
    show sp (vs ++ []) H1 Q E
    rw [List.append_nil]
    exact h σ G1 H1 (g.up t1) d1 Q fun v G2 H2 t2 dv => q v G2 H2 (t1.trans t2) dv
/-- a, b = .. -/
theorem ex_asgG {g : TG} {Pg : Env' → Prop} (he : EV K β te env d) (hg : ∀ v, EG K β g env v d Pg) (k : ∀ e, Pg e → P.nx e) : EX K β W (tAsg te g) env P := fun σ G H gd Dn c x =>
  he σ G H gd _ fun v G1 H1 t1 d1 => hg v σ G1 H1 (gd.up t1) d1 _ fun σ' env' g' p => c.nx σ' env' G1 H1 g' t1.gg (k _ p)
theorem ex_let2 {i j : Nat} {ta : TA} {d1 d2 : D} (he : EVA K β ta env [d1, d2]) (k : ∀ v1 v2, EX K β W tr ((env.set i (.val v1 d1)).set j (.val v2 d2)) P) : EX K β W (tSeq (tAsg (tTup ta) (gTup K 2 (gCons (gName i) (gCons (gName j) gNil)))) tr) env P :=
  ex_seq (N := fun e => ∃ v1 v2, e = (env.set i (.val v1 d1)).set j (.val v2 d2)) (ex_asgG (ev_tup he (sz 2)) (fun v => eg_two) fun e ⟨v1, v2, h⟩ => ⟨v1, v2, h⟩) fun e ⟨v1, v2, h⟩ => h ▸ k v1 v2
/-! ### a def that hands back a new list, the caller's own -/
variable (K) in
def spN (R : List D → List D → Prop) : Sp := fun vs H Q _ => ∃ G ds es, Ex G H ∧ DatL K G vs ds ∧ R ds es ∧
  ∀ p xs G' H', Stp G H G' H' → H p = none → G' p = none → H' p = some (.lst xs) → DatL K G' xs es → Q (.ref p) H'
theorem Good.takeOwn {σ : Sg} {G H G' H' : Hp} (g : Good K β σ env G H) (t : Stp G H G' H') {p : Addr} {xs : List V} {es : List D} (i : Nat) (hn : H p = none) (hG : G' p = none) (hp : H' p = some (.lst xs)) (dx : DatL K G' xs es) :
    Good K β (σ.set i (some (V.ref p))) (env.set i (.own p es)) G' H' := by
  have t2 : Stp G H G' (fun b => if b = p then none else H' b) := ⟨t.gg, fun a o e => by
      have : a ≠ p := fun z => by rw [z, hn] at e; cases e
      show (if a = p then none else H' a) = some o
      rw [if_neg this]; exact t.hh a o e, fun a o e => by
      have : a ≠ p := fun z => by rw [z, hG] at e; cases e
      show (if a = p then none else H' a) = some o
      rw [if_neg this]; exact t.gh a o e, t.ow⟩
  have g2 := (g.up t2).newOwn (a := p) (ds := es) (xs := xs) i (if_pos rfl) dx
  have e : upd (fun b => if b = p then none else H' b) p (.lst xs) = H' := by
    funext b
    by_cases hb : b = p
    · rw [hb, upd_same, hp]
    · rw [upd_ne hb]; exact if_neg hb
  rw [e] at g2
  exact g2
theorem ex_newCall {i : Nat} {ta : TA} {R : List D → List D → Prop} {ds es : List D} {E : XK} (he : EVA K β ta env ds) (h : R ds es) (k : ∀ a, P.nx (env.set i (.own a es))) : EX K β W (tAsg (tCall (spN K R) [] E ta) (gName i)) env P := fun σ G H g Dn c x =>
  he σ G H g _ fun vs G1 H1 t1 d1 => ⟨G1, ds, es, t1.gh, by rw [List.append_nil]; exact d1, h, fun p xs G2 H2 t2 hn hG hp dx =>
    c.nx _ _ G2 H2 ((g.up t1).takeOwn t2 i hn hG hp dx) (t1.gg.trans t2.gg) (k p)⟩
theorem ex_letNew {i : Nat} {ta : TA} {R : List D → List D → Prop} {ds es : List D} {E : XK} (he : EVA K β ta env ds) (h : R ds es) (k : ∀ a, EX K β W tr (env.set i (.own a es)) P) : EX K β W (tSeq (tAsg (tCall (spN K R) [] E ta) (gName i)) tr) env P :=
  ex_seq (N := fun e => ∃ a, e = env.set i (.own a es)) (ex_newCall he h fun a => ⟨a, rfl⟩) fun e ⟨a, h⟩ => h ▸ k a
/-- return [..] of such a def -/
theorem ret_new {G H : Hp} {σ : Sg} {ta : TA} {es : List D} {Q : VK} {Dn : Ends} (g : Good K ⟨G, H, none⟩ σ env G H) (he : EVA K ⟨G, H, none⟩ ta env es) (hl : es.length ≤ sizeLine) (hD : Dn.rt = Q)
    (q : ∀ p xs G' H', Stp G H G' H' → H p = none → G' p = none → H' p = some (.lst xs) → DatL K G' xs es → Q (.ref p) H') : tRet (tLst ta) Dn σ H := by
  subst hD
  exact he σ G H g _ fun vs G1 H1 t1 d1 => ⟨by rw [d1.length]; exact hl, fun p hp => by
    have hH : H p = none := by
      cases z : H p with
      | none => rfl
      | some o => rw [t1.hh p o z] at hp; cases hp
    exact q p vs G1 _ (t1.side hH (t1.gh.back hp)) hH (t1.gh.back hp) upd_same d1⟩
/-- one's own list becomes data: it is written no more -/
theorem Good.commit {σ : Sg} {G H : Hp} (g : Good K β σ env G H) {i : Nat} {a : Addr} {ds : List D} (hi : env[i]? = some (.own a ds)) (hb : β.bx ≠ some a) : ∃ xs, H a = some (.lst xs) ∧ DatL K G xs ds ∧ G a = none ∧ Good K β σ (env.set i (.val (.ref a) (.lst ds))) (upd G a (.lst xs)) H := by
  obtain ⟨h1, h2, h3, xs, h4, h5⟩ := g.own hi
  have h6 : β.H a = none := h2.resolve_right hb
  refine ⟨xs, h4, h5, h3, g.gg.trans (.new h3), g.hh, fun b u e => ?_, fun b e1 e2 => ?_, g.bh, ?_, (nd_set rfl i g.nd).1⟩
  · by_cases hb : b = a
    · subst hb; rw [upd_same] at e; rw [h4]; exact e
    · rw [upd_ne hb] at e; exact g.gh b u e
  · have hne : b ≠ a := fun z => e2 (z ▸ h6)
    rw [upd_ne hne]; exact g.ow b e1 e2
  · have key : ∀ {σ : Sg} {env : Env'} {i : Nat}, SlsOk K β G H σ env → env[i]? = some (.own a ds) → (env.filterMap ownA).Nodup → SlsOk K β (upd G a (.lst xs)) H σ (env.set i (.val (.ref a) (.lst ds))) := by
      have other : ∀ {σ : Sg} {env : Env'}, SlsOk K β G H σ env → a ∉ env.filterMap ownA → SlsOk K β (upd G a (.lst xs)) H σ env := by
        intro σ env s
        induction s with
        | nil => intro _; exact .nil
        | @cons o s σ env x r ih =>
          intro m
          rw [List.filterMap_cons] at m
          cases s with
          | un => exact .cons trivial (ih m)
          | val v d => exact .cons ⟨x.1, x.2.up (.new h3)⟩ (ih m)
          | own c es =>
            have m' : a ∉ c :: env.filterMap ownA := m
            obtain ⟨y1, y2, y3, zs, y4, y5⟩ := x
            have hne : c ≠ a := fun z => m' (by rw [← z]; exact List.mem_cons_self)
            exact .cons ⟨y1, y2, by rw [upd_ne hne]; exact y3, zs, y4, y5.up (.new h3)⟩ (ih fun z => m' (List.mem_cons_of_mem _ z))
      intro σ env i s
      induction s generalizing i with
      | nil => intro e; simp at e
      | @cons o s σ env x r ih =>
        intro e nd
        cases i with
        | zero =>
          simp at e
          subst e
          exact .cons ⟨x.1, .lst upd_same (h5.up (.new h3))⟩ (other r (List.nodup_cons.mp (show (a :: env.filterMap ownA).Nodup from nd)).1)
        | succ i =>
          have e' : env[i]? = some (.own a ds) := by simpa using e
          have hm' : a ∈ env.filterMap ownA := List.mem_filterMap.mpr ⟨_, List.mem_of_getElem? e', rfl⟩
          rw [List.filterMap_cons] at nd
          cases s with
          | un => exact .cons trivial (ih e' nd)
          | val v d => exact .cons ⟨x.1, x.2.up (.new h3)⟩ (ih e' nd)
          | own c es =>
            have nd' : (c :: env.filterMap ownA).Nodup := nd
            have hne : c ≠ a := fun z => (List.nodup_cons.mp nd').1 (by rw [z]; exact hm')
            obtain ⟨y1, y2, y3, zs, y4, y5⟩ := x
            exact .cons ⟨y1, y2, by rw [upd_ne hne]; exact y3, zs, y4, y5.up (.new h3)⟩ (ih e' (List.nodup_cons.mp nd').2)
    exact key g.sl hi g.nd
/-- from here on one's own list is data -/
theorem ex_commit {i : Nat} {a : Addr} {ds : List D} (hi : env[i]? = some (.own a ds)) (hb : β.bx ≠ some a) (h : EX K β W ts (env.set i (.val (.ref a) (.lst ds))) P) : EX K β W ts env P := fun σ G H g Dn c x => by
  obtain ⟨xs, _, _, h3, g2⟩ := g.commit hi hb
  exact h σ _ H g2 Dn (c.up (.new h3)) (x.up (.new h3))
end
/-! ### a local name that holds a def which may raise -/
def tCallVS (i : Nat) (f : Addr) (sp : Sp) (E : Sg → XK) (t : TA) : TE := fun σ H Q => σ[i]? = some (some (.ref f)) ∧ t σ H fun vs H1 => sp vs H1 Q (E σ)
def tCallVK (i : Nat) (f : Addr) (sp : Sp) (gV : List V → List V → List V) (E : Sg → XK) (t : TA) : TE := fun σ H Q => σ[i]? = some (some (.ref f)) ∧ t σ H fun zs H1 => sp (gV [] zs) H1 Q (E σ)
section
variable {X : Cx} {CX : CXT} {k i : Nat} {f : Addr} {fd : FuncData} {ps ks : List Str} {sp : Sp} {E : Sg → XK} {x : Str} {e : Expr} {es : List Expr} {t : TA} {p pos : Pos} {kws : List Keyword} {g : List Value → List Value → List Value} {gV : List V → List V → List V}
theorem pe_callVS (F : FnOk X.prog X.w X.K X.mg X.base CX k f fd ps sp) (hr : Room k X.A) (hk : PySem.W.keepIn X.K (.ref f) = true) (hb : Binds X.K fd ps []) (hx : ∀ σ, PassesAt CX X σ (E σ)) (hN : X.N[i]? = some x) (hv : Vis X.env.scope x) (ha : PA X (e :: es) t)
    (hd : (x == ("__debug__" : Str)) = false := by decide) (hcd : (x == ("__classdict__" : Str)) = false := by decide)
    (he : starEach (e :: es) X.env = (false, eval e X.env) :: starEach es X.env := by rfl) (hpl : (backTo pos (starEach es X.env)).any (·.1) = false := by rfl) : PE X (.Call (.Name x p) (e :: es) [] pos) (tCallVS i f sp E t) := by
  refine ⟨fun pins s σ H Q I h => ?_⟩
  obtain ⟨hs, h⟩ := h
  refine wpAny_Call_Name_kw (thn ((pe_var (pos := p) (i := i) hN hv hd hcd).run pins s σ H (fun v H1 => v = .ref f ∧ H1 = H) I ⟨.ref f, hs, rfl, rfl⟩) fun u s1 ⟨v, H1, I1, r1, ev, eH⟩ => ?_)
  subst ev
  rw [eH] at I1
  cases r1
  refine PySem.W.callWith_K (h₀ := X.base) I.ok.mod.kin hk (thn (ha.run pos pins s1 σ H _ I1 h) fun us s2 ⟨vs, H2, I2, r, q⟩ => ⟨I2.kIn, ?_⟩) he hpl
  exact run_fnS F hr hb (hx σ) I2 r q
theorem pe_callVK (F : FnOk X.prog X.w X.K X.mg X.base CX k f fd ps sp) (hr : Room k X.A) (hk : PySem.W.keepIn X.K (.ref f) = true) (hb : KBinds X.K fd ps ks g gV) (hx : ∀ σ, PassesAt CX X σ (E σ)) (hN : X.N[i]? = some x) (hv : Vis X.env.scope x)
    (hkw : PK X kws t) (hall : (backToKw pos (keywordEach kws X.env)).all (·.1.isSome) = true := by rfl) (hks : (backToKw pos (keywordEach kws X.env)).filterMap (·.1) = ks := by rfl)
    (hd : (x == ("__debug__" : Str)) = false := by decide) (hcd : (x == ("__classdict__" : Str)) = false := by decide)
    (hpl : ((backTo pos (starEach [] X.env)).any (·.1) || (backToKw pos (keywordEach kws X.env)).any (·.1.isNone)) = false := by rfl) : PE X (.Call (.Name x p) [] kws pos) (tCallVK i f sp gV E t) := by
  refine ⟨fun pins s σ H Q I h => ?_⟩
  obtain ⟨hs, h⟩ := h
  refine wpAny_Call_Name_kw (thn ((pe_var (pos := p) (i := i) hN hv hd hcd).run pins s σ H (fun v H1 => v = .ref f ∧ H1 = H) I ⟨.ref f, hs, rfl, rfl⟩) fun u s1 ⟨v, H1, I1, r1, ev, eH⟩ => ?_)
  subst ev
  rw [eH] at I1
  cases r1
  refine PySem.W.callWith_KW0 (h₀ := X.base) I.ok.mod.kin hk hall ?_ hpl
  refine thn (hkw.run pos pins s1 σ H _ I1 h) fun ws s2 ⟨zs, H2, I2, rz, q2⟩ => ⟨I2.kIn, ?_⟩
  rw [hks]
  exact run_fnkS F hr hb (hx σ) I2 .nil rz q2
end
end DL

set_option Elab.async false
set_option linter.all false
set_option maxRecDepth 100000
set_option maxHeartbeats 2000000
namespace DL
open PySem PySem.Spec PyProof.Rows L2
section
variable {K : PySem.W.Frag} {β : Bas} {env : Env'} {ta tb te tc : TE} {tt tu : TT} {x y z d : D} {v w : V} {P : Post} {W : WX} {ts tr : TS}
/-- for j in range(n) -/
theorem ex_forR {tn : TE} {n j : Nat} (I : Nat → Env' → Prop) (hn : EV K β tn env (.int n)) (hl : n < 16777216) (h0 : I 0 env)
    (hs : ∀ i env' v, i < n → I i env' → EX K β W ts (env'.set j (.val v (.int (i : Nat)))) { P with nx := I (i + 1), ct := I (i + 1), bk := P.nx })
    (hd : ∀ env', I n env' → P.nx env') : EX K β W (tFor (iRng1 (tCons tn tNil)) (gName j) ts) env P := by
  refine ex_forN (ds := rgD 0 (n : Int).toNat) I (ei_rng1 (ea_cons hn ea_nil) (by omega) (by omega)) h0 (fun i env' v d hd hi => ?_) fun env' h => hd env' (by rw [rgD_length] at h; exact h)
  have hlt : i < n := by
    have := (List.getElem?_eq_some_iff.mp hd).1
    rw [rgD_length] at this
    omega
  have e : d = .int (i : Nat) := by
    have := rgD_get (lo := 0) (n := (n : Int).toNat) (i := i) (by omega)
    rw [this] at hd
    rw [← Option.some.inj hd, Int.zero_add]
  rw [e]
  exact hs i env' v hlt hi
/-- for .., then the rest -/
theorem ex_forRS {tn : TE} {n j : Nat} (I : Nat → Env' → Prop) (hn : EV K β tn env (.int n)) (hl : n < 16777216) (h0 : I 0 env)
    (hs : ∀ i env' v, i < n → I i env' → EX K β W ts (env'.set j (.val v (.int (i : Nat)))) { P with nx := I (i + 1), ct := I (i + 1), bk := fun _ => False })
    (hd : ∀ env', I n env' → EX K β W tr env' P) : EX K β W (tSeq (tFor (iRng1 (tCons tn tNil)) (gName j) ts) tr) env P :=
  ex_seq (N := I n) (ex_forR I hn hl h0 (fun i env' v hlt hi => (hs i env' v hlt hi).imp (fun _ h => h) (fun _ _ _ h => h) (fun _ h => h.elim) (fun _ h => h) fun _ _ _ _ h => h) fun env' h => h) hd
theorem ex_forNS {wi : TI} {j : Nat} {ds : List D} (I : Nat → Env' → Prop) (hI : EVI K β wi env ds) (h0 : I 0 env)
    (hs : ∀ i env' v d, ds[i]? = some d → I i env' → EX K β W ts (env'.set j (.val v d)) { P with nx := I (i + 1), ct := I (i + 1), bk := fun _ => False })
    (hd : ∀ env', I ds.length env' → EX K β W tr env' P) : EX K β W (tSeq (tFor wi (gName j) ts) tr) env P :=
  ex_seq (N := I ds.length) (ex_forN I hI h0 (fun i env' v d hlt hi => (hs i env' v d hlt hi).imp (fun _ h => h) (fun _ _ _ h => h) (fun _ h => h.elim) (fun _ h => h) fun _ _ _ _ h => h) fun env' h => h) hd
/-- a, b = x, y (both plain names) -/
theorem ex_par {i j : Nat} {ta : TA} {d1 d2 : D} (he : EVA K β ta env [d1, d2]) (k : ∀ v1 v2, P.nx ((env.set i (.val v1 d1)).set j (.val v2 d2))) : EX K β W (tPar i j ta) env P := fun σ G H g Dn c x =>
  he σ G H g _ fun vs G1 H1 t1 dvs => by
    cases dvs with | cons a t => cases t with | cons b t =>
    cases t
    exact ⟨_, _, rfl, c.nx _ _ G1 H1 (((g.up t1).set i a).set j b) t1.gg (k _ _)⟩
theorem ex_parS {i j : Nat} {ta : TA} {d1 d2 : D} (he : EVA K β ta env [d1, d2]) (k : ∀ v1 v2, EX K β W tr ((env.set i (.val v1 d1)).set j (.val v2 d2)) P) : EX K β W (tSeq (tPar i j ta) tr) env P :=
  ex_seq (N := fun e => ∃ v1 v2, e = (env.set i (.val v1 d1)).set j (.val v2 d2)) (ex_par he fun v1 v2 => ⟨v1, v2, rfl⟩) fun e ⟨v1, v2, h⟩ => h ▸ k v1 v2
/-! tables -/
theorem ev_tbl {n a : Nat} {f : Nat → Nat → Nat} (h : EV K β ta env (tblD n f)) (hi : EV K β tb env (.int (a : Nat))) (hl : a < n) : EV K β (tOp (rIx K) ta tb) env (rowD n (f a)) :=
  ev_op h hi (op_ix (.inl rfl) (atI_natD (by rw [List.getElem?_map, List.getElem?_range hl]; rfl)))
theorem ev_row {n a : Nat} {f : Nat → Nat} (h : EV K β ta env (rowD n f)) (hi : EV K β tb env (.int (a : Nat))) (hl : a < n) : EV K β (tOp (rIx K) ta tb) env (.int (f a : Nat)) :=
  ev_op h hi (op_ix (.inl rfl) (atI_natD (by rw [List.getElem?_map, List.getElem?_range hl]; rfl)))
theorem cb_lenTbl {n : Nat} {f : Nat → Nat → Nat} : CbD K (rLen K) [tblD n f] (.int n) := by
  have h := cb_lenT (K := K) (ds := (List.range n).map fun x => rowD n (f x))
  rw [List.length_map, List.length_range] at h
  exact h
/-- list(x), dict(x) -/
theorem cb_listOf {ds : List D} : CbD K (rListOf K) [.lst ds] (.lst ds) := fun G H vs e dl Q q => by
  cases dl with | cons a t =>
  cases t
  cases a with
  | @lst p xs _ h1 h2 =>
  refine ⟨p, xs, rfl, .inl (.inl (.inl (e _ _ h1))), fun l hl => q _ (upd G l (.lst xs)) _ (.new e hl) (.lst upd_same (h2.up (.new (e.back hl))))⟩
theorem DatK.mono' {G G' : Hp} {ds : List (Key × D)} {vs : List (Key × V)} (e : Ex G G') (h : DatK K G vs ds) : DatK K G' vs ds := DatK.mono e ds vs h
def rDictOf : List V → Hp → VK → Prop := fun xs H Q => ∃ (a : Addr) (kvs : List (Key × V)), xs = [.ref a] ∧ Rd H a (.dK kvs) ∧ ∀ p, H p = none → Q (.ref p) (upd H p (.dK kvs))
theorem call_dictOf {X : Cx} : CallR X (.type "dict") rDictOf := call_dictD
theorem cb_dictOf {kds : List (Key × D)} : CbD K rDictOf [.dct kds] (.dct kds) := fun G H vs e dl Q q => by
  cases dl with | cons a t =>
  cases t
  cases a with
  | @dct p xs _ h1 h2 =>
  refine ⟨p, xs, rfl, .inl (e _ _ h1), fun l hl => q _ (upd G l (.dK xs)) _ (.new e hl) (.dct upd_same (h2.mono' (.new (e.back hl))))⟩
end
end DL

set_option Elab.async false
set_option linter.all false
set_option maxRecDepth 100000
set_option maxHeartbeats 2000000
namespace DL
open PySem PySem.Spec PyProof.Rows L2
section
variable {K : PySem.W.Frag} {β : Bas} {env : Env'} {ta tb te tc : TE} {tt tu : TT} {x y z d : D} {v w : V} {P : Post} {W : WX} {ts tr : TS} {f' : Str} {cls : Value}
/-! calls by keywords, calls of a local name; on the way that hands back and on the way that raises -/
theorem ev_callK {R : List D → D → Prop} {E' : List V → List D → Value → Str → V → Prop} {ta : TA} {ds ds' : List D} {gV : List V → List V → List V} {E : Sg → XK} (he : EVA K β ta env ds) (hg : ∀ G vs, DatL K G vs ds → DatL K G (gV [] vs) ds') (h : R ds' d) :
    EV K β (tCallK0 (spX K R E') gV E ta) env d := fun σ G H g Q q =>
  he σ G H g _ fun vs G1 H1 t1 d1 => ⟨G1, ds', t1.gh, hg _ _ d1, .inl ⟨d, h, fun v G2 H2 t2 d2 => q v G2 H2 (t1.trans t2) d2⟩⟩
theorem ev_callKD {R : List D → D → Prop} {ta : TA} {ds ds' : List D} {gV : List V → List V → List V} {E : Sg → XK} (he : EVA K β ta env ds) (hg : ∀ G vs, DatL K G vs ds → DatL K G (gV [] vs) ds') (h : R ds' d) :
    EV K β (tCallK0 (spD K R) gV E ta) env d := fun σ G H g Q q =>
  he σ G H g _ fun vs G1 H1 t1 d1 => ⟨G1, ds', d, t1.gh, hg _ _ d1, h, fun v G2 H2 t2 d2 => q v G2 H2 (t1.trans t2) d2⟩
theorem rs_callK {R : List D → D → Prop} {E' : List V → List D → Value → Str → V → Prop} {ta : TA} {ds ds' : List D} {vs vs' : List V} {gV : List V → List V → List V} (he : EVAv K β ta env vs ds) (hg : ∀ G, DatL K G vs ds → DatL K G vs' ds') (hv : gV [] vs = vs') (h : E' vs' ds' cls f' v) :
    Raises' K β W (tCallK0 (spX K R E') gV (WE W) ta) env cls f' v := fun σ G H g Q q =>
  he σ G H g _ fun G1 H1 t1 d1 => by
    show spX K R E' (gV [] vs) H1 Q (WE W σ)
    rw [hv]
    exact ⟨G1, ds', t1.gh, hg _ d1, .inr ⟨cls, f', v, h, fun G2 H2 dx t2 => q G2 H2 dx (t1.trans t2)⟩⟩
theorem slot_val {i : Nat} {σ : Sg} {G H : Hp} (g : Good K β σ env G H) (h : env[i]? = some (.val v d)) : σ[i]? = some (some v) := by
  obtain ⟨o, h1, rfl, _⟩ := g.sl.get h
  exact h1
theorem ev_callV {R : List D → D → Prop} {E' : List V → List D → Value → Str → V → Prop} {ta : TA} {ds : List D} {E : Sg → XK} {i : Nat} {f : Addr} {df : D} (hi : env[i]? = some (.val (.ref f) df)) (he : EVA K β ta env ds) (h : R ds d) : EV K β (tCallVS i f (spX K R E') E ta) env d := fun σ G H g Q q =>
  ⟨slot_val g hi, he σ G H g _ fun vs G1 H1 t1 d1 => ⟨G1, ds, t1.gh, d1, .inl ⟨d, h, fun v G2 H2 t2 d2 => q v G2 H2 (t1.trans t2) d2⟩⟩⟩
theorem rs_callV {R : List D → D → Prop} {E' : List V → List D → Value → Str → V → Prop} {ta : TA} {ds : List D} {vs : List V} {i : Nat} {f : Addr} {df : D} (hi : env[i]? = some (.val (.ref f) df)) (he : EVAv K β ta env vs ds) (h : E' vs ds cls f' v) : Raises' K β W (tCallVS i f (spX K R E') (WE W) ta) env cls f' v := fun σ G H g Q q =>
  ⟨slot_val g hi, he σ G H g _ fun G1 H1 t1 d1 => ⟨G1, ds, t1.gh, d1, .inr ⟨cls, f', v, h, fun G2 H2 dx t2 => q G2 H2 dx (t1.trans t2)⟩⟩⟩
theorem ev_callVK {R : List D → D → Prop} {E' : List V → List D → Value → Str → V → Prop} {ta : TA} {ds ds' : List D} {gV : List V → List V → List V} {E : Sg → XK} {i : Nat} {f : Addr} {df : D} (hi : env[i]? = some (.val (.ref f) df)) (he : EVA K β ta env ds) (hg : ∀ G vs, DatL K G vs ds → DatL K G (gV [] vs) ds') (h : R ds' d) :
    EV K β (tCallVK i f (spX K R E') gV E ta) env d := fun σ G H g Q q =>
  ⟨slot_val g hi, he σ G H g _ fun vs G1 H1 t1 d1 => ⟨G1, ds', t1.gh, hg _ _ d1, .inl ⟨d, h, fun v G2 H2 t2 d2 => q v G2 H2 (t1.trans t2) d2⟩⟩⟩
theorem rs_callVK {R : List D → D → Prop} {E' : List V → List D → Value → Str → V → Prop} {ta : TA} {ds ds' : List D} {vs vs' : List V} {gV : List V → List V → List V} {i : Nat} {f : Addr} {df : D} (hi : env[i]? = some (.val (.ref f) df)) (he : EVAv K β ta env vs ds) (hg : ∀ G, DatL K G vs ds → DatL K G vs' ds') (hv : gV [] vs = vs') (h : E' vs' ds' cls f' v) :
    Raises' K β W (tCallVK i f (spX K R E') gV (WE W) ta) env cls f' v := fun σ G H g Q q =>
  ⟨slot_val g hi, he σ G H g _ fun G1 H1 t1 d1 => by
    show spX K R E' (gV [] vs) H1 Q (WE W σ)
    rw [hv]
    exact ⟨G1, ds', t1.gh, hg _ d1, .inr ⟨cls, f', v, h, fun G2 H2 dx t2 => q G2 H2 dx (t1.trans t2)⟩⟩⟩
theorem rs_if {b : Bool} (h : EVT K β tt env b) (h1 : b = true → Raises' K β W ta env cls f' v) (h2 : b = false → Raises' K β W tb env cls f' v) : Raises' K β W (tIf tt ta tb) env cls f' v := fun σ G H g Q q => h σ G H g _ fun G1 H1 t1 => by
  cases b with
  | true => show ta σ H1 Q; exact h1 rfl σ G1 H1 (g.up t1) Q fun G2 H2 dx t2 => q G2 H2 dx (t1.trans t2)
  | false => show tb σ H1 Q; exact h2 rfl σ G1 H1 (g.up t1) Q fun G2 H2 dx t2 => q G2 H2 dx (t1.trans t2)
/-- [.., e that raises, ..] -/
def RaisesA (K : PySem.W.Frag) (β : Bas) (W : WX) (ta : TA) (env : Env') (cls : Value) (f : Str) (v : V) : Prop :=
  ∀ σ G H, Good K β σ env G H → ∀ Q : List V → Hp → Prop, (∀ G' H' dx, Stp G H G' H' → H' dx = some (.xd [(f, v)]) → G' dx = none → W cls (some dx) σ H') → ta σ H Q
theorem ra_here {tr : TA} (h : Raises' K β W te env cls f' v) : RaisesA K β W (tCons te tr) env cls f' v := fun σ G H g Q q => h σ G H g _ q
theorem ra_next {tr : TA} (he : EV K β te env d) (h : RaisesA K β W tr env cls f' v) : RaisesA K β W (tCons te tr) env cls f' v := fun σ G H g Q q =>
  he σ G H g _ fun u G1 H1 t1 _ => h σ G1 H1 (g.up t1) _ fun G2 H2 dx t2 => q G2 H2 dx (t1.trans t2)
theorem rs_lst {ta : TA} (h : RaisesA K β W ta env cls f' v) : Raises' K β W (tLst ta) env cls f' v := fun σ G H g Q q => h σ G H g _ q
theorem evv_op (h : EV K β te env (.op v)) : EVv K β te env v (.op v) := fun σ G H g Q q => h σ G H g _ fun u G' H' t du => by cases du; exact q G' H' t (.op v)
theorem ex_letV {i : Nat} (he : EVv K β te env v d) (h : EX K β W tr (env.set i (.val v d)) P) : EX K β W (tSeq (tAsg te (gName i)) tr) env P := ex_cons (ex_asgV he rfl) h
/-- x in [texts] -/
theorem DatL.strs {G : Hp} : ∀ {ws : List Str} {vs : List V}, DatL K G vs (ws.map D.str) → vs = ws.map V.str
  | [], _, h => by cases h; rfl
  | n :: ns, _, h => by
    cases h with
    | cons a t => cases a; rw [DatL.strs t]; rfl
theorem op_inS {w : Str} {ws : List Str} {b : Bool} (hb : inV (.str w) (ws.map V.str) = b) : OpD K (rIn K false) (.str w) (.lst (ws.map D.str)) (.bl b) := fun G H v1 v2 e d1 d2 Q q => by
  rw [d1.strV]
  cases d2 with
  | lst h1 h2 =>
  rw [h2.strs] at h1
  exact ⟨_, _, rfl, .inl (.inl (.inl (e _ _ h1))), rfl, by rw [List.all_map]; exact List.all_eq_true.mpr fun _ _ => rfl, by rw [if_neg Bool.false_ne_true, hb]; exact q _ G H (.refl e) (.bl _)⟩
/-- {texts: defs}[word] -/
theorem tPairs_cc : ∀ (l : List (Str × Addr)) (σ : Sg) (H : Hp) (Q : List (V × V) → Hp → Prop), Q (l.map fun p => (V.str p.1, V.ref p.2)) H → tPairs (l.map fun p => (tC (.str p.1), tC (.ref p.2))) σ H Q
  | [], _, _, _, h => h
  | p :: r, σ, H, Q, h => tPairs_cc r σ H (fun ps H3 => Q ((V.str p.1, V.ref p.2) :: ps) H3) h
theorem ev_door {l : List (Str × Addr)} {w : Str} {f : Addr} (hw : EV K β tb env (.str w)) (hl : l.length ≤ 15) (hf : valV (mergeK [] (l.map fun p => ((.inr p.1 : Key), V.ref p.2))) (.inr w) = some (.ref f)) :
    EV K β (tDGet (tDisp (l.map fun p => (tC (.str p.1), tC (.ref p.2)))) tb) env (.op (.ref f)) := fun σ G H g Q q p hp => by
  refine tPairs_cc l σ _ _ ⟨upd_same, l.map fun p => ((.inr p.1 : Key), V.ref p.2), by rw [List.map_map]; rfl, by rw [List.length_map]; exact hl, ?_⟩
  have e : upd (upd H p (.dK [])) p (.dK (mergeK [] (l.map fun p => ((.inr p.1 : Key), V.ref p.2)))) = upd H p (.dK (mergeK [] (l.map fun p => ((.inr p.1 : Key), V.ref p.2)))) := by
    funext b
    by_cases hb : b = p
    · rw [hb, upd_same, upd_same]
    · rw [upd_ne hb, upd_ne hb, upd_ne hb]
  rw [e]
  have t1 : Stp G H G (upd H p (.dK (mergeK [] (l.map fun p => ((.inr p.1 : Key), V.ref p.2))))) := (Stp.refl g.gh).side hp (g.gh.back hp)
  refine hw σ G _ (g.up t1) _ fun u G2 H2 t2 du => ?_
  obtain rfl := du.strV
  exact ⟨p, .ref f, rfl, .inl ⟨_, .inr w, .inl (t2.hh _ _ upd_same), rfl, hf.symm⟩, q _ G2 H2 (t1.trans t2) (.op _)⟩
end
end DL

set_option Elab.async false
set_option linter.all false
set_option maxRecDepth 100000
set_option maxHeartbeats 2000000
namespace DL
open PySem PySem.Spec PyProof.Rows L2
theorem call_isXK {X : Cx} (K : PySem.W.Frag) {a D : Addr} {d : Option Addr} {oe : Obj} {mg : Str → Option Value} {x f : Str} {fI : Addr} {cls : Value} {pn : List (Addr × Obj)} (C : ErrC K mg x f D fI) (hz : Zc cls d oe) (hf : ∃ vs, oe.data = .fields vs) (hK : X.K = K := by rfl) :
    CallR (X.suite a ((a, oe) :: pn)) (.builtin "isinstance") (fun xs H Q => cls = .ref D ∧ rIsX K D a d xs H Q) := by
  subst hK
  exact call_isX C hz hf
section
variable (K : PySem.W.Frag) (β : Bas)
/-- a suite that hands back -/
def EXHr (ts : Addr → Value → Option Addr → TS) (o : Option Nat) (cls : Value) (f : Str) (v : V) (env : Env') (P : Post) : Prop := ∀ σ G H dx a, Good K β σ env G H → H dx = some (.xd [(f, v)]) → G dx = none → H a = none →
  ∀ Dn : Ends, (∀ σ' env' G' H' v d, Good K β σ' env' G' H' → Ex G G' → Dat K G' v d → P.rt v d env' → Dn.rt v H') → ts a cls (some dx) Dn (match o with | none => σ | some i => σ.set i (some (.ref a))) H
def WH (P : Post) : List (Value × Option Nat × (Addr → Value → Option Addr → TS)) → Value → Str → V → Env' → Prop
  | [], cls, f, v, env' => P.ex cls f v env'
  | (c, o, ts) :: r, cls, f, v, env' => ∃ b, PySem.W.exmOne K cls c = some b ∧ (b = true → EXHr K β ts o cls f v env' P) ∧ (b = false → WH P r cls f v env')
end
section
variable {K : PySem.W.Frag} {β : Bas} {env : Env'} {ta tb te tc : TE} {tt tu : TT} {x y z d : D} {v w : V} {P : Post} {W : WX} {ts tr : TS}
theorem wh_go {Wout : WX} {Dn : Ends} {G : Hp} (c : Cont K β Dn P G) (xo : ExOk K β Wout P G) : ∀ (l : List (Value × Option Nat × (Addr → Value → Option Addr → TS))) {cls : Value} {f : Str} {v : V} {env' : Env'} {σ' : Sg} {G' H' : Hp} {dx : Addr},
    Good K β σ' env' G' H' → Ex G G' → H' dx = some (.xd [(f, v)]) → G' dx = none → WH K β P l cls f v env' → wManyA K Wout Dn l cls (some dx) σ' H'
  | [], _, _, _, _, _, _, _, _, g, e, h1, h2, h => xo _ _ _ _ _ _ _ _ g e h1 h2 h
  | (cl, none, ts) :: r, _, _, _, _, _, _, _, _, g, e, h1, h2, ⟨b, hb, ht, hf⟩ => ⟨b, hb, fun z a ha => ht z _ _ _ _ a g h1 h2 ha _ fun σ' env' G' H' v d g' e' => c.rt σ' env' G' H' v d g' (e.trans e'), fun z => wh_go c xo r g e h1 h2 (hf z)⟩
  | (cl, some i, ts) :: r, _, _, _, _, _, _, _, _, g, e, h1, h2, ⟨b, hb, ht, hf⟩ => ⟨b, hb, fun z a ha => ht z _ _ _ _ a g h1 h2 ha _ fun σ' env' G' H' v d g' e' => c.rt σ' env' G' H' v d g' (e.trans e'), fun z => wh_go c xo r g e h1 h2 (hf z)⟩
/-- try: .. except .. -/
theorem ex_tryA {tb : WX → TS} {l : List (Value × Option Nat × (Addr → Value → Option Addr → TS))} {Wout : WX} {PX : Value → Str → V → Env' → Prop} (hb : ∀ W, EX K β W (tb W) env { P with ex := PX })
    (hh : ∀ cls f v env', PX cls f v env' → WH K β P l cls f v env') : EX K β Wout (fun D σ H => tb (wManyA K Wout D l) D σ H) env P := fun σ G H g Dn c xo =>
  hb (wManyA K Wout Dn l) σ G H g Dn ⟨c.nx, c.rt, c.bk, c.ct⟩ fun σ' env' G' H' cls f v dx g' e q1 q2 hp => wh_go c xo l g' e q1 q2 (hh cls f v env' hp)
theorem sls_len {G H : Hp} : ∀ {σ : Sg} {env : Env'}, SlsOk K β G H σ env → σ.length = env.length
  | _, _, .nil => rfl
  | _, _, .cons _ r => by rw [List.length_cons, List.length_cons, sls_len r]
theorem EX.finTry {tb : WX → TS} {l : List (Value × Option Nat × (Addr → Value → Option Addr → TS))} {Wout : WX} {G H : Hp} {Q : VK} {σ : Sg} (g : Good K ⟨G, H, none⟩ σ env G H) (q : ∀ v G' H', Stp G H G' H' → Dat K G' v d → Q v H')
    (h : EX K ⟨G, H, none⟩ Wout (fun D σ H => tb (wManyA K Wout D l) D σ H) env { rt := fun _ d' _ => d' = d, nx := fun _ => d = .non }) :
    tb (wManyA K Wout { nx := fun _ H' => Q .non H', rt := Q } l) { nx := fun _ H' => Q .non H', rt := Q } σ H := EX.fin (t := fun D σ H => tb (wManyA K Wout D l) D σ H) g q h
/-- return [text if isinstance(e, S) else .., e.f] -/
theorem exh_ret {C fI cS : Addr} {mg : Str → Option Value} {x f s z : Str} {i : Nat} (E : ErrC K mg x f C fI) (hk : PySem.W.kitOne K (.ref C) (.ref cS) = some true) (hl : i < env.length) (hv : ∀ σ G H, Good K β σ env G H → Dat K G v d) (hP : ∀ u, P.rt u (.lst [.str s, d]) (env.set i .un)) :
    EXHr K β (fun a cls d' => tRet (tLst (tCons (tIf (tB (tCB (fun xs H Q => cls = .ref C ∧ rIsX K C a d' xs H Q) (tCons (tVar i) (tCons (tC (.ref cS)) tNil)))) (tC (.str s)) (tC (.str z))) (tCons (tXf a cls d' C f (tVar i)) tNil)))) (some i) (.ref C) f v env P := fun σ G H dx a g h1 h2 ha Dn hD => by
  have hi : (σ.set i (some (V.ref a)))[i]? = some (some (V.ref a)) := List.getElem?_set_self (by rw [sls_len g.sl]; exact hl)
  refine ⟨.ref a, hi, rfl, .ref cS, .ref cS, true, dx, _, rfl, fun u r => ?_, rfl, h1, hk, true, rfl, ?_⟩
  · exact r
  · show (if true = true then _ else _)
    rw [if_pos rfl]
    refine ⟨.ref a, hi, rfl, rfl, dx, _, v, rfl, h1, by simp [List.lookup], sz 2, fun p hp => ?_⟩
    exact hD _ _ (upd G p (.lst [.str s, v])) _ _ _ (((g.drop i (some (.ref a)))).up (.new g.gh hp)) (.new (g.gh.back hp)) (.lst upd_same (.cons (.str s) (.cons ((hv σ G H g).up (.new (g.gh.back hp))) .nil))) (hP _)
end
end DL

set_option Elab.async false
set_option linter.all false
set_option maxRecDepth 100000
set_option maxHeartbeats 2000000
namespace DL
open PySem PySem.Spec PyProof.Rows L2
theorem hu65 {k : Nat} {A : Around} (hr : Room k A) : A.units + 65 < cLine := by have := hr.un; omega
theorem mt_indexDK {X : Cx} (K : PySem.W.Frag) (hu : X.A.units + 65 < cLine) (h : X.K = K := by rfl) : MtR X "list.index" (rIndexD K) := h ▸ mt_indexD hu
section
variable {K : PySem.W.Frag} {β : Bas} {env : Env'} {ta tb te tc to : TE} {tt tu : TT} {x y z d : D} {v w : V} {P : Post} {W : WX} {ts tr : TS}
theorem ex_newS {i : Nat} {ta : TA} {ds : List D} (he : EVA K β ta env ds) (hl : ds.length ≤ sizeLine) (h : ∀ a, EX K β W tr (env.set i (.own a ds)) P) : EX K β W (tSeq (tAsg (tLst ta) (gName i)) tr) env P :=
  ex_seq (N := fun e => ∃ a, e = env.set i (.own a ds)) (ex_new he hl fun a => ⟨a, rfl⟩) fun e ⟨a, q⟩ => q ▸ h a
theorem ev_tupOwn {i : Nat} {a : Addr} {ds : List D} (hi : env[i]? = some (.own a ds)) : EV K β (tThen (tVar i) (kTup K)) env (.tup ds) := fun σ G H g Q q => by
  obtain ⟨h1, h2, h3, xs, h4, h5⟩ := g.own hi
  refine ⟨.ref a, h1, .inl ⟨a, xs, rfl, .of h4, fun p hp => q _ (upd G p (.tup xs)) _ (.new g.gh hp) (.tup (.of upd_same) (h5.up (.new (g.gh.back hp))))⟩⟩
theorem ex_whileS {tt : Env' → Bool} {ttr : TT} (I : Env' → Prop) (μ : Env' → Nat) (h0 : I env) (ht : ∀ env', I env' → EVT K β ttr env' (tt env'))
    (hs : ∀ env', I env' → tt env' = true → EX K β W ts env' { P with nx := fun e => I e ∧ μ e < μ env', ct := fun e => I e ∧ μ e < μ env', bk := fun _ => False })
    (hd : ∀ env', I env' → tt env' = false → EX K β W tr env' P) : EX K β W (tSeq (tWhile ttr ts) tr) env P :=
  ex_seq (N := fun e => I e ∧ tt e = false) (ex_while I μ h0 ht (fun env' hi hb => (hs env' hi hb).imp (fun _ h => h) (fun _ _ _ h => h) (fun _ h => h.elim) (fun _ h => h) fun _ _ _ _ h => h) fun env' hi hb => ⟨hi, hb⟩) fun env' h => hd env' h.1 h.2
theorem ex_appS {i : Nat} {a : Addr} {ds : List D} (hi : env[i]? = some (.own a ds)) (he : EV K β te env d) (hl : ds.length < sizeLine) (h : EX K β W tr (env.set i (.own a (ds ++ [d]))) P) :
    EX K β W (tSeq (tDrop (tBM K "list" rAppend (tVar i) (tCons te tNil))) tr) env P := ex_cons (ex_app hi he hl rfl) h
/-- the number in a slot -/
def slotInt (e : Env') (i : Nat) : Int := match (e[i]? : Option Sl) with
  | some (.val _ (.int c)) => c
  | _ => 0
/-! pairs.index -/
def pairZD (p : Int × Int) : D := .tup [.int p.1, .int p.2]
def pairZP (p : Int × Int) : PyData := .tuple [.int p.1, .int p.2]
theorem Dat.pr {G H : Hp} (e : Ex G H) {p : Int × Int} {v : V} (h : Dat K G v (pairZD p)) : Dp K H v (pairZP p) := by
  cases h with
  | tup a b =>
    cases b with
    | cons b1 b2 =>
    cases b2 with
    | cons b2 b3 =>
    cases b3; cases b1; cases b2
    exact .tup (ex_t e a) (.cons (.int _) (.cons (.int _) .nil))
theorem DatL.prs {G H : Hp} (e : Ex G H) : ∀ {L : List (Int × Int)} {vs : List V}, DatL K G vs (L.map pairZD) → DpAll K H vs (L.map pairZP)
  | [], _, h => by cases h; exact .nil
  | p :: L, _, h => by cases h with | cons a t => exact .cons (Dat.pr e a) (DatL.prs e t)
theorem pr_lay : ∀ L : List (Int × Int), PyData.canLayAll0 (L.map pairZP) = true
  | [] => rfl
  | p :: L => by
    show (PyData.canLay0 (pairZP p) && PyData.canLayAll0 (L.map pairZP)) = true
    rw [pr_lay L]
    rfl
theorem pr_depth : ∀ L : List (Int × Int), PyData.depthAll (L.map pairZP) ≤ 1
  | [] => Nat.zero_le _
  | p :: L => by
    show max (PyData.depth (pairZP p)) (PyData.depthAll (L.map pairZP)) ≤ 1
    have := pr_depth L
    have h : PyData.depth (pairZP p) = 1 := rfl
    omega
theorem pr_shaped (L : List (Int × Int)) : SeqAt.shaped (.list (L.map pairZP)) = true := by
  unfold SeqAt.shaped
  have h1 : PyData.canLay0 (.list (L.map pairZP)) = true := pr_lay L
  have h2 : PyData.depth (.list (L.map pairZP)) ≤ 64 := by
    show PyData.depthAll (L.map pairZP) + 1 ≤ 64
    have := pr_depth L
    omega
  rw [h1, decide_eq_true h2]
  rfl
theorem pr_eqv (p q : Int × Int) : PyData.eqv (pairZP p) (pairZP q) = decide (p = q) := by
  show (p.1 == q.1 && (p.2 == q.2 && true)) = _
  obtain ⟨a, b⟩ := p
  obtain ⟨c, d⟩ := q
  simp only [Bool.and_true, Prod.mk.injEq]
  by_cases h1 : a = c <;> by_cases h2 : b = d <;> simp [h1, h2]
theorem ev_index {L : List (Int × Int)} {p : Int × Int} {j : Nat} (h : EV K β to env (.lst (L.map pairZD))) (he : EV K β te env (pairZD p)) (hj : L[j]? = some p) (hm : ∀ m, m < j → L[m]? ≠ some p) : EV K β (tBM K "list" (rIndexD K) to (tCons te tNil)) env (.int j) := fun σ G H g Q q =>
  h σ G H g _ fun v1 G1 H1 t1 d1 => by
    obtain ⟨a, xs, rfl, ha, hx⟩ := d1.lstV
    refine ⟨.inl ⟨rfl, xs, .of (t1.gh _ _ ha)⟩, he σ G1 H1 (g.up t1) _ fun v2 G2 H2 t2 d2 => ?_⟩
    refine ⟨a, v2, pairZP p, L.map pairZP, j, pairZP p, rfl, rfl, .lst (.of (t2.hh _ _ (t1.gh _ _ ha))) (DatL.prs (t1.gh.trans t2.hh) hx), Dat.pr t2.gh d2, pr_shaped L, rfl, by rw [List.getElem?_map, hj]; rfl, by rw [pr_eqv, decide_eq_true rfl], fun m z' hlt hz => ?_, q _ G2 H2 (t1.trans t2) (.int _)⟩
    rw [List.getElem?_map] at hz
    cases hq : L[m]? with
    | none => rw [hq] at hz; cases hz
    | some p' =>
      rw [hq] at hz
      cases hz
      rw [pr_eqv]
      exact decide_eq_false fun z => hm m hlt (by rw [hq, z])
end
end DL

set_option Elab.async false
set_option linter.all false
set_option maxRecDepth 100000
set_option maxHeartbeats 2000000
namespace DL
open PySem PySem.Spec PyProof.Rows L2
section
variable {K : PySem.W.Frag} {β : Bas} {env : Env'} {ta tb te tc to : TE} {tt tu : TT} {x y z d : D} {v w : V} {P : Post} {W : WX} {ts tr : TS}
theorem Good.adopt {σ : Sg} {G H : Hp} (g : Good K β σ env G H) {p : Addr} {xs : List V} {es : List D} (i : Nat) (hβ : β.H p = none) (hG : G p = none) (hp : H p = some (.lst xs)) (hna : p ∉ owns env) (dx : DatL K G xs es) :
    Good K β (σ.set i (some (V.ref p))) (env.set i (.own p es)) G H :=
  ⟨g.gg, g.hh, g.gh, g.ow, g.bh, g.sl.set (s := .own p es) ⟨rfl, .inl hβ, hG, xs, hp, dx⟩ i, (nd_newOwn hna i g.nd).1⟩
theorem DatL.marks {G : Hp} : ∀ {xs : List V} {es : List D}, DatL K G xs es → DatL K G xs (List.zipWith D.idn xs es)
  | _, _, .nil => .nil
  | _, _, .cons a t => .cons (.idn a) (DatL.marks t)
/-- a, b = list(x), e: a a list of one's own -/
theorem ex_parL2 {i j : Nat} {tg t2 : TE} {es : List D} {P2 : V → D → Env' → Prop} (hg : EV K β tg env (.lst es)) (h2 : XE K β t2 env P2)
    (k : ∀ p xs v d e, xs.length = es.length → P2 v d e → P.nx ((e.set i (.own p (List.zipWith D.idn xs es))).set j (.val v d))) : EX K β W (tPar i j (tCons (tCB (rListOf K) (tCons tg tNil)) (tCons t2 tNil))) env P := fun σ G H g Dn c x =>
  hg σ G H g _ fun v1 G1 H1 t1 d1 => by
    obtain ⟨a, xs, rfl, ha, hx⟩ := d1.lstV
    have g1 := g.up t1
    refine ⟨a, xs, rfl, .inl (.inl (.inl (t1.gh _ _ ha))), fun p hp => ?_⟩
    have hGp : G1 p = none := t1.gh.back hp
    have g2 := g1.up ((Stp.refl t1.gh).side (o := .lst xs) hp hGp)
    refine h2 σ G1 _ g2 _ fun v d e G3 H3 g3 t3 e3 dv p2 => ?_
    have hna : p ∉ owns env := fun m => g1.there m hp
    have hβ : β.H p = none := by
      cases q : β.H p with
      | none => rfl
      | some o => exact absurd hp (g1.hn (by rw [q]; exact (fun e => nomatch e)))
    have h3 : H3 p = some (.lst xs) := t3.hh p _ hna upd_same
    have hG3 : G3 p = none := t3.ow p hGp (by rw [upd_same]; exact (fun e => nomatch e))
    have g4 := (g3.adopt i hβ hG3 h3 (by rw [e3]; exact hna) ((hx.up t3.gg).marks)).set j dv
    exact ⟨_, _, rfl, c.nx _ _ G3 H3 g4 (t1.gg.trans t3.gg) (k p xs v d e hx.length p2)⟩
/-- xs[k] = e, xs one's own, e may ask the box -/
theorem ex_setOwnX {i : Nat} {tk : TE} {P1 : V → D → Env' → Prop} (he : XE K β te env P1) (k : ∀ v d e, P1 v d e → ∃ a ds kk j, e[i]? = some (.own a ds) ∧ EV K β tk e (.int kk) ∧ ixN ds.length kk = some j ∧ P.nx (e.set i (.own a (ds.set j (.idn v d))))) :
    EX K β W (tAsg te (gSub (tVar i) tk rSetL)) env P := fun σ G H g Dn c x =>
  he σ G H g _ fun v d e G1 H1 g1 t1 e1 dv p1 => by
    obtain ⟨a, ds, kk, j, hi, hk, hj, hn⟩ := k v d e p1
    obtain ⟨h1, h2, h3, xs, h4, h5⟩ := g1.own hi
    refine ⟨.ref a, h1, hk σ G1 H1 g1 _ fun u G2 H2 t2 du => ?_⟩
    refine ⟨a, xs, kk, j, rfl, du.intV, t2.hh _ _ h4, by rw [h5.length]; exact hj, ?_⟩
    exact c.nx _ _ G2 _ ((g1.up t2).write hi ((h5.up t2.gg).set j (.idn (dv.up t2.gg)))) (t1.gg.trans t2.gg) hn
/-- a target of four names -/
theorem eg_four {i j k l n : Nat} {a b c d : D} (hn : 4 = n := by rfl) : EG K β (gTup K n (gCons (gName i) (gCons (gName j) (gCons (gName k) (gCons (gName l) gNil))))) env v (.tup [a, b, c, d]) (fun e => ∃ v1 v2 v3 v4, e = (((env.set i (.val v1 a)).set j (.val v2 b)).set k (.val v3 c)).set l (.val v4 d)) :=
  eg_tup hn fun vs σ G H g dvs Q q => by
    cases dvs with
    | cons a1 t =>
    cases t with
    | cons b1 t =>
    cases t with
    | cons c1 t =>
    cases t with
    | cons d1 t =>
    cases t
    exact ⟨_, _, rfl, _, _, rfl, _, _, rfl, _, _, rfl, rfl, q _ _ ((((g.set i a1).set j b1).set k c1).set l d1) ⟨_, _, _, _, rfl⟩⟩
theorem ex_forS {wi : TI} {g : TG} {ds : List D} (I : Nat → Env' → Prop) (hI : EVI K β wi env ds) (h0 : I 0 env)
    (hs : ∀ i env' v d, ds[i]? = some d → I i env' → ∃ Pg, EG K β g env' v d Pg ∧ ∀ env2, Pg env2 → EX K β W ts env2 { P with nx := I (i + 1), ct := I (i + 1), bk := fun _ => False })
    (hd : ∀ env', I ds.length env' → EX K β W tr env' P) : EX K β W (tSeq (tFor wi g ts) tr) env P :=
  ex_seq (N := I ds.length) (ex_for I hI h0 (fun i env' v d h1 h2 => by
    obtain ⟨Pg, h3, h4⟩ := hs i env' v d h1 h2
    exact ⟨Pg, h3, fun env2 hp => (h4 env2 hp).imp (fun _ h => h) (fun _ _ _ h => h) (fun _ h => h.elim) (fun _ h => h) fun _ _ _ _ h => h⟩) fun env' h => h) hd
theorem ex_commit' {i : Nat} {a : Addr} {ds : List D} (hi : env[i]? = some (.own a ds)) (hb : ∀ σ G H, Good K β σ env G H → β.bx ≠ some a) (h : EX K β W ts (env.set i (.val (.ref a) (.lst ds))) P) : EX K β W ts env P := fun σ G H g Dn c x => by
  obtain ⟨xs, _, _, h3, g2⟩ := g.commit hi (hb σ G H g)
  exact h σ _ H g2 Dn (c.up (.new h3)) (x.up (.new h3))
end
end DL

set_option Elab.async false
set_option linter.all false
set_option maxRecDepth 100000
set_option maxHeartbeats 2000000
namespace DL
open PySem PySem.Spec PyProof.Rows L2
section
variable {K : PySem.W.Frag} {β : Bas} {env : Env'} {ta tb te tc to : TE} {tt tu : TT} {x y z d : D} {v w : V} {P : Post} {W : WX} {ts tr : TS}
theorem for_core {g : TG} {ds : List D} {J : It} {us : List V} {σ : Sg} {G1 H1 : Hp} {Dn : Ends} (I : Nat → Env' → Prop) (g1 : Good K β σ env G1 H1) (hdl : DatL K G1 us ds) (hJ : ItV J G1 us) (h0 : I 0 env)
    (hs : ∀ i env' v d, ds[i]? = some d → I i env' → ∃ Pg, EG K β g env' v d Pg ∧ ∀ env2, Pg env2 → EX K β W ts env2 { P with nx := I (i + 1), ct := I (i + 1), bk := P.nx })
    (hd : ∀ env', I ds.length env' → P.nx env') (c : Cont K β Dn P G1) (x : ExOk K β W P G1) :
    ∃ Wt : Nat → Nat → Sg → Hp → Prop, (∃ m, Wt 0 m σ H1) ∧ ∀ i m σ H, Wt i m σ H → (J.stop i H ∧ Dn.nx σ H) ∨ (J.go i H ∧ ∃ N : Sg → Hp → Prop, (∀ σ' H', N σ' H' → ∃ m', m' < m ∧ Wt (i + 1) m' σ' H') ∧
      ∀ x H', J.yld i H x H' → g x σ H' fun σ2 H2 => ts { Dn with nx := N, ct := N, bk := Dn.nx } σ2 H2) := by
    refine ⟨fun i m σ' H' => m = us.length - i ∧ i ≤ us.length ∧ ∃ env' G', Good K β σ' env' G' H' ∧ Ex G1 G' ∧ I i env', ⟨us.length, by simp, Nat.zero_le _, env, G1, g1, .refl _, h0⟩, ?_⟩
    rintro i m σ' H' ⟨rfl, hi, env', G', g', e', hIi⟩
    by_cases hlt : i < us.length
    · have hx : us[i]? = some us[i] := List.getElem?_eq_getElem hlt
      obtain ⟨d, hdi, dx⟩ := hdl.getV hx
      obtain ⟨Pg, hg, hb⟩ := hs i env' us[i] d hdi hIi
      obtain ⟨hgo, hyl⟩ := (hJ i H' (e'.trans g'.gh)).2 _ hx
      refine .inr ⟨hgo, fun σ2 H2 => ∃ env2 G2, Good K β σ2 env2 G2 H2 ∧ Ex G1 G2 ∧ I (i + 1) env2, fun σ2 H2 z => ⟨us.length - (i + 1), by omega, rfl, hlt, z⟩, fun x0 H'' hy => ?_⟩
      obtain ⟨rfl, rfl⟩ := hyl _ _ hy
      refine hg _ _ _ g' (dx.up e') _ fun σ2 env2 g2 hp => ?_
      refine hb env2 hp σ2 G' _ g2 _ ⟨fun σ3 env3 G3 H3 g3 e3 n => ⟨env3, G3, g3, e'.trans e3, n⟩, fun σ3 env3 G3 H3 v d g3 e3 => c.rt σ3 env3 G3 H3 v d g3 (e'.trans e3), fun σ3 env3 G3 H3 g3 e3 => c.nx σ3 env3 G3 H3 g3 (e'.trans e3),
        fun σ3 env3 G3 H3 g3 e3 n => ⟨env3, G3, g3, e'.trans e3, n⟩⟩ (x.up e')
    · have hil : i = us.length := by omega
      refine .inl ⟨(hJ i H' (e'.trans g'.gh)).1 hil, ?_⟩
      refine c.nx σ' env' G' H' g' e' (hd env' ?_)
      rw [hil, hdl.length] at hIi
      exact hIi
/-- for x in [.., a draw, ..] -/
theorem ex_forXL {tl : TE} {j : Nat} {P1 : V → D → Env' → Prop} (hI : XE K β tl env P1) (hl : ∀ v d e, P1 v d e → ∃ ds, d = .lst ds ∧ ∃ I : Nat → Env' → Prop, I 0 e ∧
      (∀ i env' v' d', ds[i]? = some d' → I i env' → EX K β W ts (env'.set j (.val v' d')) { P with nx := I (i + 1), ct := I (i + 1), bk := P.nx }) ∧ (∀ env', I ds.length env' → P.nx env')) :
    EX K β W (tFor (iList K tl) (gName j) ts) env P := fun σ G H g0 Dn c x =>
  hI σ G H g0 _ fun v d e G1 H1 g1 t1 e1 dv p1 => by
    obtain ⟨ds, rfl, I, h0, hs, hd⟩ := hl v d e p1
    obtain ⟨a, xs, rfl, ga, hx⟩ := dv.lstV
    exact ⟨a, rfl, ⟨xs, .of (g1.gh _ _ ga)⟩, for_core I g1 hx (itv_list ga) h0 (fun i env' v d h1 h2 => ⟨_, eg_name, fun env2 z => by subst z; exact hs i env' v d h1 h2⟩) hd (c.up t1.gg) (x.up t1.gg)⟩
theorem ex_forXLS {tl : TE} {j : Nat} {P1 : V → D → Env' → Prop} (N : Env' → Prop) (hI : XE K β tl env P1) (hl : ∀ v d e, P1 v d e → ∃ ds, d = .lst ds ∧ ∃ I : Nat → Env' → Prop, I 0 e ∧
      (∀ i env' v' d', ds[i]? = some d' → I i env' → EX K β W ts (env'.set j (.val v' d')) { P with nx := I (i + 1), ct := I (i + 1), bk := fun _ => False }) ∧ (∀ env', I ds.length env' → N env'))
    (hd : ∀ env', N env' → EX K β W tr env' P) : EX K β W (tSeq (tFor (iList K tl) (gName j) ts) tr) env P :=
  ex_seq (N := N) (ex_forXL hI fun v d e p1 => by
    obtain ⟨ds, h1, I, h2, h3, h4⟩ := hl v d e p1
    exact ⟨ds, h1, I, h2, fun i env' v' d' q1 q2 => (h3 i env' v' d' q1 q2).imp (fun _ h => h) (fun _ _ _ h => h) (fun _ h => h.elim) (fun _ h => h) fun _ _ _ _ h => h, h4⟩) hd
/-- xs[k:] -/
theorem ev_slFrom {ds : List D} {k : Nat} (h : EV K β te env (.lst ds)) (hk : k ≤ ds.length) : EV K β (tSl (rSlL K) te (tPart (tC (.int (k : Nat)))) tNoPart) env (.lst (ds.drop k)) := fun σ G H g Q q =>
  h σ G H g _ fun v G1 H1 t1 dv => by
    obtain ⟨a, xs, rfl, ga, hx⟩ := dv.lstV
    refine ⟨(k : Nat), rfl, a, xs, rfl, .of (t1.gh _ _ ga), fun p hp => ?_⟩
    have hc : cutV xs (some ((k : Nat) : Int)) none = xs.drop k := by
      unfold cutV
      rw [HT.sIx_nat, HT.sIx_none, Nat.min_eq_left (by rw [hx.length]; exact hk), List.take_of_length_le (by rw [List.length_drop]; omega)]
    rw [hc]
    exact q _ (upd G1 p (.lst (xs.drop k))) _ (t1.trans (.new t1.gh hp)) (.lst upd_same ((hx.drop k).up (.new (t1.gh.back hp))))
theorem evv_intV {i : Int} (h : EV K β te env (.int i)) : EVv K β te env (.int i) (.int i) := fun σ G H g Q q => h σ G H g _ fun v G1 H1 t1 dv => by
  obtain rfl := dv.intV
  exact q G1 H1 t1 (.int i)
theorem XA.imp {ta : TA} {P P' : List V → List D → Env' → Prop} (h : XA K β ta env P) (i : ∀ v d e, P v d e → P' v d e) : XA K β ta env P' := fun σ G H g Q q => h σ G H g Q fun v d env' G' H' g' t e dv p => q v d env' G' H' g' t e dv (i _ _ _ p)
theorem xa_nilP {P : List V → List D → Env' → Prop} (h : P [] [] env) : XA K β tNil env P := fun σ G H g Q q => q [] [] env G H g (.refl g.gh) rfl .nil h
theorem op_neDNil : True := trivial
end
end DL

set_option Elab.async false
set_option linter.all false
set_option maxRecDepth 100000
set_option maxHeartbeats 2000000
namespace DL
open PySem PySem.Spec PyProof.Rows L2
/-! ### comprehensions with any number of `for` -/
/-- one turn of the clause at place j, whatever stands behind it -/
theorem turn_any {elt : Expr} {gens : List Comprehension} {scope : Scope} {pos : Pos} {j : Nat} {tg iter : Expr} {ifs : List Expr} {it acc : Value} {env : Env} (hj : gens[j]? = some ⟨tg, iter, ifs, 0⟩) :
    compTurn (.ListComp elt gens scope pos) j it acc env = (do
      standAt iter.pos
      match ← pyNext it with
      | none => pure (.done .next)
      | some v =>
        letOwnedTupleGo tg it v
        assign tg env v
        let mut ok := true
        for c in ifs do
          if ok then ok ← isTrue c env (eval c env)
        if ok then
          match gens[j + 1]? with
          | some g' =>
            let x ← eval g'.iter env
            standAt g'.iter.pos
            let x ← if g'.is_async != 0 then foldedIterable g'.iter x else foldedSetIterable g'.iter env x
            let _ ← runOwn (.compStart (.ListComp elt gens scope pos) (j + 1) (← holding [x] (if g'.is_async != 0 then asyncIter x else pyIter x)) acc env) env
          | none => (do let _ ← call (.builtin "list.append") [acc, ← eval elt env])
        again (.compLoop (.ListComp elt gens scope pos) j it acc env)) := by
  unfold compTurn
  dsimp only
  rw [hj]
  rfl
section
variable {prog : Program} {w : World} {A : Around} {R : Result → Shared → Prop} {s : Shared} {elt tg iter t1 i1 : Expr} {ifs ifs1 : List Expr} {gens : List Comprehension} {scope : Scope} {pos : Pos} {j : Nat} {it acc : Value} {env : Env}
/-- what a turn of a clause wants: B, of the state where the tests have let it through -/
def TurnW (prog : Program) (w : World) (A : Around) (R : Result → Shared → Prop) (env : Env) (tg : Expr) (ifs : List Expr) (it : Value) (I : Nat → Shared → Prop) (B : Nat → Shared → Prop) (n : Nat) (s : Shared) : Prop :=
  wpAny (model prog w) A (pyNext it) (fun r a => match r with
    | none => R (.ok .next) a
    | some v => wpAny (model prog w) A (letOwnedTupleGo tg it v) (fun _ b => wpAny (model prog w) A (assign tg env v) (fun _ c =>
        wpAny (model prog w) A (forIn ifs true fun c r => if r = true then do let ok ← isTrue c env (eval c env); pure (ForInStep.yield ok) else pure (ForInStep.yield r)) (fun ok d => if ok = true then B n d else ∃ m, m < n ∧ I m d)
          (notedBy (model prog w) A env fun e z => R (.error e) z) c) (notedBy (model prog w) A env fun e z => R (.error e) z) b) (notedBy (model prog w) A env fun e z => R (.error e) z) a) (notedBy (model prog w) A env fun e z => R (.error e) z) s
/-- the loop of the last clause -/
theorem loop_last (hj : gens[j]? = some ⟨tg, iter, ifs, 0⟩) (hl : gens[j + 1]? = none) (I : Nat → Shared → Prop)
    (turn : ∀ n s, I n s → TurnW prog w A R env tg ifs it I (fun n d => wpAny (model prog w) A (eval elt env) (fun x e => wpAny (model prog w) A (call (.builtin "list.append") [acc, x]) (fun _ z => ∃ m, m < n ∧ I m z) (notedBy (model prog w) A env fun e z => R (.error e) z) e) (notedBy (model prog w) A env fun e z => R (.error e) z) d) n s)
    (n : Nat) (h : I n s) : codeAny (model prog w) A (.compLoop (.ListComp elt gens scope pos) j it acc env) R s := by
  refine codeAny_loop rfl I (fun n s hI => ?_) n h
  show wpAny _ A ((compTurn (.ListComp elt gens scope pos) j it acc env).onRaise (fun x => do noteFrame x env; theTreesLotGoes x)) _ _ s
  refine wpAny_noted ?_
  rw [turn_any hj, hl]
  refine wpAny_bind (wpAny_standAt (wpAny_bind (wpAny_mono (turn n s hI) (fun r a ha => ?_) fun _ _ z => z)))
  cases r with
  | none => exact wpAny_pure ha
  | some v =>
    refine wpAny_bind (wpAny_mono ha (fun _ b hb => ?_) fun _ _ z => z)
    refine wpAny_bind (wpAny_mono hb (fun _ c hc => wpAny_bind (wpAny_mono hc (fun ok d hd => ?_) fun _ _ z => z)) fun _ _ z => z)
    cases ok with
    | false => exact wpAny_pure ⟨rfl, hd⟩
    | true => exact wpAny_bind (wpAny_bind (wpAny_mono hd (fun x e he => wpAny_bind (wpAny_mono he (fun _ y hy => wpAny_pure (wpAny_pure ⟨rfl, hy⟩)) fun _ _ z => z)) fun _ _ z => z))
/-- the loop of a clause with another behind it -/
theorem loop_mid (hj : gens[j]? = some ⟨tg, iter, ifs, 0⟩) (hl : gens[j + 1]? = some ⟨t1, i1, ifs1, 0⟩) (hs : ∀ x, foldedSetIterable i1 env x = pure x) (I : Nat → Shared → Prop)
    (turn : ∀ n s, I n s → TurnW prog w A R env tg ifs it I (fun n d => wpAny (model prog w) A (eval i1 env) (fun x e => wpAny (model prog w) A (pyIter x) (fun u f =>
      codeAny (model prog w) A (.compStart (.ListComp elt gens scope pos) (j + 1) u acc env) (fun r z => match r with
        | .ok _ => ∃ m, m < n ∧ I m z
        | .error _ => False) f) (notedBy (model prog w) A env fun e z => R (.error e) z) e) (notedBy (model prog w) A env fun e z => R (.error e) z) d) n s)
    (n : Nat) (h : I n s) : codeAny (model prog w) A (.compLoop (.ListComp elt gens scope pos) j it acc env) R s := by
  refine codeAny_loop rfl I (fun n s hI => ?_) n h
  show wpAny _ A ((compTurn (.ListComp elt gens scope pos) j it acc env).onRaise (fun x => do noteFrame x env; theTreesLotGoes x)) _ _ s
  refine wpAny_noted ?_
  rw [turn_any hj, hl]
  refine wpAny_bind (wpAny_standAt (wpAny_bind (wpAny_mono (turn n s hI) (fun r a ha => ?_) fun _ _ z => z)))
  cases r with
  | none => exact wpAny_pure ha
  | some v =>
    refine wpAny_bind (wpAny_mono ha (fun _ b hb => ?_) fun _ _ z => z)
    refine wpAny_bind (wpAny_mono hb (fun _ c hc => wpAny_bind (wpAny_mono hc (fun ok d hd => ?_) fun _ _ z => z)) fun _ _ z => z)
    cases ok with
    | false => exact wpAny_pure ⟨rfl, hd⟩
    | true =>
      refine wpAny_bind (wpAny_mono hd (fun x e he => ?_) fun _ _ z => z)
      refine wpAny_bind (wpAny_standAt (wpAny_bind (wpAny_of_eq (hs x) (wpAny_bind (wpAny_holding (wpAny_mono he (fun u f hf => ?_) fun _ _ z => z))))))
      refine wpAny_bind (wpAny_runOwn ?_)
      rw [Around.mark_none]
      refine codeAny_mono hf fun r z hr => ?_
      cases r with
      | ok y => first | exact wpAny_pure ⟨rfl, hr⟩ | exact wpAny_bind (wpAny_pure (wpAny_pure ⟨rfl, hr⟩))
      | error y => exact hr.elim
/-- the start of a clause behind the first -/
theorem start_any (hj : gens[j]? = some ⟨tg, iter, ifs, 0⟩) (h0 : codeAny (model prog w) A (.compLoop (.ListComp elt gens scope pos) j it acc env) R s)
    (h : wpAny (model prog w) A (pyIter it) (fun u z => codeAny (model prog w) A (.compLoop (.ListComp elt gens scope pos) j u acc env) R z) (notedBy (model prog w) A env fun x z => R (.error x) z) s) :
    codeAny (model prog w) A (.compStart (.ListComp elt gens scope pos) j it acc env) R s := by
  refine codeAny_of_tree ?_
  show wpAny _ _ ((compStart (.ListComp elt gens scope pos) j it acc env).onRaise (fun x => do noteFrame x env; standAt theWindowsPlace)) _ _ s
  refine wpAny_notedAt ?_
  unfold compStart
  have hcl : (clausesOf (.ListComp elt gens scope pos))[j]? = some ⟨tg, iter, ifs, 0⟩ := hj
  rw [hcl]
  show wpAny _ _ (ask >>= _) _ _ s
  refine wpAny_bind (wpAny_askSetting (wpAny_ite ?_))
  split
  · first
      | exact wpAny_bind (wpAny_pure (wpAny_pure (And.intro rfl h0)))
      | exact wpAny_pure (And.intro rfl h0)
  · first
      | exact wpAny_bind (wpAny_rule (wpAny_bind (wpAny_standAt (wpAny_bind (wpAny_mono h (fun u z y => wpAny_pure (And.intro rfl y)) fun _ _ x => x)))))
      | (refine wpAny_bind (wpAny_rule ?_); show wpAny _ _ (standAt iter.pos >>= _) _ _ s; exact wpAny_bind (wpAny_standAt (wpAny_bind (wpAny_mono h (fun u z y => wpAny_pure (And.intro rfl y)) fun _ _ x => x))))
end

/-! ### the reading -/
abbrev Cl := TI × TG × TT × List Nat
/-- the clauses behind the first, then the item -/
def tIn (D : Addr) (te : TE) : List Cl → Sg → Hp → (Hp → Prop) → Prop
  | [], σ, H, Nx => te σ H fun y H7 => ∃ acc, H7 D = some (.lst acc) ∧ acc.length < sizeLine ∧ Nx (upd H7 D (.lst (acc ++ [y])))
  | (wi, g, tt, vs) :: r, σ, H, Nx => wi σ H fun J H4 => ∃ W1 : Nat → Nat → Hp → Prop, (∃ m, W1 0 m H4) ∧ ∀ j k H, W1 j k H → (J.stop j H ∧ Nx H) ∨ (J.go j H ∧ ∃ Nx1 : Hp → Prop, (∀ H', Nx1 H' → ∃ k', k' < k ∧ W1 (j + 1) k' H') ∧
      ∀ x H', J.yld j H x H' → g x (L2.wipe σ vs) H' fun σ3 H5 => L2.wipe σ3 vs = L2.wipe σ vs ∧ tt σ3 H5 fun b H6 => if b = true then tIn D te r σ3 H6 Nx1 else Nx1 H6)
/-- the clauses of the text have these readings; the names of a later clause are among those of an earlier one -/
inductive Cls (B : Cx) : List Nat → List Comprehension → List Cl → Prop
  | nil {vs : List Nat} : Cls B vs [] []
  | cons {vs vs' : List Nat} {tg iter : Expr} {ifs : List Expr} {gs : List Comprehension} {wi : TI} {g : TG} {tt : TT} {r : List Cl} (hi : PI B tg iter wi) (hg : PG B tg g) (ht : PTs B ifs tt) (hs : ∀ x, foldedSetIterable iter B.env x = pure x) (hv : ∀ i ∈ vs', i ∈ vs)
      (hr : Cls B vs' gs r) : Cls B vs (⟨tg, iter, ifs, 0⟩ :: gs) ((wi, g, tt, vs') :: r)
/-- where the slots stand behind the clauses -/
def endSl (σ : Sg) : List Cl → Sg
  | [] => σ
  | c :: _ => L2.wipe σ c.2.2.2
/-- what stands at place j: the next clause's source and its loop, or the item -/
def StepW (B : Cx) (A : Around) (NE : Value → Shared → Prop) (elt : Expr) (gens : List Comprehension) (scope : Scope) (pos : Pos) (j : Nat) (acc : Value) (P : Shared → Prop) (s : Shared) : List Comprehension → Prop
  | [] => wpAny (model B.prog B.w) A (eval elt B.env) (fun x e => wpAny (model B.prog B.w) A (call (.builtin "list.append") [acc, x]) (fun _ z => P z) NE e) NE s
  | g :: _ => wpAny (model B.prog B.w) A (eval g.iter B.env) (fun x e => wpAny (model B.prog B.w) A (pyIter x) (fun u f => codeAny (model B.prog B.w) A (.compStart (.ListComp elt gens scope pos) j u acc B.env) (fun r z => match r with
      | .ok _ => P z
      | .error _ => False) f) NE e) NE s
theorem endSl_length (σ : Sg) : ∀ r : List Cl, (endSl σ r).length = σ.length
  | [] => rfl
  | _ :: _ => L2.wipe_length _ _
theorem endSl_keep {B : Cx} {vs : List Nat} {gs : List Comprehension} {r : List Cl} (h : Cls B vs gs r) {σ : Sg} {j : Nat} {v : V} (e : (L2.wipe σ vs)[j]? = some (some v)) : (endSl σ r)[j]? = some (some v) := by
  obtain ⟨e1, e2⟩ := L2.wipe_some e
  cases h with
  | nil => exact e1
  | cons hi hg ht hs hv hr =>
    show (L2.wipe σ _)[j]? = _
    rw [L2.wipe_out fun z => e2 (hv j z)]
    exact e1
theorem cls_core {B : Cx} {elt : Expr} {gens : List Comprehension} {scope : Scope} {pos : Pos} {D : Addr} {te : TE} (hc : B.calm = true) (hx : B.xe = fun _ _ => False) (he : PE B elt te) :
    ∀ (r : List Cl) (gs : List Comprehension) (vs : List Nat), Cls B vs gs r → ∀ (j : Nat), (∀ k, gens[j + k]? = gs[k]?) → ∀ (NE : Value → Shared → Prop) (pins : List (Addr × Obj)) (σ : Sg) (H : Hp) (s : Shared) (Nx : Hp → Prop), Inv B pins σ H s → tIn D te r σ H Nx →
      ∀ P : Shared → Prop, (∀ z H', Inv B pins (endSl σ r) H' z → Nx H' → P z) → StepW B B.A NE elt gens scope pos j (.ref D) P s gs := by
  intro r
  induction r with
  | nil =>
    intro gs vs hcl j hj NE pins σ H s Nx I h P hP
    cases hcl
    have q := he.run pins s σ H _ I h
    rw [hx] at q
    exact thnF q fun x e ⟨yv, H7, I7, r7, acc, hD7, hz7, nx⟩ => app_ok (X := B) I7 hD7 hz7 r7 fun z Iz => hP z _ Iz nx
  | cons c r ih =>
    intro gs vs hcl j hj NE pins σ H s Nx I h P hP
    obtain ⟨wi, g, tt, vs'⟩ := c
    cases hcl with
    | @cons _ _ tg iter ifs gs' _ _ _ _ hi hg ht hs hv hr =>
    have hj0 : gens[j]? = some ⟨tg, iter, ifs, 0⟩ := hj 0
    have hj1 : ∀ k, gens[j + 1 + k]? = gs'[k]? := fun k => by rw [Nat.add_assoc, Nat.add_comm 1 k]; exact hj (k + 1)
    have q := hi.run pins s σ H _ I h
    rw [hx] at q
    refine thnF q fun xv e hxv => ?_
    refine thnF hxv fun itv f hf => ?_
    obtain ⟨it1, fp1, tn1, J1, H11, e1, I11, T1, st11, f11, W1, ⟨m1, w1⟩, turn1⟩ := hf
    subst e1
    have stat1 : ∀ {H' : Hp}, (∀ b ∈ fp1, H' b = none) → ∀ b ∈ fp1, FpOk B pins H' b := fun hn b hb => ⟨hn b hb, (f11 b hb).2⟩
    have loop : codeAny (model B.prog B.w) B.A (.compLoop (.ListComp elt gens scope pos) j (.ref it1) (.ref D) B.env) (fun r z => match r with
        | .ok _ => P z
        | .error _ => False) f := by
      have turn : ∀ k z, (fun k z => ∃ jj H', Inv B pins (L2.wipe σ vs') H' z ∧ tn1 jj z.heap ∧ (∀ b ∈ fp1, H' b = none) ∧ W1 jj k H') k z →
          TurnW B.prog B.w B.A (fun r z => match r with
            | .ok _ => P z
            | .error _ => False) B.env tg ifs (.ref it1) (fun k z => ∃ jj H', Inv B pins (L2.wipe σ vs') H' z ∧ tn1 jj z.heap ∧ (∀ b ∈ fp1, H' b = none) ∧ W1 jj k H')
            (fun n d => StepW B B.A (notedBy (model B.prog B.w) B.A B.env fun e z => False) elt gens scope pos (j + 1) (.ref D) (fun z => ∃ m, m < n ∧ ∃ jj H', Inv B pins (L2.wipe σ vs') H' z ∧ tn1 jj z.heap ∧ (∀ b ∈ fp1, H' b = none) ∧ W1 jj m H') d gs') k z := by
        rintro k s12 ⟨jj, H12, I12, st12, n12, w12⟩
        rcases turn1 jj k H12 w12 with ⟨stop1, nx1⟩ | ⟨go1, Nx1, hNx1, step1⟩
        · refine thnF (T1.done B rfl rfl rfl hc jj _ s12 (L2.wipe σ vs') H12 (fun _ _ => False) I12 (stat1 n12) st12 stop1) fun r s13 ⟨hr, I13⟩ => ?_
          subst hr
          exact hP s13 H12 I13 nx1
        · refine thnF (T1.item B rfl rfl rfl hc jj _ s12 (L2.wipe σ vs') H12 (fun _ _ => False) I12 (stat1 n12) st12 go1) fun r s13 ⟨u1, hr, h13⟩ => ?_
          subst hr
          refine thnF h13 fun _ s14 ⟨x1, H14, I14, r14, y14, st14, n14⟩ => ?_
          have I14' := I14.pinned (stat1 n14) (T1.obj _ _ st14)
          have qg := hg.run _ s14 (L2.wipe σ vs') H14 x1 u1 _ I14' r14 (step1 x1 H14 y14)
          rw [hx] at qg
          refine thnF qg fun _ s15 ⟨σ15, H15, I15, hw15, q15⟩ => ?_
          have qt := ht.run _ s15 σ15 H15 _ I15 q15
          rw [hx] at qt
          refine thnF qt fun b1 s16 ⟨H16, I16, q16⟩ => ?_
          have fin1 : ∀ {σx : Sg} {s' : Shared} {H' : Hp}, Inv B (pins ++ pinsAt fp1 s14.heap) σx H' s' → (L2.wipe σ vs').length = σx.length → (∀ (i : Nat) v, (L2.wipe σ vs')[i]? = some (some v) → σx[i]? = some (some v)) → Nx1 H' →
              ∃ m, m < k ∧ ∃ jj H', Inv B pins (L2.wipe σ vs') H' s' ∧ tn1 jj s'.heap ∧ (∀ b ∈ fp1, H' b = none) ∧ W1 jj m H' := fun {σx s' H'} I' hl hk nx => by
            obtain ⟨m', hm, w'⟩ := hNx1 H' nx
            have pin' : ∀ b ∈ fp1, ∀ o, s14.heap.get? b = some o → s'.heap.get? b = some o ∧ H' b = none := fun b hb o e =>
              let z := I'.pin (b, o) (List.mem_append_right _ (List.mem_append_right _ (mem_pinsAt hb e)))
              ⟨z.1, z.2.1⟩
            refine ⟨m', hm, jj + 1, H', I'.unpinned.weak hl hk, T1.keep _ _ _ st14 fun b hb o e => (pin' b hb o e).1, fun b hb => ?_, w'⟩
            obtain ⟨o, e, _⟩ := T1.obj _ _ st14 b hb
            exact (pin' b hb o e).2
          have len15 : (L2.wipe σ vs').length = σ15.length := by rw [← hw15, L2.wipe_length]
          cases b1 with
          | false =>
            simp only [Bool.false_eq_true, if_false] at q16 ⊢
            exact fin1 I16 len15 (fun i v e => by rw [← hw15] at e; exact (L2.wipe_some e).1) q16
          | true =>
            simp only [if_true] at q16 ⊢
            exact ih gs' vs' hr (j + 1) hj1 _ _ σ15 H16 s16 Nx1 I16 q16 _ fun z H' Iz nz => fin1 Iz (by rw [len15, endSl_length]) (fun i v e => endSl_keep hr (by rw [hw15]; exact e)) nz
      have start : (fun k z => ∃ jj H', Inv B pins (L2.wipe σ vs') H' z ∧ tn1 jj z.heap ∧ (∀ b ∈ fp1, H' b = none) ∧ W1 jj k H') m1 f :=
        ⟨0, H11, I11.weak (L2.wipe_length _ _) (fun j v e => (L2.wipe_some e).1), st11, fun b hb => (f11 b hb).1, w1⟩
      cases hr with
      | nil => exact loop_last hj0 (hj1 0) _ turn m1 start
      | cons hi' hg' ht' hs' hv' hr' => exact loop_mid hj0 (hj1 0) hs' _ turn m1 start
    exact start_any hj0 loop (T1.self B.A 0 _ _ _ st11 loop)
end DL

set_option Elab.async false
set_option linter.all false
set_option maxRecDepth 100000
set_option maxHeartbeats 2000000
namespace DL
open PySem PySem.Spec PyProof.Rows L2
/-- [elt for tg in iter if .. for .. ..]: the first clause opens the block, the rest is tIn's -/
def tLcN (wi : TI) (g : TG) (tt : TT) (r : List Cl) (te : TE) (vs : List Nat) : TE := fun σ H Q => wi σ H fun J H1 => ∀ D, H1 D = none → ∃ W : Nat → Nat → Hp → Prop, (∃ m, W 0 m (upd H1 D (.lst []))) ∧ ∀ i m H, W i m H →
  (J.stop i H ∧ Q (.ref D) H) ∨ (J.go i H ∧ ∃ Nx : Hp → Prop, (∀ H', Nx H' → ∃ m', m' < m ∧ W (i + 1) m' H') ∧
    ∀ x H', J.yld i H x H' → g x (L2.wipe σ vs) H' fun σ2 H2 => L2.wipe σ2 vs = L2.wipe σ vs ∧ tt σ2 H2 fun b H3 => if b = true then tIn D te r σ2 H3 Nx else Nx H3)
section
variable {X : Cx}
theorem pe_lcN {elt tg iter : Expr} {ifs : List Expr} {gs : List Comprehension} {scope : Scope} {own : List (Str × Nat)} {pos : Pos} {wi : TI} {g : TG} {tt : TT} {r : List Cl} {te : TE} (hc : X.calm = true) (hN : X.N.Nodup) (hi : PI X tg iter wi) (ok : BlkOk X.N X.env.scope scope own)
    (hg : ∀ (s : Shared) (H : Hp) (C : Addr) (cl : List (Str × Addr)) (fp : List Addr), PG (X.blk s H scope (compEnvC scope cl C X.env) fp) tg g) (ht : ∀ (s : Shared) (H : Hp) (C : Addr) (cl : List (Str × Addr)) (fp : List Addr), PTs (X.blk s H scope (compEnvC scope cl C X.env) fp) ifs tt)
    (hcl : ∀ (s : Shared) (H : Hp) (C : Addr) (cl : List (Str × Addr)) (fp : List Addr), Cls (X.blk s H scope (compEnvC scope cl C X.env) fp) (own.map (·.2)) gs r)
    (he : ∀ (s : Shared) (H : Hp) (C : Addr) (cl : List (Str × Addr)) (fp : List Addr), PE (X.blk s H scope (compEnvC scope cl C X.env) fp) elt te) (hs : ∀ x, foldedSetIterable iter X.env x = pure x := by intro _; rfl) :
    PE X (.ListComp elt (⟨tg, iter, ifs, 0⟩ :: gs) scope pos) (tLcN wi g tt r te (own.map (·.2))) := by
  refine ⟨fun pins s σ H Q I h => ?_⟩
  rw [eval_ListComp]
  have cells : closureFor scope X.env = pure (cloFrom X.env.cells scope.names []) := closure_ok fun y hy e => (ok.free y hy e).elim (fun k => I.ok.has _ (.inl k)) fun k => I.ok.has _ (.inr k)
  refine wpAny_comprehension_free rfl hs cells ok.kind (fun y hy e => by rw [ok.uniq y hy, e]) (thn (hi.run pins s σ H _ I h) fun xv sa ha => thn ha fun itv sb hb => ?_)
  obtain ⟨it, fp, tn, J, Hb, ei, Ib, T, st, free, q⟩ := hb
  subst ei
  refine wpAny_newObj_type (newEnv_comp ?_) (by show 0 ≤ sizeLine; decide)
  obtain ⟨W, ⟨m0, w0⟩, turn⟩ := q _ (Ib.hok.fresh (Nat.le_refl sb.heap.objs.size))
  -- the list, then the block's names
  have Ic : Inv X pins σ (upd Hb sb.heap.objs.size (.lst [])) { sb with heap := sb.heap.push { cls := .type "list", data := .seq ([] : List Value).toArray } } :=
    Ib.laid (t' := sb.toks) (fun b o e => Heap.get?_push_of_some _ e) (Nat.le_refl _) ⟨Nat.zero_le _, [], 0, .nil, Heap.get?_push_size _ rfl⟩
  have fc : ∀ b ∈ fp, FpOk X pins (upd Hb sb.heap.objs.size (.lst [])) b ∧ b < (sb.heap.push { cls := .type "list", data := .seq ([] : List Value).toArray }).objs.size := fun b hb => by
    obtain ⟨o, e, _⟩ := T.obj _ _ st b hb
    have lt := Heap.lt_size e
    exact ⟨⟨by rw [upd_ne (Nat.ne_of_lt lt)]; exact (free b hb).1, (free b hb).2⟩, by rw [Heap.size_push]; exact Nat.lt_succ_of_lt lt⟩
  have stc : tn 0 (sb.heap.push { cls := .type "list", data := .seq ([] : List Value).toArray }) := T.keep _ _ _ st fun b _ o e => Heap.get?_push_of_some _ e
  generalize hD : sb.heap.objs.size = D at Ic fc w0 turn ⊢
  generalize hsc : ({ sb with heap := sb.heap.push { cls := .type "list", data := .seq ([] : List Value).toArray } } : Shared) = sc at Ic ⊢
  have hcs : sb.heap.push { cls := .type "list", data := .seq ([] : List Value).toArray } = sc.heap := by rw [← hsc]
  rw [hcs] at fc stc
  have Id := block_start Ic ok hN fc
  have st2 : tn 0 (pushCells (sc.heap.push { cls := .type "dict", data := .dict #[] }) scope.names) := T.keep _ _ _ stc fun b _ o e => pushCells_keeps _ _ _ _ (Heap.get?_push_of_some _ e)
  generalize hH : upd Hb D (.lst []) = H3 at Ic fc w0 Id
  have pg := hg sc H3 sc.heap.objs.size (cellsFrom (sc.heap.objs.size + 1) scope.names (cloFrom X.env.cells scope.names [])) fp
  have pt := ht sc H3 sc.heap.objs.size (cellsFrom (sc.heap.objs.size + 1) scope.names (cloFrom X.env.cells scope.names [])) fp
  have pc := hcl sc H3 sc.heap.objs.size (cellsFrom (sc.heap.objs.size + 1) scope.names (cloFrom X.env.cells scope.names [])) fp
  have pe := he sc H3 sc.heap.objs.size (cellsFrom (sc.heap.objs.size + 1) scope.names (cloFrom X.env.cells scope.names [])) fp
  show codeAny (model X.prog X.w) X.A (.compStart (.ListComp elt (⟨tg, iter, ifs, 0⟩ :: gs) scope pos) 0 (.ref it) (.ref D) (compEnvC scope (cellsFrom (sc.heap.objs.size + 1) scope.names (cloFrom X.env.cells scope.names [])) sc.heap.objs.size X.env))
    (compPost (model X.prog X.w) X.A X.xe none (EP X pins σ Q) (.ref D) sc.heap.objs.size) { sc with heap := pushCells (sc.heap.push { cls := .type "dict", data := .dict #[] }) scope.names }
  generalize hce : compEnvC scope (cellsFrom (sc.heap.objs.size + 1) scope.names (cloFrom X.env.cells scope.names [])) sc.heap.objs.size X.env = ce at Id pg pt pc pe ⊢
  have cL : ce.locals = sc.heap.objs.size := by subst hce; rfl
  generalize hsd : ({ sc with heap := pushCells (sc.heap.push { cls := .type "dict", data := .dict #[] }) scope.names } : Shared) = sd at Id ⊢
  have std : tn 0 sd.heap := by rw [← hsd]; exact st2
  have can : ∀ {σ' : Sg} {H' : Hp} {z : Shared}, Inv (X.blk sc H3 scope ce fp) [] σ' H' z → (∀ b ∈ fp, H' b = none) → ∀ b ∈ fp, FpOk (X.blk sc H3 scope ce fp) [] H' b := fun I' hn b hb =>
    ⟨hn b hb, (I'.ok.exf b hb).1, I'.ok.exfs b hb, .inl hb, fun x c e => (I'.ok.exf b hb).2 x c e, fun p hp => absurd (show p ∈ ([] : List (Addr × Obj)) ++ [] from hp) (by simp)⟩
  have go : ∀ n z, (fun n z => ∃ i H', Inv (X.blk sc H3 scope ce fp) [] (L2.wipe σ (own.map (·.2))) H' z ∧ tn i z.heap ∧ (∀ b ∈ fp, H' b = none) ∧ W i n H') n z →
      TurnW X.prog X.w X.A (compPost (model X.prog X.w) X.A X.xe none (EP X pins σ Q) (.ref D) sc.heap.objs.size) ce tg ifs (.ref it) (fun n z => ∃ i H', Inv (X.blk sc H3 scope ce fp) [] (L2.wipe σ (own.map (·.2))) H' z ∧ tn i z.heap ∧ (∀ b ∈ fp, H' b = none) ∧ W i n H')
        (fun n d => StepW (X.blk sc H3 scope ce fp) X.A (notedBy (model X.prog X.w) X.A ce fun e z => compPost (model X.prog X.w) X.A X.xe none (EP X pins σ Q) (.ref D) sc.heap.objs.size (.error e) z) elt (⟨tg, iter, ifs, 0⟩ :: gs) scope pos 1 (.ref D)
          (fun z => ∃ m, m < n ∧ ∃ i H', Inv (X.blk sc H3 scope ce fp) [] (L2.wipe σ (own.map (·.2))) H' z ∧ tn i z.heap ∧ (∀ b ∈ fp, H' b = none) ∧ W i m H') d gs) n z := by
    rintro n z ⟨i, H5, I5, t5, n5, w5⟩
    rcases turn i n H5 w5 with ⟨stop, qq⟩ | ⟨more, Nx, hNx, step⟩
    · refine thnF (T.done (X.blk sc H3 scope ce fp) rfl rfl rfl hc i [] z _ H5 (fun _ _ => False) I5 (can I5 n5) t5 stop) fun r y ⟨hr, I6⟩ => ?_
      subst hr
      have I7 : Inv X pins σ H5 y := Ic.call' (ch := fp) I6.os I6.base I6.hok I6.bare fun b hb => ⟨(fc b hb).1.2.2.2.1, (fc b hb).1.2.1, (fc b hb).1.2.2.2.2.1, (fc b hb).1.2.2.2.2.2⟩
      have nC : H5 sc.heap.objs.size = none := by rw [← cL]; exact I6.free
      obtain ⟨m, hn, _⟩ := I6.loc
      obtain ⟨f0, f1, _, f3, f4, f5⟩ := Ic.fpOk (Nat.le_refl _) nC
      exact ⟨m, by rw [← cL]; exact hn, fun h2 sb2 => ⟨.ref D, H5, I7.turned (t' := y.toks) (fun b o hb e => (sb2.2 b hb).trans e) f0 f1 f3 f4 f5, rfl, qq⟩⟩
    · refine thnF (T.item (X.blk sc H3 scope ce fp) rfl rfl rfl hc i [] z _ H5 (fun _ _ => False) I5 (can I5 n5) t5 more) fun r y ⟨u, hr, h6⟩ => ?_
      subst hr
      refine thnF h6 fun _ s7 ⟨x, H7, I7, r7, y7, t7, n7⟩ => ?_
      refine thnF (pg.run _ s7 _ H7 x u _ (I7.pinned (can I7 n7) (T.obj _ _ t7)) r7 (step x H7 y7)) fun _ s8 ⟨σ8, H8, I8, hw8, q8⟩ => ?_
      refine thnF (pt.run _ s8 σ8 H8 _ I8 q8) fun b s9 ⟨H9, I9, q9⟩ => ?_
      have len8 : (L2.wipe σ (own.map (·.2))).length = σ8.length := by rw [← hw8, L2.wipe_length]
      have back : ∀ {σx : Sg} {z' : Shared} {H' : Hp}, Inv (X.blk sc H3 scope ce fp) ([] ++ pinsAt fp s7.heap) σx H' z' → (L2.wipe σ (own.map (·.2))).length = σx.length → (∀ (k : Nat) v, (L2.wipe σ (own.map (·.2)))[k]? = some (some v) → σx[k]? = some (some v)) → Nx H' →
          ∃ m, m < n ∧ ∃ i H', Inv (X.blk sc H3 scope ce fp) [] (L2.wipe σ (own.map (·.2))) H' z' ∧ tn i z'.heap ∧ (∀ b ∈ fp, H' b = none) ∧ W i m H' := fun {σx z' H'} I' hl hk nx => by
        obtain ⟨m', hm, w'⟩ := hNx H' nx
        have there : ∀ b ∈ fp, ∀ o, s7.heap.get? b = some o → z'.heap.get? b = some o ∧ H' b = none := fun b hb o e =>
          ⟨(I'.pin (b, o) (List.mem_append_right _ (List.mem_append_right _ (mem_pinsAt hb e)))).1, (I'.pin (b, o) (List.mem_append_right _ (List.mem_append_right _ (mem_pinsAt hb e)))).2.1⟩
        refine ⟨m', hm, i + 1, H', (I'.unpinned (pins := [])).weak hl hk, T.keep _ _ _ t7 fun b hb o e => (there b hb o e).1, fun b hb => ?_, w'⟩
        obtain ⟨o, e, _⟩ := T.obj _ _ t7 b hb
        exact (there b hb o e).2
      cases b with
      | false =>
        simp only [Bool.false_eq_true, if_false] at q9 ⊢
        exact back I9 len8 (fun k v e => by rw [← hw8] at e; exact (L2.wipe_some e).1) q9
      | true =>
        simp only [if_true] at q9 ⊢
        exact cls_core (B := X.blk sc H3 scope ce fp) (gens := ⟨tg, iter, ifs, 0⟩ :: gs) hc rfl pe r gs _ pc 1 (fun k => by rw [Nat.add_comm]; rfl) _ _ σ8 H9 s9 Nx I9 q9 _ fun z' H' Iz nz => back Iz (by rw [len8, endSl_length]) (fun k v e => endSl_keep pc (by rw [hw8]; exact e)) nz
  have loop : codeAny (model X.prog X.w) X.A (.compLoop (.ListComp elt (⟨tg, iter, ifs, 0⟩ :: gs) scope pos) 0 (.ref it) (.ref D) ce) (compPost (model X.prog X.w) X.A X.xe none (EP X pins σ Q) (.ref D) sc.heap.objs.size) sd := by
    have start : (fun n z => ∃ i H', Inv (X.blk sc H3 scope ce fp) [] (L2.wipe σ (own.map (·.2))) H' z ∧ tn i z.heap ∧ (∀ b ∈ fp, H' b = none) ∧ W i n H') m0 sd := ⟨0, H3, Id, std, fun b hb => (fc b hb).1.1, w0⟩
    cases pc with
    | nil => exact loop_last rfl rfl _ go m0 start
    | cons hi' hg' ht' hs' hv' hr' => exact loop_mid rfl rfl hs' _ go m0 start
  exact codeAny_compStart_list loop (T.self X.A 0 _ _ _ std loop)
end
end DL

set_option Elab.async false
set_option linter.all false
set_option maxRecDepth 100000
set_option maxHeartbeats 2000000
namespace DL
open PySem PySem.Spec PyProof.Rows L2
/-- what the turns up to n give, one after another -/
def flat (F : Nat → List D) (n : Nat) : List D := ((List.range n).map F).flatten
theorem flat_succ (F : Nat → List D) (n : Nat) : flat F (n + 1) = flat F n ++ F n := by
  unfold flat
  rw [List.range_succ, List.map_append, List.flatten_append]
  simp
theorem flat_nil {F : Nat → List D} : ∀ {n : Nat}, (∀ i, i < n → F i = []) → flat F n = []
  | 0, _ => rfl
  | n + 1, h => by rw [flat_succ, flat_nil (n := n) fun i hi => h i (by omega), h n (by omega)]; rfl
theorem flat_le (F : Nat → List D) {i n : Nat} (h : i ≤ n) : (flat F i).length ≤ (flat F n).length := by
  induction h with
  | refl => exact Nat.le_refl _
  | step _ ih => rw [flat_succ, List.length_append]; omega
section
variable (K : PySem.W.Frag) (β : Bas)
/-- the clauses r and the item lay the data L behind what stands in the list -/
def EVIn (r : List Cl) (te : TE) (env : Env') (L : List D) : Prop := ∀ σ G0 H0, Good K β σ env G0 H0 → ∀ (Dl : Addr), H0 Dl = none → ∀ G H acc as, Stp G0 H0 G H → G Dl = none → H Dl = some (.lst acc) → DatL K G acc as → as.length + L.length < sizeLine →
  ∀ Nx : Hp → Prop, (∀ G' H' acc', Stp G0 H0 G' H' → Ex G G' → G' Dl = none → H' Dl = some (.lst acc') → DatL K G' acc' (as ++ L) → Nx H') → tIn Dl te r σ H Nx
end
section
variable {K : PySem.W.Frag} {β : Bas} {env : Env'} {ta tb te tc : TE} {tt tu : TT} {x y z d : D} {v w : V}
theorem evin_nil (h : EV K β te env d) : EVIn K β [] te env [d] := fun σ G0 H0 g Dl hD G H acc as t hG hl da hz Nx q =>
  h σ G H (g.up t) _ fun y G4 H4 t4 dy => by
    have a4 : G4 Dl = none := t4.ow _ hG (by rw [hl]; exact (fun e => nomatch e))
    refine ⟨acc, t4.hh _ _ hl, ?_, q G4 _ (acc ++ [y]) ((t.trans t4).side hD a4) t4.gg a4 upd_same ((da.up t4.gg).append (.one dy))⟩
    rw [da.length]
    exact Nat.lt_of_le_of_lt (Nat.le_add_right _ _) hz
theorem turns {j : Nat} {vs : List Nat} {r : List Cl} {ds : List D} {f : Nat → Bool} {F : Nat → List D} (hj : j ∈ vs)
    (hs : ∀ i v d, ds[i]? = some d → EVT K β tt ((wipeE env vs).set j (.val v d)) (f i) ∧ (f i = true → EVIn K β r te ((wipeE env vs).set j (.val v d)) (F i))) (hf : ∀ i, i < ds.length → f i = false → F i = [])
    {σ : Sg} {G0 H0 : Hp} (g : Good K β σ env G0 H0) {Dl : Addr} (hD : H0 Dl = none) {G1 H1 : Hp} {acc : List V} {as : List D} (t01 : Stp G0 H0 G1 H1) (hG1 : G1 Dl = none) (hl1 : H1 Dl = some (.lst acc)) (da1 : DatL K G1 acc as) (hz : as.length + (flat F ds.length).length < sizeLine)
    {J : It} {us : List V} (hd : DatL K G1 us ds) (hJ : ItV J G1 us) {Nx : Hp → Prop} (q : ∀ G' H' acc', Stp G0 H0 G' H' → Ex G1 G' → G' Dl = none → H' Dl = some (.lst acc') → DatL K G' acc' (as ++ flat F ds.length) → Nx H') :
    ∃ W1 : Nat → Nat → Hp → Prop, (∃ m, W1 0 m H1) ∧ ∀ i k H, W1 i k H → (J.stop i H ∧ Nx H) ∨ (J.go i H ∧ ∃ Nx1 : Hp → Prop, (∀ H', Nx1 H' → ∃ k', k' < k ∧ W1 (i + 1) k' H') ∧
      ∀ x H', J.yld i H x H' → gName j x (L2.wipe σ vs) H' fun σ3 H5 => L2.wipe σ3 vs = L2.wipe σ vs ∧ tt σ3 H5 fun b H6 => if b = true then tIn Dl te r σ3 H6 Nx1 else Nx1 H6) := by
  refine ⟨fun i m H' => m = us.length - i ∧ i ≤ us.length ∧ ∃ G' acc', Stp G0 H0 G' H' ∧ Ex G1 G' ∧ Ex G' H' ∧ G' Dl = none ∧ H' Dl = some (.lst acc') ∧ DatL K G' acc' (as ++ flat F i),
    ⟨us.length, by simp, Nat.zero_le _, G1, acc, t01, .refl _, t01.gh, hG1, hl1, by rw [show flat F 0 = [] from rfl, List.append_nil]; exact da1⟩, ?_⟩
  rintro i m H' ⟨rfl, hi, G', acc', t2, e2, gh2, hG2, hl2, da2⟩
  by_cases hlt : i < us.length
  · have hx : us[i]? = some us[i] := List.getElem?_eq_getElem hlt
    obtain ⟨d, hdi, dx⟩ := hd.getV hx
    obtain ⟨hT, hE⟩ := hs i us[i] d hdi
    obtain ⟨hgo, hyl⟩ := (hJ i H' (e2.trans gh2)).2 _ hx
    refine .inr ⟨hgo, fun H'' => ∃ G'' acc'', Stp G0 H0 G'' H'' ∧ Ex G1 G'' ∧ Ex G'' H'' ∧ G'' Dl = none ∧ H'' Dl = some (.lst acc'') ∧ DatL K G'' acc'' (as ++ flat F (i + 1)), fun H'' z => ⟨us.length - (i + 1), by omega, rfl, hlt, z⟩, fun x H'' hy => ?_⟩
    obtain ⟨rfl, rfl⟩ := hyl _ _ hy
    -- the slots, at the base
    refine ⟨wipe_set σ vs j _ hj, ?_⟩
    have gB := ((g.up t2).wipe vs).set j (dx.up e2)
    refine hT _ _ _ gB _ fun G3 H3 t3 => ?_
    have a3 : G3 Dl = none := t3.ow _ hG2 (by rw [hl2]; exact (fun e => nomatch e))
    cases hfi : f i with
    | false =>
      rw [if_neg Bool.false_ne_true]
      refine ⟨G3, acc', t2.trans t3, e2.trans t3.gg, t3.gh, a3, t3.hh _ _ hl2, ?_⟩
      rw [flat_succ, hf i (by rw [← hd.length]; exact hlt) hfi, List.append_nil]
      exact da2.up t3.gg
    | true =>
      rw [if_pos rfl]
      -- a new base: the heap without the list
      have tB : Stp G0 H0 G3 (fun b => if b = Dl then none else H3 b) := ⟨(t2.trans t3).gg, fun a o e => by
          show (if a = Dl then none else H3 a) = some o
          rw [if_neg (fun z => by rw [z, hD] at e; cases e)]; exact (t2.trans t3).hh a o e, fun a o e => by
          show (if a = Dl then none else H3 a) = some o
          rw [if_neg (fun z => by rw [z, a3] at e; cases e)]; exact t3.gh a o e, (t2.trans t3).ow⟩
      have tC : Stp G3 (fun b => if b = Dl then none else H3 b) G3 H3 := ⟨.refl _, fun a o e => by
          have e' : (if a = Dl then none else H3 a) = some o := e
          by_cases hb : a = Dl
          · rw [if_pos hb] at e'; cases e'
          · rw [if_neg hb] at e'; exact e', t3.gh, fun a e _ => e⟩
      have gC := ((g.up tB).wipe vs).set j (dx.up (e2.trans t3.gg))
      refine hE hfi _ G3 _ gC Dl (if_pos rfl) G3 H3 acc' (as ++ flat F i) tC a3 (t3.hh _ _ hl2) (da2.up t3.gg) ?_ _ fun G4 H4 acc4 t4 e4 a4 l4 d4 => ?_
      · have h1 := flat_le F (show i + 1 ≤ ds.length by rw [← hd.length]; exact hlt)
        rw [flat_succ, List.length_append] at h1
        rw [List.length_append]
        omega
      · exact ⟨G4, acc4, tB.trans t4, (e2.trans t3.gg).trans e4, t4.gh, a4, l4, by rw [flat_succ, ← List.append_assoc]; exact d4⟩
  · have hil : i = us.length := by omega
    refine .inl ⟨(hJ i H' (e2.trans gh2)).1 hil, ?_⟩
    rw [hil, hd.length] at da2
    exact q G' H' acc' t2 e2 hG2 hl2 da2
theorem evin_cons {wi : TI} {j : Nat} {vs : List Nat} {r : List Cl} {ds : List D} {f : Nat → Bool} {F : Nat → List D} (hI : EVI K β wi env ds) (hj : j ∈ vs)
    (hs : ∀ i v d, ds[i]? = some d → EVT K β tt ((wipeE env vs).set j (.val v d)) (f i) ∧ (f i = true → EVIn K β r te ((wipeE env vs).set j (.val v d)) (F i))) (hf : ∀ i, i < ds.length → f i = false → F i = []) :
    EVIn K β ((wi, gName j, tt, vs) :: r) te env (flat F ds.length) := fun σ G0 H0 g Dl hD G H acc as t hG hl da hz Nx q => by
  refine hI σ G H (g.up t) _ fun J us G1 H1 t1 hd hJ => ?_
  have hG1 : G1 Dl = none := t1.ow _ hG (by rw [hl]; exact (fun e => nomatch e))
  exact turns hj hs hf g hD (t.trans t1) hG1 (t1.hh _ _ hl) (da.up t1.gg) hz hd hJ fun G' H' acc' a b c d e => q G' H' acc' a (t1.gg.trans b) c d e
/-- the whole comprehension -/
theorem ev_lcM {wi : TI} {j : Nat} {vs : List Nat} {r : List Cl} {ds : List D} {f : Nat → Bool} {F : Nat → List D} (hI : EVI K β wi env ds) (hj : j ∈ vs)
    (hs : ∀ i v d, ds[i]? = some d → EVT K β tt ((wipeE env vs).set j (.val v d)) (f i) ∧ (f i = true → EVIn K β r te ((wipeE env vs).set j (.val v d)) (F i))) (hf : ∀ i, i < ds.length → f i = false → F i = []) (hz : (flat F ds.length).length < sizeLine) :
    EV K β (tLcN wi (gName j) tt r te vs) env (.lst (flat F ds.length)) := fun σ G H g Q q => by
  refine hI σ G H g _ fun J us G1 H1 t1 hd hJ Dl hD => ?_
  refine turns hj hs hf (g.up t1) hD ((Stp.refl t1.gh).side hD (t1.gh.back hD)) (t1.gh.back hD) upd_same .nil (by simpa using hz) hd hJ fun G' H' acc' t2 e2 a2 l2 d2 => ?_
  exact q _ (upd G' Dl (.lst acc')) H' (t1.trans (t2.take hD a2 l2)) (.lst upd_same (DatL.up (by simpa using d2) (.new a2)))
end
end DL

set_option Elab.async false
set_option linter.all false
set_option maxRecDepth 100000
set_option maxHeartbeats 2000000
namespace DL
open PySem PySem.Spec PyProof.Rows L2
section
variable {K : PySem.W.Frag} {β : Bas} {env : Env'} {ta tb te tc to : TE} {tt tu : TT} {x y z d : D} {v w : V} {P : Post} {W : WX} {ts tr : TS}
theorem owns_own {env : Env'} {i : Nat} {a : Addr} {ds : List D} (hi : env[i]? = some (.own a ds)) : a ∈ owns env := List.mem_filterMap.mpr ⟨_, List.mem_of_getElem? hi, rfl⟩
theorem seqIx_nat {n l : Nat} (h : n < l) : PySem.seqIndex? (n : Int) l = some n := by
  unfold PySem.seqIndex?
  simp
  omega
/-- xs.pop(e), xs one's own; e may ask the box -/
theorem xe_popAt {i : Nat} {tk : TE} {P1 PP : V → D → Env' → Prop} (h0 : ∃ a ds, env[i]? = some (.own a ds)) (he : XE K β tk env P1)
    (k : ∀ v d e, P1 v d e → ∃ (a : Addr) (ds : List D) (n : Nat) (x : D), d = .int (n : Nat) ∧ e[i]? = some (.own a ds) ∧ ds[n]? = some x ∧ n < 2 ^ 62 ∧ ∀ u, PP u x (e.set i (.own a (ds.eraseIdx n)))) :
    XE K β (tBM K "list" rPopAt (tVar i) (tCons tk tNil)) env PP := fun σ G H g Q q => by
  obtain ⟨a0, ds0, hi0⟩ := h0
  obtain ⟨h1, h2, h3, xs, h4, h5⟩ := g.own hi0
  refine ⟨.ref a0, h1, .inl ⟨rfl, xs, .of h4⟩, he σ G H g _ fun v d e G1 H1 g1 t1 e1 dv p1 => ?_⟩
  obtain ⟨a, ds, n, x, rfl, hi, hx, hn, hP⟩ := k _ _ _ p1
  obtain ⟨h1', h2', h3', ys, h4', h5'⟩ := g1.own hi
  obtain rfl : a = a0 := by
    rw [h1] at h1'
    cases h1'
    rfl
  obtain ⟨y, hy, dy⟩ := h5'.get hx
  have hl : n < ys.length := (List.getElem?_eq_some_iff.mp hy).1
  refine ⟨a, ys, n, n, y, rfl, by rw [dv.intV], h4', by omega, by omega, seqIx_nat hl, hy, ?_⟩
  have hm : a ∈ owns env := owns_own hi0
  refine q y x _ G1 _ (g1.write hi (h5'.erase n)) ⟨t1.gg, fun b o ho => ?_, fun b o hb ho => ?_, t1.ow⟩ (by rw [← e1]; exact nd_own hi) dy (hP y)
  · rw [upd_ne (fun z => by subst z; rw [h3'] at ho; cases ho)]; exact t1.gh b o ho
  · rw [upd_ne (fun z => hb (by rw [z]; exact hm))]; exact t1.hh b o hb ho
/-- xs.append(e), xs one's own; e may change what is one's own -/
theorem ex_appX {i : Nat} {P1 : V → D → Env' → Prop} (h0 : ∃ a ds, env[i]? = some (.own a ds)) (he : XE K β te env P1)
    (k : ∀ v d e, P1 v d e → ∃ a ds, e[i]? = some (.own a ds) ∧ ds.length < sizeLine ∧ P.nx (e.set i (.own a (ds ++ [d])))) : EX K β W (tDrop (tBM K "list" rAppend (tVar i) (tCons te tNil))) env P := fun σ G H g Dn c x => by
  obtain ⟨a0, ds0, hi0⟩ := h0
  obtain ⟨h1, h2, h3, xs, h4, h5⟩ := g.own hi0
  refine ⟨.ref a0, h1, .inl ⟨rfl, xs, .of h4⟩, he σ G H g _ fun v d e G1 H1 g1 t1 e1 dv p1 => ?_⟩
  obtain ⟨a, ds, hi, hl, hn⟩ := k _ _ _ p1
  obtain ⟨h1', h2', h3', ys, h4', h5'⟩ := g1.own hi
  obtain rfl : a = a0 := by
    rw [h1] at h1'
    cases h1'
    rfl
  exact ⟨a, ys, v, rfl, rfl, h4', by rw [h5'.length]; exact hl, c.nx _ _ G1 _ (g1.write hi (h5'.append (.one dv))) t1.gg hn⟩
/-- a, b = list(x), []: both one's own -/
theorem ex_parNew2 {i j : Nat} {tg : TE} {es : List D} (hij : i ≠ j) (hg : EV K β tg env (.lst es))
    (k : ∀ p r, P.nx ((env.set i (.own p es)).set j (.own r []))) : EX K β W (tPar i j (tCons (tCB (rListOf K) (tCons tg tNil)) (tCons (tLst tNil) tNil))) env P := fun σ G H g Dn c x =>
  hg σ G H g _ fun v1 G1 H1 t1 d1 => by
    obtain ⟨a, xs, rfl, ha, hx⟩ := d1.lstV
    have g1 := g.up t1
    refine ⟨a, xs, rfl, .inl (.inl (.inl (t1.gh _ _ ha))), fun p hp => ?_⟩
    have hGp : G1 p = none := t1.gh.back hp
    have g2 := g1.up ((Stp.refl t1.gh).side (o := .lst xs) hp hGp)
    refine ⟨by show 0 ≤ _; exact Nat.zero_le _, fun r hr => ?_⟩
    have hpr : p ≠ r := fun z => by rw [← z, upd_same] at hr; cases hr
    have g3 := g2.newOwn (a := r) (ds := []) (xs := []) j hr .nil
    have hna : p ∉ owns (env.set j (.own r [])) := fun m => by
      have na : r ∉ env.filterMap ownA := fun m => g2.there m hr
      rcases (nd_newOwn (ds := []) na j g.nd).2 p m with z | z
      · exact hpr z
      · exact g1.there z hp
    have hβ : β.H p = none := by
      cases q : β.H p with
      | none => rfl
      | some o => exact absurd hp (g1.hn (by rw [q]; exact (fun e => nomatch e)))
    have g4 := g3.adopt i hβ hGp (by rw [upd_ne hpr, upd_same]) hna hx
    rw [List.set_comm _ _ (Ne.symm hij), List.set_comm _ _ (Ne.symm hij)] at g4
    exact ⟨_, _, rfl, c.nx _ _ G1 _ g4 t1.gg (k p r)⟩
/-! ### range objects -/
def rRg1 : List V → Hp → VK → Prop := fun vs H Q => ∃ j, vs = [V.int j] ∧ ∀ p, H p = none → Q (.ref p) (upd H p (.rng 0 j))
theorem cr_range1 {X : Cx} : CallR X (.type "range") rRg1 := by
  intro pins s σ H vs us Q I r h
  obtain ⟨j, rfl, q⟩ := h
  cases r with
  | cons r rr =>
    cases rr
    obtain ⟨u, rfl⟩ := r
    refine call_range_1 ⟨.ref s.heap.objs.size, upd H s.heap.objs.size (.rng 0 j), I.laid (fun b o e => Heap.get?_push_of_some _ e) (Nat.le_refl _) ?_, rfl, q _ (I.hok.fresh (Nat.le_refl _))⟩
    exact ⟨_, _, _, Heap.get?_push_size _ rfl⟩
theorem cb_range1 {n : Int} : CbD K rRg1 [.int n] (.rng 0 n) := fun G H vs e dl Q q => by
  cases dl with | cons a t => cases t; cases a; exact ⟨n, rfl, fun p hp => q _ (upd G p (.rng 0 n)) _ (.new e hp) (.rng upd_same)⟩
def iRngO (te : TE) : TI := fun σ H R => te σ H fun x H1 => ∃ a lo hi, x = .ref a ∧ H1 a = some (.rng lo hi) ∧ (-(2 ^ 62) ≤ lo ∧ lo < 2 ^ 62 ∧ -(2 ^ 62) ≤ hi ∧ hi < 2 ^ 62) ∧ R (Itr lo (hi - lo).toNat) H1
theorem pi_rngO {X : Cx} {tg l : Expr} {tl : TE} (hl : PE X l tl) : PI X tg l (iRngO tl) := by
  refine ⟨fun pins s σ H R I h => ?_⟩
  refine thn (hl.run pins s σ H _ I h) fun v s1 ⟨x, H1, I1, r1, q1⟩ => ?_
  obtain ⟨a, lo, hi, rfl, ha, ⟨h1, h2, h3, h4⟩, q⟩ := q1
  cases r1
  obtain ⟨t, u, v, ho⟩ := I1.hok a _ ha
  refine wpAny_pyIter_range (show IsRange s1.heap a lo hi 1 t u v from ho) (small_one h1 h2 h3 h4) ?_
  refine ⟨s1.heap.objs.size, [s1.heap.objs.size], _, _, H1, rfl, I1.kept (t' := s1.toks) fun b o e => Heap.get?_push_of_some _ e, turn_range _ lo (hi - lo).toNat, ?_, fun b hb => ?_, q⟩
  · have e1 : lo + ((0 : Nat) : Int) * 1 = lo := by simp
    have e2 : (((hi - lo).toNat : Nat) : Int) - ((0 : Nat) : Int) = Builtin.Range.rangeSize lo hi 1 := by rw [rangeSize_one]; split <;> omega
    show IsRangeIter _ _ (lo + ((0 : Nat) : Int) * 1) ((((hi - lo).toNat : Nat) : Int) - ((0 : Nat) : Int)) 1
    rw [e1, e2]
    exact Heap.get?_push_size _ rfl
  · have e : b = s1.heap.objs.size := by simpa using hb
    subst e
    exact I1.fpOk (Nat.le_refl _) (I1.hok.fresh (Nat.le_refl _))
theorem ei_rngO {tl : TE} {lo hi : Int} (h : EV K β tl env (.rng lo hi)) (hb : -(2 ^ 62) ≤ lo ∧ lo < 2 ^ 62 ∧ -(2 ^ 62) ≤ hi ∧ hi < 2 ^ 62) : EVI K β (iRngO tl) env (rgD lo (hi - lo).toNat) := fun σ G H g R q =>
  h σ G H g _ fun v G1 H1 t1 d1 => by
    cases d1 with | rng hG =>
    exact ⟨_, lo, hi, rfl, t1.gh _ _ hG, hb, q _ _ G1 H1 t1 (DatL.rg lo _) itv_rng⟩
/-! ### all, any -/
theorem cb_all {bs : List Bool} : CbD K (rAll K) [.lst (bs.map D.bl)] (.bl (bs.all id)) := fun G H vs e dl Q q => by
  cases dl with | cons dv t =>
  cases t
  obtain ⟨a, xs, rfl, ht, hd⟩ := dv.lstV
  exact ⟨a, bs, rfl, .inl (.inl (by rw [← DatL.blsV hd]; exact e _ _ ht)), q _ G H (.refl e) (.bl _)⟩
end
end DL

set_option Elab.async false
set_option linter.all false
set_option maxRecDepth 100000
set_option maxHeartbeats 2000000
namespace DL
open PySem PySem.Spec PyProof.Rows L2
/-! ### list(dict([(t, True), ..])), t tuples of ints -/
/-- at p stands a dict with the keys bs, in order -/
def DicO (p : Addr) (bs : List Addr) : HO := .ext fun h => ∃ o es ep, h.get? p = some o ∧ o.ExactDict ∧ o.data = .dict es ep ∧ es.toList.map (fun e => e.key) = bs.map Value.ref ∧ (p == sysModules) = false ∧ bs.length ≤ sizeLine
/-- the first places -/
def addR {α β : Type} [DecidableEq α] : List (α × β) → List (α × β) → List (α × β)
  | acc, [] => acc
  | acc, r :: rs => addR (if r.1 ∈ acc.map Prod.fst then acc else acc ++ [r]) rs
theorem addR_len {α β : Type} [DecidableEq α] : ∀ (rs acc : List (α × β)), (addR acc rs).length ≤ acc.length + rs.length
  | [], acc => Nat.le_refl _
  | r :: rs, acc => by
    unfold addR
    refine Nat.le_trans (addR_len rs _) ?_
    split
    · simp only [List.length_cons]; omega
    · simp only [List.length_append, List.length_cons, List.length_nil]; omega
def trip (r : List Key × Addr) : List Key × Addr × Value := (r.1, r.2, .bool true)
theorem atKey_none {xs : List (List Key × Addr)} {k : List Key} : (atKey (xs.map trip) k).isSome = true ↔ k ∈ xs.map Prod.fst := by
  induction xs with
  | nil => exact ⟨fun h => (nomatch h), fun h => (nomatch h)⟩
  | cons x xs ih =>
    rw [List.map_cons, List.map_cons, List.mem_cons, ← ih]
    unfold atKey
    rw [List.find?_cons]
    by_cases h : x.1 = k
    · rw [show decide ((trip x).1 = k) = true from decide_eq_true h]
      exact ⟨fun _ => .inl h.symm, fun _ => rfl⟩
    · rw [show decide ((trip x).1 = k) = false from decide_eq_false h]
      exact ⟨fun z => .inr z, fun z => z.resolve_left (fun e => h e.symm)⟩
theorem storedAll_addR : ∀ (rs acc : List (List Key × Addr)), storedAllH (acc.map trip) (rs.map trip) = (addR acc rs).map trip
  | [], acc => rfl
  | r :: rs, acc => by
    unfold addR
    rw [← storedAll_addR rs]
    show storedAllH (storedH (acc.map trip) r.1 r.2 (.bool true)) (rs.map trip) = _
    congr 1
    unfold storedH
    by_cases h : r.1 ∈ acc.map Prod.fst
    · rw [if_pos (atKey_none.mpr h), if_pos h, List.map_map]
      refine List.map_congr_left fun x _ => ?_
      show putAt r.1 (Value.bool true) (trip x) = trip x
      unfold putAt
      by_cases e : (trip x).1 = r.1
      · rw [if_pos e]; rfl
      · rw [if_neg e]
    · rw [if_neg (fun z => h (atKey_none.mp z)), if_neg h, List.map_append]
      rfl
def rDictPT (K : PySem.W.Frag) : List V → Hp → VK → Prop := fun xs H Q => ∃ (a : Addr) (rs : List (Addr × List Key × Addr)), xs = [.ref a] ∧ SqL K H a (rs.map fun r => V.ref r.1) ∧
  (∀ r ∈ rs, SqT K H r.1 [.ref r.2.2, .bl true] ∧ SqT K H r.2.2 (r.2.1.map kV)) ∧ ∀ p, H p = none → Q (.ref p) (upd H p (DicO p ((addR [] (rs.map fun r => r.2)).map (·.2))))
def rListDic : List V → Hp → VK → Prop := fun xs H Q => ∃ (d : Addr) (bs : List Addr), xs = [.ref d] ∧ H d = some (DicO d bs) ∧ ∀ p, H p = none → Q (.ref p) (upd H p (.lst (bs.map V.ref)))
section
variable {X : Cx}
theorem key_ofS {pins : List (Addr × Obj)} {σ : L2.St} {H : Hp} {s : Shared} (I : L2.Inv X pins σ H s) {ks : List Key} {a : Addr} (e : SqT X.K H a (ks.map kV)) : (tupleKind (mixKind X.prog X.w)).is s.heap ks a := by
  obtain ⟨its, rv, ht, _⟩ := I.tuple e
  obtain ⟨o, h1, h2, n, h3⟩ := ht
  exact ⟨o, its.toArray, n, h1, h2, h3, by simpa using items_are rv⟩
theorem call_dictPT (hcalm : X.calm = true) (hu : X.A.units + 8 < cLine) : CallR X (.type "dict") (rDictPT X.K) := by
  intro pins s σ H xs us Q I r q
  obtain ⟨a, rs, ex, hq, hp, q⟩ := q
  subst ex
  obtain ⟨u, eu, rx⟩ := vals1 r
  subst eu
  cases rx
  obtain ⟨its, rv, pl, hz⟩ := I.list hq
  have ei : its = rs.map fun r => Value.ref r.1 := by
    have := refs_at (ps := rs.map fun r => r.1) (us := its) (by rw [List.map_map]; exact rv)
    rw [this, List.map_map]; rfl
  subst ei
  rw [List.length_map] at hz
  obtain ⟨o, n, ho, hc, hd, hdat⟩ := pl
  have hm : (s.heap.objs.size == sysModules) = false := beq_eq_false_iff_ne.mpr (Nat.ne_of_gt I.big)
  have hpair : ∀ r ∈ rs, IsTup s.heap r.1 #[.ref r.2.2, .bool true] := fun r hr => by
    obtain ⟨its, rv, ht, _⟩ := I.tuple (hp r hr).1
    obtain ⟨u, y, ei, ru, ry⟩ := vals2 rv
    subst ei
    cases ru
    cases ry
    exact ht
  refine call_dict_pairsH (knd := tupleKind (mixKind X.prog X.w)) (ps := (rs.map fun r => r.2).map trip) (PairArg.list a (rs.map fun r => Value.ref r.1).toArray (fun j => ((rs[j]?).map (·.1)).getD 0) (rs.map fun r => (Value.ref r.2.2, Value.bool true)))
    (I.ok.hd hcalm) (show X.A.in1.in1.units < cLine from ?_) ⟨⟨o, n, ho, hc, hd, hdat⟩, by simp, fun j k v hj => ?_⟩ ⟨by simp, fun i key v hi => ?_⟩ (fun h' hk x hx => ?_) (by rw [List.length_map]; exact hz) fun h' tk hd' k => ?_
  · have : X.A.in1.in1.units ≤ X.A.units + 8 := by
      show _ ≤ _
      simp [Around.in1]
    omega
  · rw [List.getElem?_map] at hj
    cases hr : rs[j]? with
    | none => rw [hr] at hj; cases hj
    | some r =>
      rw [hr] at hj
      cases hj
      refine ⟨by simp [hr], .inl ?_⟩
      have e : ((Option.map (fun x => x.1) (some r)).getD 0) = r.1 := rfl
      simp only [hr]
      exact hpair r (List.mem_of_getElem? hr)
  · have hi' : (rs.map fun r => (Value.ref r.2.2, Value.bool true))[i]? = some (key, v) := hi
    rw [List.getElem?_map] at hi'
    cases hr : rs[i]? with
    | none => rw [hr] at hi'; cases hi'
    | some r =>
      rw [hr] at hi'
      cases hi'
      exact ⟨r.2.1, r.2.2, by simp [hr, trip], rfl⟩
  · obtain ⟨y, hy, rfl⟩ := List.mem_map.mp hx
    obtain ⟨r, hr, rfl⟩ := List.mem_map.mp hy
    have h0 := key_ofS I (hp r hr).2
    obtain ⟨o, its, n, h1, h2, h3⟩ := h0
    exact ⟨o, its, n, hk _ _ (Nat.ne_of_lt (Heap.lt_size h1)) (by simp) h1, h2, h3⟩
  · rw [show ([] : List (List Key × Addr × Value)) = ([] : List (List Key × Addr)).map trip from rfl, storedAll_addR] at hd'
    obtain ⟨o', es, ep, e1, e2, e3, e4, e5, e6⟩ := hd'
    have hlen : ((addR [] (rs.map fun r => r.2)).map (·.2)).length ≤ sizeLine := by
      rw [List.length_map]
      have := addR_len (rs.map fun r => r.2) []
      simp only [List.length_nil, List.length_map] at this
      omega
    refine ⟨.ref s.heap.objs.size, upd H s.heap.objs.size (DicO s.heap.objs.size ((addR [] (rs.map fun r => r.2)).map (·.2))), I.laid (t' := tk) (fun b o e => k b o (by simp) e) (Nat.le_refl _) ?_, rfl, q _ (I.hok.fresh (Nat.le_refl _))⟩
    refine ⟨⟨o', es, ep, e1, e2, e3, ?_, hm, hlen⟩, ⟨o', e1⟩, fun h1 h2 ⟨o, es, ep, f1, f2⟩ kk => ⟨o, es, ep, kk o f1, f2⟩⟩
    rw [e4, List.map_map, List.map_map, List.map_map]
    rfl
theorem call_listDic (hc : X.calm = true) : CallR X (.type "list") rListDic := by
  intro pins s σ H xs us Q I r h
  obtain ⟨d, bs, rfl, hd, q⟩ := h
  obtain ⟨u, rfl, rx⟩ := r.one
  cases rx
  obtain ⟨⟨o, es, ep, ho, hx, hdt, he, hs, hn⟩, _, _⟩ := (show ObjOk X.prog X.w H s.heap d (DicO d bs) from I.hok d _ hd)
  have l1 : es.size = bs.length := by
    have := congrArg List.length he
    rw [List.length_map, List.length_map, Array.length_toList] at this
    exact this
  refine PySem.W.kdl_call (kdl_raw hs hx hdt) (I.ok.hd hc) ho (by omega) fun h' tk acc' c' kp e it => ?_
  have ea : acc'.toList = bs.map Value.ref := by
    have hl : acc'.toList.length = bs.length := by rw [Array.length_toList, it.1]; exact l1
    apply List.ext_getElem?
    intro j
    rw [← he, List.getElem?_map]
    cases hj : acc'.toList[j]? with
    | none =>
      have h1 := List.getElem?_eq_none_iff.mp hj
      rw [List.getElem?_eq_none (by rw [Array.length_toList]; omega)]
      all_goals rfl
    | some v =>
      obtain ⟨en, hen, hv⟩ := it.2 j v (by rw [← Array.getElem?_toList]; exact hj)
      rw [← Array.getElem?_toList] at hen
      rw [hen, hv]
      all_goals rfl
  have rv : Vals (bs.map V.ref) acc'.toList := by rw [ea]; exact vals_refs _
  refine ⟨.ref s.heap.objs.size, _, I.laid (t' := tk) (o := .lst (bs.map V.ref)) kp (Nat.le_refl _) ?_, rfl, q _ (I.hok.fresh (Nat.le_refl _))⟩
  exact ⟨by rw [List.length_map]; exact hn, acc'.toList, c', rv, by rw [Array.toArray_toList]; exact e⟩
end
end DL

set_option Elab.async false
set_option linter.all false
set_option maxRecDepth 100000
set_option maxHeartbeats 2000000
namespace DL
open PySem PySem.Spec PyProof.Rows L2
/-! ### tuples of numbers -/
def tupN (a : List Nat) : D := .tup (a.map fun i => .int (i : Nat))
def tupP (a : List Nat) : PyData := .tuple (a.map fun i => .int (i : Nat))
theorem rowD_tupN {n : Nat} {f : Nat → Nat} : rowD n f = tupN ((List.range n).map f) := by
  unfold rowD tupN
  rw [List.map_map]
  rfl
section
variable {K : PySem.W.Frag} {β : Bas} {env : Env'} {ta tb te tc to : TE} {tt tu : TT} {x y z d : D} {v w : V} {P : Post} {W : WX} {ts tr : TS}
theorem DatL.dpInts {G H : Hp} : ∀ {a : List Nat} {vs : List V}, DatL K G vs (a.map fun i => D.int (i : Nat)) → DpAll K H vs (a.map fun i => PyData.int (i : Nat))
  | [], _, h => by cases h; exact .nil
  | _ :: _, _, h => by cases h with | cons x t => cases x; exact .cons (.int _) (DatL.dpInts t)
theorem Dat.tn {G H : Hp} (e : Ex G H) {a : List Nat} {v : V} (h : Dat K G v (tupN a)) : Dp K H v (tupP a) := by
  obtain ⟨p, xs, rfl, hs, hd⟩ := h.tupV
  exact .tup (ex_t e hs) (DatL.dpInts hd)
theorem DatL.tns {G H : Hp} (e : Ex G H) : ∀ {L : List (List Nat)} {vs : List V}, DatL K G vs (L.map tupN) → DpAll K H vs (L.map tupP)
  | [], _, h => by cases h; exact .nil
  | p :: L, _, h => by cases h with | cons a t => exact .cons (Dat.tn e a) (DatL.tns e t)
theorem tn_canI : ∀ a : List Nat, PyData.canLayAll0 (a.map fun i => PyData.int (i : Nat)) = true
  | [] => rfl
  | i :: a => by
    show (PyData.canLay0 (.int (i : Nat)) && PyData.canLayAll0 (a.map fun i => PyData.int (i : Nat))) = true
    rw [tn_canI a]; rfl
theorem tn_lay : ∀ L : List (List Nat), PyData.canLayAll0 (L.map tupP) = true
  | [] => rfl
  | p :: L => by
    show (PyData.canLayAll0 (p.map fun i => PyData.int (i : Nat)) && PyData.canLayAll0 (L.map tupP)) = true
    rw [tn_lay L, tn_canI]; rfl
theorem tn_depI : ∀ a : List Nat, PyData.depthAll (a.map fun i => PyData.int (i : Nat)) = 0
  | [] => rfl
  | i :: a => by
    show max (PyData.depth (.int (i : Nat))) (PyData.depthAll (a.map fun i => PyData.int (i : Nat))) = 0
    rw [tn_depI a]; rfl
theorem tn_depth : ∀ L : List (List Nat), PyData.depthAll (L.map tupP) ≤ 1
  | [] => Nat.zero_le _
  | p :: L => by
    show max (PyData.depth (tupP p)) (PyData.depthAll (L.map tupP)) ≤ 1
    have := tn_depth L
    have h : PyData.depth (tupP p) = 1 := by
      show PyData.depthAll (p.map fun i => PyData.int (i : Nat)) + 1 = 1
      rw [tn_depI]
    omega
theorem tn_shaped (L : List (List Nat)) : SeqAt.shaped (.list (L.map tupP)) = true := by
  unfold SeqAt.shaped
  have h1 : PyData.canLay0 (.list (L.map tupP)) = true := tn_lay L
  have h2 : PyData.depth (.list (L.map tupP)) ≤ 64 := by
    show PyData.depthAll (L.map tupP) + 1 ≤ 64
    have := tn_depth L
    omega
  rw [h1, decide_eq_true h2]
  rfl
theorem tn_shaped1 (p : List Nat) : SeqAt.shaped (tupP p) = true := by
  unfold SeqAt.shaped
  have h1 : PyData.canLay0 (tupP p) = true := tn_canI p
  have h2 : PyData.depth (tupP p) ≤ 64 := by
    show PyData.depthAll (p.map fun i => PyData.int (i : Nat)) + 1 ≤ 64
    rw [tn_depI]; omega
  rw [h1, decide_eq_true h2]
  rfl
theorem eqv_ints : ∀ a b : List Nat, PyData.eqvAll (a.map fun i => PyData.int (i : Nat)) (b.map fun i => PyData.int (i : Nat)) = decide (a = b)
  | [], [] => rfl
  | [], _ :: _ => rfl
  | _ :: _, [] => rfl
  | x :: a, y :: b => by
    show (((x : Nat) : Int) == ((y : Nat) : Int) && PyData.eqvAll (a.map fun i => PyData.int (i : Nat)) (b.map fun i => PyData.int (i : Nat))) = _
    rw [eqv_ints a b]
    by_cases h1 : x = y <;> by_cases h2 : a = b <;> simp [h1, h2, Int.ofNat_inj]
theorem tn_eqv (p q : List Nat) : PyData.eqv (tupP p) (tupP q) = decide (p = q) := eqv_ints p q
theorem tn_any (L : List (List Nat)) (p : List Nat) : ((L.map tupP).any fun z => PyData.eqv z (tupP p)) = decide (p ∈ L) := by
  induction L with
  | nil => simp
  | cons q L ih =>
    rw [List.map_cons, List.any_cons, ih, tn_eqv]
    by_cases h1 : q = p
    · simp [h1]
    · by_cases h2 : p ∈ L <;> simp [h1, h2, Ne.symm h1]
/-- e not in xs, xs one's own -/
theorem ev_notInOwn {i : Nat} {a : Addr} {L : List (List Nat)} {p : List Nat} (hi : env[i]? = some (.own a (L.map tupN))) (he : EV K β te env (tupN p)) : EV K β (tOp (rNotInD K) te (tVar i)) env (.bl (!decide (p ∈ L))) := fun σ G H g Q q => by
  refine he σ G H g _ fun v1 G1 H1 t1 d1 => ?_
  obtain ⟨h1, h2, h3, xs, h4, h5⟩ := (g.up t1).own hi
  refine ⟨.ref a, h1, ?_⟩
  refine ⟨tupP p, L.map tupP, Dat.tn t1.gh d1, .lst (.inl (.inl h4)) (DatL.tns t1.gh h5), tn_shaped1 p, tn_shaped L, ?_⟩
  rw [tn_any]
  exact q _ G1 H1 t1 (.bl _)
theorem op_inTN {L : List (List Nat)} {p : List Nat} : OpD K (rInD K) (tupN p) (.lst (L.map tupN)) (.bl (decide (p ∈ L))) := fun G H v1 v2 e d1 d2 Q q => by
  obtain ⟨a, xs, rfl, ha, hx⟩ := d2.lstV
  refine ⟨tupP p, L.map tupP, Dat.tn e d1, .lst (.inl (.inl (e _ _ ha))) (DatL.tns e hx), tn_shaped1 p, tn_shaped L, ?_⟩
  rw [tn_any]
  exact q _ G H (.refl e) (.bl _)
theorem ev_indexTN {L : List (List Nat)} {p : List Nat} {j : Nat} (h : EV K β to env (.lst (L.map tupN))) (he : EV K β te env (tupN p)) (hj : L[j]? = some p) (hm : ∀ m, m < j → L[m]? ≠ some p) : EV K β (tBM K "list" (rIndexD K) to (tCons te tNil)) env (.int j) := fun σ G H g Q q =>
  h σ G H g _ fun v1 G1 H1 t1 d1 => by
    obtain ⟨a, xs, rfl, ha, hx⟩ := d1.lstV
    refine ⟨.inl ⟨rfl, xs, .of (t1.gh _ _ ha)⟩, he σ G1 H1 (g.up t1) _ fun v2 G2 H2 t2 d2 => ?_⟩
    refine ⟨a, v2, tupP p, L.map tupP, j, tupP p, rfl, rfl, .lst (.of (t2.hh _ _ (t1.gh _ _ ha))) (DatL.tns (t1.gh.trans t2.hh) hx), Dat.tn t2.gh d2, tn_shaped L, tn_shaped1 p, by rw [List.getElem?_map, hj]; rfl, by rw [tn_eqv, decide_eq_true rfl], fun m z' hlt hz => ?_, q _ G2 H2 (t1.trans t2) (.int _)⟩
    rw [List.getElem?_map] at hz
    cases hq : L[m]? with
    | none => rw [hq] at hz; cases hz
    | some p' =>
      rw [hq] at hz
      cases hz
      rw [tn_eqv]
      exact decide_eq_false fun z => hm m hlt (by rw [hq, z])
/-! ### found, at = list(dict([(m, True) ..])), 0 -/
def dd {α : Type} [DecidableEq α] : List α → List α → List α
  | acc, [] => acc
  | acc, m :: ms => dd (if m ∈ acc then acc else acc ++ [m]) ms
def keyN (m : List Nat) : List Key := m.map fun (i : Nat) => Sum.inl ((i : Nat) : Int)
theorem keyN_inj : ∀ {a b : List Nat}, keyN a = keyN b → a = b
  | [], [], _ => rfl
  | [], _ :: _, h => by unfold keyN at h; cases h
  | _ :: _, [], h => by unfold keyN at h; cases h
  | x :: a, y :: b, h => by
    unfold keyN at h
    rw [List.map_cons, List.map_cons] at h
    injection h with h1 h2
    injection h1 with h1
    rw [keyN_inj (a := a) (b := b) h2]
    congr 1
    omega
theorem keyN_kV (m : List Nat) : (keyN m).map kV = m.map fun i => V.int (i : Nat) := by
  unfold keyN
  rw [List.map_map]
  rfl
def FK (z : List Nat × Addr) : List Key × Addr := (keyN z.1, z.2)
theorem addR_FK : ∀ (zs as : List (List Nat × Addr)), addR (as.map FK) (zs.map FK) = (addR as zs).map FK
  | [], as => rfl
  | z :: zs, as => by
    rw [List.map_cons]
    unfold addR
    rw [← addR_FK zs]
    congr 1
    have e : ((FK z).1 ∈ (as.map FK).map (·.1)) ↔ z.1 ∈ as.map (·.1) := by
      rw [List.map_map]
      constructor
      · intro h
        obtain ⟨y, hy, he⟩ := List.mem_map.mp h
        exact List.mem_map.mpr ⟨y, hy, keyN_inj he⟩
      · intro h
        obtain ⟨y, hy, he⟩ := List.mem_map.mp h
        exact List.mem_map.mpr ⟨y, hy, congrArg keyN he⟩
    by_cases h : z.1 ∈ as.map (·.1)
    · rw [if_pos (e.mpr h), if_pos h]
    · rw [if_neg (fun x => h (e.mp x)), if_neg h, List.map_append]
      rfl
theorem addR_dd {α β : Type} [DecidableEq α] : ∀ (zs as : List (α × β)), (addR as zs).map (·.1) = dd (as.map (·.1)) (zs.map (·.1))
  | [], as => rfl
  | z :: zs, as => by
    rw [List.map_cons]
    unfold addR dd
    rw [addR_dd zs]
    congr 1
    by_cases h : z.1 ∈ as.map (·.1)
    · rw [if_pos h, if_pos h]
    · rw [if_neg h, if_neg h, List.map_append]
      rfl
theorem addR_mem {α β : Type} [DecidableEq α] : ∀ (zs as : List (α × β)) (z : α × β), z ∈ addR as zs → z ∈ as ∨ z ∈ zs
  | [], as, z, h => .inl h
  | y :: zs, as, z, h => by
    unfold addR at h
    rcases addR_mem zs _ z h with q | q
    · by_cases e : y.1 ∈ as.map (·.1)
      · rw [if_pos e] at q; exact .inl q
      · rw [if_neg e] at q
        rcases List.mem_append.mp q with q | q
        · exact .inl q
        · rw [List.mem_singleton.mp q]; exact .inr List.mem_cons_self
    · exact .inr (List.mem_cons_of_mem _ q)
theorem datL_of {G : Hp} : ∀ (zs : List (List Nat × Addr)), (∀ z ∈ zs, Dat K G (.ref z.2) (tupN z.1)) → DatL K G (zs.map fun z => V.ref z.2) ((zs.map (·.1)).map tupN)
  | [], _ => .nil
  | z :: zs, h => .cons (h z List.mem_cons_self) (datL_of zs fun y hy => h y (List.mem_cons_of_mem _ hy))
def pairT (m : List Nat) : D := .tup [tupN m, .bl true]
theorem pairs_rs {G : Hp} : ∀ {ms : List (List Nat)} {xs : List V}, DatL K G xs (ms.map pairT) → ∃ rs : List (Addr × List Nat × Addr), xs = rs.map (fun r => V.ref r.1) ∧ rs.map (fun r => r.2.1) = ms ∧ ∀ r ∈ rs, SqT K G r.1 [.ref r.2.2, .bl true] ∧ Dat K G (.ref r.2.2) (tupN r.2.1)
  | [], _, h => by cases h; exact ⟨[], rfl, rfl, fun r hr => nomatch hr⟩
  | m :: ms, _, h => by
    cases h with
    | cons a t =>
    obtain ⟨rs, rfl, rfl, hr⟩ := pairs_rs t
    obtain ⟨p, ys, rfl, hp, hd⟩ := Dat.tupV a
    cases hd with
    | cons d1 t2 =>
    cases t2 with
    | cons d2 t3 =>
    cases t3
    cases d2
    obtain ⟨b, zs, rfl, _, _⟩ := d1.tupV
    exact ⟨(p, m, b) :: rs, rfl, rfl, fun r h => by
      rcases List.mem_cons.mp h with rfl | h
      · exact ⟨hp, d1⟩
      · exact hr r h⟩
theorem dic_core {i j : Nat} {tl t2 : TE} {ms : List (List Nat)} {d2 : D} (hg : EV K β tl env (.lst (ms.map pairT))) (h2 : EV K β t2 env d2) {σ : Sg} {G H : Hp} (g : Good K β σ env G H) {Q : List V → Hp → Prop}
    (k : ∀ r v G3 H3, Good K β ((σ.set i (some (.ref r))).set j (some v)) ((env.set i (.own r ((dd [] ms).map tupN))).set j (.val v d2)) G3 H3 → Ex G G3 → Q [.ref r, v] H3) :
    tCons (tCB rListDic (tCons (tCB (rDictPT K) (tCons tl tNil)) tNil)) (tCons t2 tNil) σ H Q :=
  hg σ G H g _ fun v1 G1 H1 t1 d1 => by
    obtain ⟨a, xs, rfl, ha, hx⟩ := d1.lstV
    obtain ⟨rs, rfl, hms, hr⟩ := pairs_rs hx
    have g1 := g.up t1
    refine ⟨a, rs.map fun r => (r.1, keyN r.2.1, r.2.2), rfl, .inl (.inl (t1.gh _ _ (by rw [List.map_map]; exact ha))), fun r hr' => ?_, fun p hp => ?_⟩
    · obtain ⟨y, hy, rfl⟩ := List.mem_map.mp hr'
      obtain ⟨h1, h2⟩ := hr y hy
      refine ⟨ex_t t1.gh h1, ?_⟩
      obtain ⟨b, zs, e, hs, hd⟩ := h2.tupV
      cases e
      have := DatL.intsV (ns := y.2.1.map fun (i : Nat) => ((i : Nat) : Int)) (by rw [List.map_map]; exact hd)
      rw [List.map_map] at this
      show SqT K H1 y.2.2 ((keyN y.2.1).map kV)
      rw [keyN_kV]
      subst this
      exact ex_t t1.gh hs
    · have eb : (addR [] ((rs.map fun r => (r.1, keyN r.2.1, r.2.2)).map fun r => r.2)).map (·.2) = (addR [] (rs.map fun r => r.2)).map (·.2) := by
        have : ((rs.map fun r => (r.1, keyN r.2.1, r.2.2)).map fun r => r.2) = (rs.map fun r => r.2).map FK := by rw [List.map_map, List.map_map]; rfl
        rw [this, show ([] : List (List Key × Addr)) = ([] : List (List Nat × Addr)).map FK from rfl, addR_FK, List.map_map]
        rfl
      rw [eb]
      have hGp : G1 p = none := t1.gh.back hp
      have g2 := g1.up ((Stp.refl t1.gh).side (o := DicO p ((addR [] (rs.map fun r => r.2)).map (·.2))) hp hGp)
      refine ⟨p, (addR [] (rs.map fun r => r.2)).map (·.2), rfl, upd_same, fun r hr0 => ?_⟩
      refine h2 σ G1 _ (g2.up ((Stp.refl g2.gh).side (o := .lst (((addR [] (rs.map fun r => r.2)).map (·.2)).map V.ref)) hr0 (g2.gh.back hr0))) _ fun v G3 H3 t3 dv => ?_
      have gA := g2.newOwn (a := r) (ds := (dd [] ms).map tupN) (xs := ((addR [] (rs.map fun r => r.2)).map (·.2)).map V.ref) i hr0 (by
        have := datL_of (K := K) (G := G1) (addR [] (rs.map fun r => r.2)) (fun z hz => by
          rcases addR_mem _ _ _ hz with q | q
          · cases q
          · obtain ⟨y, hy, rfl⟩ := List.mem_map.mp q
            exact (hr y hy).2)
        rw [addR_dd] at this
        rw [List.map_map]
        have e2 : (List.map (fun x => x.1) (rs.map fun r => r.2)) = ms := by rw [List.map_map]; exact hms
        rw [e2] at this
        exact this)
      have gB := (gA.up t3).set j dv
      exact k r v G3 H3 gB (t1.gg.trans t3.gg)
theorem ex_parDic {i j : Nat} {tl t2 : TE} {ms : List (List Nat)} {d2 : D} (hg : EV K β tl env (.lst (ms.map pairT))) (h2 : EV K β t2 env d2)
    (k : ∀ p v, P.nx ((env.set i (.own p ((dd [] ms).map tupN))).set j (.val v d2))) :
    EX K β W (tPar i j (tCons (tCB rListDic (tCons (tCB (rDictPT K) (tCons tl tNil)) tNil)) (tCons t2 tNil))) env P := fun σ G H g Dn c x =>
  dic_core hg h2 g fun r v G3 H3 g3 e3 => ⟨_, _, rfl, c.nx _ _ G3 H3 g3 e3 (k r v)⟩
theorem ex_asgDic {i j n : Nat} {tl t2 : TE} {ms : List (List Nat)} {d2 : D} (hg : EV K β tl env (.lst (ms.map pairT))) (h2 : EV K β t2 env d2)
    (k : ∀ p v, EX K β W tr ((env.set i (.own p ((dd [] ms).map tupN))).set j (.val v d2)) P) (hn : 2 = n := by rfl) :
    EX K β W (tSeq (tAsg (tTup (tCons (tCB rListDic (tCons (tCB (rDictPT K) (tCons tl tNil)) tNil)) (tCons t2 tNil))) (gTup K n (gCons (gName i) (gCons (gName j) gNil)))) tr) env P :=
  ex_seq (N := fun e => ∃ p v, e = (env.set i (.own p ((dd [] ms).map tupN))).set j (.val v d2)) (fun σ G H g Dn c x =>
    show (tCons (tCB rListDic (tCons (tCB (rDictPT K) (tCons tl tNil)) tNil)) (tCons t2 tNil)) σ H (fun vs H1 => vs.length ≤ sizeLine ∧ ∀ p, H1 p = none → gTup K n (gCons (gName i) (gCons (gName j) gNil)) (.ref p) σ (upd H1 p (.tup vs)) fun σ' H' => Dn.nx σ' H') from
    dic_core hg h2 g fun r v G3 H3 g3 e3 => ⟨by show 2 ≤ sizeLine; rw [sizeLine_eq]; decide, fun q hq => ⟨q, _, rfl, .of upd_same, hn, _, _, rfl, _, _, rfl, rfl, c.nx _ _ G3 _ (g3.up ((Stp.refl g3.gh).side hq (g3.gh.back hq))) e3 ⟨r, v, rfl⟩⟩⟩)
    fun e ⟨p, v, h⟩ => h ▸ k p v
end
end DL

set_option Elab.async false
set_option linter.all false
set_option maxRecDepth 100000
set_option maxHeartbeats 2000000
namespace DL
open PySem PySem.Spec PyProof.Rows L2
/-- a list or a tuple, walked -/
def iSeq (K : PySem.W.Frag) (tl : TE) : TI := fun σ H R => tl σ H fun x H1 => ∃ a, x = .ref a ∧ (((∃ xs, SqL K H1 a xs) ∧ R (Itl K a) H1) ∨ ((∃ xs, SqT K H1 a xs) ∧ R (Itt K a) H1))
theorem pi_seq {X : Cx} {tg l : Expr} {tl : TE} (hl : PE X l tl) : PI X tg l (iSeq X.K tl) := by
  refine ⟨fun pins s σ H R I h => ?_⟩
  refine thn (hl.run pins s σ H _ I h) fun v s1 ⟨x, H1, I1, r1, q1⟩ => ?_
  obtain ⟨a, e, ⟨⟨xs, hq⟩, q⟩ | ⟨⟨xs, hq⟩, q⟩⟩ := q1
  · subst e
    cases r1
    obtain ⟨its, rv, p, hz⟩ := I1.list hq
    refine wpAny_pyIter_list p.isList ?_
    refine ⟨s1.heap.objs.size, [s1.heap.objs.size], _, _, H1, rfl, I1.kept (t' := s1.toks) fun b o e => Heap.get?_push_of_some _ e, turn_list a _, ⟨_, Heap.get?_push_size _ rfl, rfl, rfl⟩, fun b hb => ?_, q⟩
    have e : b = s1.heap.objs.size := by simpa using hb
    subst e
    exact I1.fpOk (Nat.le_refl _) (I1.hok.fresh (Nat.le_refl _))
  · subst e
    cases r1
    obtain ⟨its, rv, p, hz⟩ := I1.tuple hq
    refine wpAny_pyIter_tuple (show s1.heap.IsTuple a its.toArray from p) ?_
    refine ⟨s1.heap.objs.size, [s1.heap.objs.size], _, _, H1, rfl, I1.kept (t' := s1.toks) fun b o e => Heap.get?_push_of_some _ e, turn_tuple a _, ⟨_, Heap.get?_push_size _ rfl, rfl, rfl⟩, fun b hb => ?_, q⟩
    have e : b = s1.heap.objs.size := by simpa using hb
    subst e
    exact I1.fpOk (Nat.le_refl _) (I1.hok.fresh (Nat.le_refl _))
theorem pi_seqK {X : Cx} (K : PySem.W.Frag) {tg l : Expr} {tl : TE} (hl : PE X l tl) (h : X.K = K := by rfl) : PI X tg l (iSeq K tl) := h ▸ pi_seq hl
section
variable {K : PySem.W.Frag} {β : Bas} {env : Env'} {ta tb te tc to : TE} {tt tu : TT} {x y z d : D} {v w : V} {P : Post} {W : WX} {ts tr : TS}
theorem ei_seqL {tl : TE} {ds : List D} (h : EV K β tl env (.lst ds)) : EVI K β (iSeq K tl) env ds := fun σ G H g R q =>
  h σ G H g _ fun v G1 H1 t1 d1 => by
    obtain ⟨a, xs, rfl, ht, hd⟩ := d1.lstV
    exact ⟨a, rfl, .inl ⟨⟨xs, .of (t1.gh _ _ ht)⟩, q _ xs G1 H1 t1 hd (itv_list ht)⟩⟩
theorem ei_seqT {tl : TE} {ds : List D} (h : EV K β tl env (.tup ds)) : EVI K β (iSeq K tl) env ds := fun σ G H g R q =>
  h σ G H g _ fun v G1 H1 t1 d1 => by
    obtain ⟨a, xs, rfl, ht, hd⟩ := d1.tupV
    exact ⟨a, rfl, .inr ⟨⟨xs, ex_t t1.gh ht⟩, q _ xs G1 H1 t1 hd (itv_tup ht)⟩⟩
theorem map_getD {α : Type} {ds : List D} {f : D → α} : ((List.range ds.length).map fun i => f (ds.getD i .non)) = ds.map f := by
  apply List.ext_getElem
  · simp
  · intro i h1 h2
    simp only [List.length_map, List.length_range] at h1
    simp [h1]
/-- [e for x in xs] -/
theorem ev_lcS {wi : TI} {j : Nat} {vs : List Nat} {ds : List D} {F : D → D} (hI : EVI K β wi env ds) (hl : ds.length < sizeLine) (hj : j ∈ vs)
    (hs : ∀ d v, d ∈ ds → EV K β te ((wipeE env vs).set j (.val v d)) (F d)) : EV K β (tLc wi (gName j) tYes te vs) env (.lst (ds.map F)) := by
  have h := ev_lcA (K := K) (β := β) (te := te) (F := fun i => F (ds.getD i .non)) hI hl hj (fun i v d hd => by
    have e : ds.getD i .non = d := by rw [List.getD_eq_getElem?_getD, hd]; rfl
    rw [e]
    exact hs d v (List.mem_of_getElem? hd))
  rw [map_getD] at h
  exact h
theorem rgD_at {n i : Nat} {d : D} (h : (rgD 0 n)[i]? = some d) : i < n ∧ d = .int (i : Nat) := by
  have hi : i < n := by have := (List.getElem?_eq_some_iff.mp h).1; rw [rgD_length] at this; exact this
  rw [rgD_get hi, Int.zero_add] at h
  exact ⟨hi, (Option.some.inj h).symm⟩
/-- for x in r .., r a range object 0, .. n - 1 -/
theorem evin_rngO {tl : TE} {j n : Nat} {vs : List Nat} {r : List Cl} {f : Nat → Bool} {F : Nat → List D} (h : EV K β tl env (.rng 0 (n : Nat))) (hn : n < 2 ^ 62) (hj : j ∈ vs)
    (hs : ∀ (i : Nat) v, i < n → EVT K β tt ((wipeE env vs).set j (.val v (.int (i : Nat)))) (f i) ∧ (f i = true → EVIn K β r te ((wipeE env vs).set j (.val v (.int (i : Nat)))) (F i))) (hf : ∀ i, i < n → f i = false → F i = []) :
    EVIn K β ((iRngO tl, gName j, tt, vs) :: r) te env (flat F n) := by
  have e : (rgD 0 (((n : Nat) : Int) - 0).toNat).length = n := by rw [rgD_length]; omega
  have := evin_cons (K := K) (β := β) (tt := tt) (te := te) (r := r) (f := f) (F := F) (ei_rngO h (by omega)) hj (fun i v d hd => by
    obtain ⟨hi, rfl⟩ := rgD_at (n := n) (by rw [show n = (((n : Nat) : Int) - 0).toNat by omega]; exact hd)
    exact hs i v hi) (fun i hi => hf i (by omega))
  rw [e] at this
  exact this
theorem ev_lcMR {tl : TE} {j n : Nat} {vs : List Nat} {r : List Cl} {f : Nat → Bool} {F : Nat → List D} (h : EV K β tl env (.rng 0 (n : Nat))) (hn : n < 2 ^ 62) (hj : j ∈ vs)
    (hs : ∀ (i : Nat) v, i < n → EVT K β tt ((wipeE env vs).set j (.val v (.int (i : Nat)))) (f i) ∧ (f i = true → EVIn K β r te ((wipeE env vs).set j (.val v (.int (i : Nat)))) (F i))) (hf : ∀ i, i < n → f i = false → F i = []) (hz : (flat F n).length < sizeLine) :
    EV K β (tLcN (iRngO tl) (gName j) tt r te vs) env (.lst (flat F n)) := by
  have e : (rgD 0 (((n : Nat) : Int) - 0).toNat).length = n := by rw [rgD_length]; omega
  have := ev_lcM (K := K) (β := β) (tt := tt) (te := te) (r := r) (f := f) (F := F) (ei_rngO h (by omega)) hj (fun i v d hd => by
    obtain ⟨hi, rfl⟩ := rgD_at (n := n) (by rw [show n = (((n : Nat) : Int) - 0).toNat by omega]; exact hd)
    exact hs i v hi) (fun i hi => hf i (by omega)) (by rw [e]; exact hz)
  rw [e] at this
  exact this
end
end DL

set_option Elab.async false
set_option linter.all false
set_option maxRecDepth 100000
set_option maxHeartbeats 2000000
namespace DL
open PySem PySem.Spec PyProof.Rows L2
/-- a list of numbers -/
def lstN (ms : List Nat) : List D := ms.map fun (i : Nat) => D.int (i : Nat)
theorem lstN_len (ms : List Nat) : (lstN ms).length = ms.length := by unfold lstN; rw [List.length_map]
theorem lstN_app (ms : List Nat) (k : Nat) : lstN ms ++ [D.int (k : Nat)] = lstN (ms ++ [k]) := by unfold lstN; rw [List.map_append]; rfl
theorem lstN_get {ms : List Nat} {i k : Nat} (h : ms[i]? = some k) : (lstN ms)[i]? = some (.int (k : Nat)) := by unfold lstN; rw [List.getElem?_map, h]; rfl
theorem inV_ints (x : Nat) (ms : List Nat) : inV (.int (x : Nat)) (ms.map fun (i : Nat) => V.int (i : Nat)) = decide (x ∈ ms) := by
  unfold inV
  induction ms with
  | nil => simp
  | cons m ms ih =>
    rw [List.map_cons, List.any_cons, ih]
    have e : eqV (V.int (m : Nat)) (V.int (x : Nat)) = decide (m = x) := by
      show (((m : Nat) : Int) == ((x : Nat) : Int)) = _
      by_cases h : m = x
      · simp [h]
      · rw [decide_eq_false h, beq_eq_false_iff_ne]
        omega
    rw [e]
    by_cases h1 : m = x
    · simp [h1]
    · by_cases h2 : x ∈ ms <;> simp [h1, h2, Ne.symm h1]
theorem flat_ints (ms : List Nat) : (ms.map fun (i : Nat) => V.int (i : Nat)).all flatV = true := by
  rw [List.all_map, List.all_eq_true]
  intro x _
  rfl
theorem DatL.natsV {K : PySem.W.Frag} {G : Hp} {ms : List Nat} {vs : List V} (h : DatL K G vs (lstN ms)) : vs = ms.map fun (i : Nat) => V.int (i : Nat) := by
  have := DatL.intsV (ns := ms.map fun (i : Nat) => ((i : Nat) : Int)) (by rw [List.map_map]; exact h)
  rw [this, List.map_map]
  rfl
theorem mt_indexK {X : Cx} (K : PySem.W.Frag) (h : X.K = K := by rfl) : MtR X "list.index" (rIndex K) := h ▸ mt_index
section
variable {K : PySem.W.Frag} {β : Bas} {env : Env'} {ta tb te tc to : TE} {tt tu : TT} {x y z d : D} {v w : V} {P : Post} {W : WX} {ts tr : TS}
theorem op_inN {x : Nat} {ms : List Nat} : OpD K (rIn K false) (.int (x : Nat)) (.lst (lstN ms)) (.bl (decide (x ∈ ms))) := fun G H v1 v2 e d1 d2 Q q => by
  obtain ⟨a, xs, rfl, ha, hx⟩ := d2.lstV
  cases d1
  have ex := DatL.natsV hx
  subst ex
  refine ⟨a, _, rfl, .inl (.inl (.inl (e _ _ ha))), rfl, flat_ints ms, ?_⟩
  rw [inV_ints]
  exact q _ G H (.refl e) (.bl _)
theorem ev_notInOwnN {i : Nat} {a : Addr} {ms : List Nat} {p : Nat} (hi : env[i]? = some (.own a (lstN ms))) (he : EV K β te env (.int (p : Nat))) : EV K β (tOp (rIn K true) te (tVar i)) env (.bl (!decide (p ∈ ms))) := fun σ G H g Q q => by
  refine he σ G H g _ fun v1 G1 H1 t1 d1 => ?_
  obtain ⟨h1, h2, h3, xs, h4, h5⟩ := (g.up t1).own hi
  cases d1
  have ex := DatL.natsV h5
  subst ex
  refine ⟨.ref a, h1, a, _, rfl, .inl (.inl (.inl h4)), rfl, flat_ints ms, ?_⟩
  rw [inV_ints]
  exact q _ G1 H1 t1 (.bl _)
theorem rindexN {a : Addr} {ms : List Nat} {p j : Nat} {H : Hp} {Q : VK} (hs : SqL K H a (ms.map fun (i : Nat) => V.int (i : Nat))) (hj : ms[j]? = some p) (hm : ∀ m, m < j → ms[m]? ≠ some p) (q : Q (.int (j : Nat)) H) : rIndex K (.ref a) [.int (p : Nat)] H Q := by
  refine ⟨a, _, _, j, .int (p : Nat), rfl, rfl, hs, rfl, flat_ints ms, by rw [List.getElem?_map, hj]; rfl, ?_, fun m z hlt hz => ?_, q⟩
  · show (((p : Nat) : Int) == ((p : Nat) : Int)) = true
    exact beq_self_eq_true _
  · rw [List.getElem?_map] at hz
    cases hq : ms[m]? with
    | none => rw [hq] at hz; cases hz
    | some p' =>
      rw [hq] at hz
      cases hz
      show (((p' : Nat) : Int) == ((p : Nat) : Int)) = false
      rw [beq_eq_false_iff_ne]
      intro e
      exact hm m hlt (by rw [hq]; congr 1; omega)
theorem ev_indexN {ms : List Nat} {p j : Nat} (h : EV K β to env (.lst (lstN ms))) (he : EV K β te env (.int (p : Nat))) (hj : ms[j]? = some p) (hm : ∀ m, m < j → ms[m]? ≠ some p) : EV K β (tBM K "list" (rIndex K) to (tCons te tNil)) env (.int (j : Nat)) := fun σ G H g Q q =>
  h σ G H g _ fun v1 G1 H1 t1 d1 => by
    obtain ⟨a, xs, rfl, ha, hx⟩ := d1.lstV
    have ex := DatL.natsV hx
    subst ex
    refine ⟨.inl ⟨rfl, _, .of (t1.gh _ _ ha)⟩, he σ G1 H1 (g.up t1) _ fun v2 G2 H2 t2 d2 => ?_⟩
    cases d2
    exact rindexN (.inl (.inl (t2.hh _ _ (t1.gh _ _ ha)))) hj hm (q _ G2 H2 (t1.trans t2) (.int _))
theorem ev_indexOwn {i : Nat} {a : Addr} {ms : List Nat} {p j : Nat} (hi : env[i]? = some (.own a (lstN ms))) (he : EV K β te env (.int (p : Nat))) (hj : ms[j]? = some p) (hm : ∀ m, m < j → ms[m]? ≠ some p) : EV K β (tBM K "list" (rIndex K) (tVar i) (tCons te tNil)) env (.int (j : Nat)) := fun σ G H g Q q => by
  obtain ⟨h1, h2, h3, xs, h4, h5⟩ := g.own hi
  have ex := DatL.natsV h5
  subst ex
  refine ⟨.ref a, h1, .inl ⟨rfl, _, .of h4⟩, he σ G H g _ fun v2 G2 H2 t2 d2 => ?_⟩
  cases d2
  exact rindexN (.inl (.inl (t2.hh _ _ h4))) hj hm (q _ G2 H2 t2 (.int _))
/-- a, b = [..], e: a one's own -/
theorem ex_parNewV {i j : Nat} {ta : TA} {ds : List D} (he : EVA K β ta env ds) (hl : ds.length ≤ sizeLine) (h2 : EV K β te env d) (k : ∀ a v, P.nx ((env.set i (.own a ds)).set j (.val v d))) :
    EX K β W (tPar i j (tCons (tLst ta) (tCons te tNil))) env P := fun σ G H g Dn c x =>
  he σ G H g _ fun vs G1 H1 t1 d1 => ⟨by rw [d1.length]; exact hl, fun p hp => by
    have g1 := g.up t1
    have g2 := g1.up ((Stp.refl t1.gh).side (o := .lst vs) hp (t1.gh.back hp))
    refine h2 σ G1 _ g2 _ fun v G3 H3 t3 dv => ?_
    have gA := g1.newOwn (a := p) (ds := ds) (xs := vs) i hp d1
    have gB := (gA.up t3).set j dv
    exact ⟨_, _, rfl, c.nx _ _ G3 H3 gB (t1.gg.trans t3.gg) (k p v)⟩⟩
theorem ex_parNewVS {i j : Nat} {ta : TA} {ds : List D} (he : EVA K β ta env ds) (hl : ds.length ≤ sizeLine) (h2 : EV K β te env d) (k : ∀ a v, EX K β W tr ((env.set i (.own a ds)).set j (.val v d)) P) :
    EX K β W (tSeq (tPar i j (tCons (tLst ta) (tCons te tNil))) tr) env P :=
  ex_seq (N := fun e => ∃ a v, e = (env.set i (.own a ds)).set j (.val v d)) (ex_parNewV he hl h2 fun a v => ⟨a, v, rfl⟩) fun e ⟨a, v, h⟩ => h ▸ k a v
/-- how long the list in a slot is -/
def slotLen (e : Env') (i : Nat) : Nat := match (e[i]? : Option Sl) with
  | some (.own _ ds) => ds.length
  | _ => 0
end
end DL

set_option Elab.async false
set_option linter.all false
set_option maxRecDepth 100000
set_option maxHeartbeats 2000000
namespace DL
open PySem PySem.Spec PyProof.Rows L2
theorem op_notInDK {X : Cx} (K : PySem.W.Frag) (hu : X.A.units + 65 < cLine) (h : X.K = K := by rfl) : OpR X (compareOp .NotIn) (rNotInD K) := h ▸ op_notInD hu
theorem op_inDK {X : Cx} (K : PySem.W.Frag) (hu : X.A.units + 65 < cLine) (h : X.K = K := by rfl) : OpR X (compareOp .In) (rInD K) := h ▸ op_inD hu
theorem call_dictPTK {X : Cx} (K : PySem.W.Frag) (hcalm : X.calm = true) (hu : X.A.units + 65 < cLine) (h : X.K = K := by rfl) : CallR X (.type "dict") (rDictPT K) := h ▸ call_dictPT hcalm (by omega)
end DL

set_option Elab.async false
set_option linter.all false
set_option maxRecDepth 100000
set_option maxHeartbeats 2000000
namespace DL
open PySem PySem.Spec PyProof.Rows L2
/-! ### comprehensions whose items ask the box -/
section
variable {K : PySem.W.Frag} {β : Bas} {env : Env'} {ta tb te tc to : TE} {tt tu : TT} {x y z d : D} {v w : V} {P : V → D → Env' → Prop}
theorem SlsOk.len {G H : Hp} : ∀ {σ : Sg} {env : Env'}, SlsOk K β G H σ env → σ.length = env.length
  | _, _, .nil => rfl
  | _, _, .cons _ r => by rw [List.length_cons, List.length_cons, SlsOk.len r]
theorem SlsOk.ofGet {G H : Hp} : ∀ {σ : Sg} {env : Env'}, σ.length = env.length → (∀ (i : Nat) (o : Option V) (s : Sl), σ[i]? = some o → env[i]? = some s → SlOk K β G H o s) → SlsOk K β G H σ env
  | [], [], _, _ => .nil
  | [], _ :: _, h, _ => by simp at h
  | _ :: _, [], h, _ => by simp at h
  | o :: σ, s :: env, h, hh => .cons (hh 0 o s rfl rfl) (SlsOk.ofGet (by simpa using h) fun i o' s' h1 h2 => hh (i + 1) o' s' (by simpa using h1) (by simpa using h2))
theorem wipeE_len (env : Env') : ∀ vs, (wipeE env vs).length = env.length
  | [] => rfl
  | v :: vs => by show ((wipeE env vs).set v .un).length = _; rw [List.length_set, wipeE_len env vs]
theorem wipeE_in {env : Env'} {i : Nat} : ∀ {vs : List Nat}, i ∈ vs → i < env.length → (wipeE env vs)[i]? = some .un
  | v :: vs, h, hl => by
    show ((wipeE env vs).set v .un)[i]? = _
    by_cases e : v = i
    · subst e; rw [List.getElem?_set_self (by rw [wipeE_len]; exact hl)]
    · rw [List.getElem?_set_ne e]
      exact wipeE_in ((List.mem_cons.mp h).resolve_left fun z => e z.symm) hl
theorem wipeE_out {env : Env'} {i : Nat} : ∀ {vs : List Nat}, i ∉ vs → (wipeE env vs)[i]? = env[i]?
  | [], _ => rfl
  | v :: vs, h => by
    show ((wipeE env vs).set v .un)[i]? = _
    rw [List.getElem?_set_ne (fun e => h (by rw [← e]; exact List.mem_cons_self))]
    exact wipeE_out fun z => h (List.mem_cons_of_mem _ z)
theorem nd_wipe {env : Env'} (h : (env.filterMap ownA).Nodup) : ∀ vs, ((wipeE env vs).filterMap ownA).Nodup
  | [] => h
  | v :: vs => (nd_set (s := .un) rfl v (nd_wipe h vs)).1
/-- back from a block: its own names are forgotten -/
theorem Good.unblk {σ : Sg} {G H : Hp} {vs : List Nat} {j : Nat} {o : Option V} (g : Good K β ((L2.wipe σ vs).set j o) env G H) (hj : j ∈ vs) : Good K β σ (wipeE env vs) G H := by
  refine ⟨g.gg, g.hh, g.gh, g.ow, g.bh, ?_, nd_wipe g.nd vs⟩
  have hl := g.sl.len
  rw [List.length_set, L2.wipe_length] at hl
  refine SlsOk.ofGet (by rw [wipeE_len, hl]) fun i o' s h1 h2 => ?_
  by_cases hi : i ∈ vs
  · have hlt : i < env.length := by rw [← hl]; exact (List.getElem?_eq_some_iff.mp h1).1
    rw [wipeE_in hi hlt] at h2
    cases h2
    trivial
  · rw [wipeE_out hi] at h2
    obtain ⟨o2, h3, h4⟩ := g.sl.get h2
    rw [List.getElem?_set_ne (fun e => hi (by rw [← e]; exact hj)), L2.wipe_out hi, h1] at h3
    cases h3
    exact h4
/-- a new thing joins the view -/
theorem Good.gain {σ : Sg} {G H : Hp} {p : Addr} {o : HO} (g : Good K β σ env G H) (hG : G p = none) (hn : p ∉ owns env) (hβ : β.H p = none) (hp : H p = some o) : Good K β σ env (upd G p o) H := by
  refine ⟨g.gg.trans (.new hG), g.hh, fun b u e => ?_, fun b e1 e2 => ?_, g.bh, ?_, g.nd⟩
  · by_cases hb : b = p
    · subst hb; rw [upd_same] at e; rw [hp]; exact e
    · rw [upd_ne hb] at e; exact g.gh b u e
  · have hne : b ≠ p := fun z => e2 (z ▸ hβ)
    rw [upd_ne hne]; exact g.ow b e1 e2
  · refine SlsOk.ofGet g.sl.len fun i o' s h1 h2 => ?_
    obtain ⟨o2, h3, h4⟩ := g.sl.get h2
    rw [h1] at h3
    cases h3
    cases s with
    | un => trivial
    | val v d => exact ⟨h4.1, h4.2.up (.new hG)⟩
    | own a ds =>
      obtain ⟨y1, y2, y3, zs, y4, y5⟩ := h4
      have hne : a ≠ p := fun z => hn (by rw [← z]; exact owns_own h2)
      exact ⟨y1, y2, by rw [upd_ne hne]; exact y3, zs, y4, y5.up (.new hG)⟩
variable (K β) in
/-- an iterator whose making may ask the box -/
def XI (wi : TI) (env : Env') (P : List D → Env' → Prop) : Prop := ∀ σ G H, Good K β σ env G H → ∀ R : It → Hp → Prop, (∀ J vs ds env' G' H', Good K β σ env' G' H' → StpE (owns env) G H G' H' → owns env' = owns env → DatL K G' vs ds → ItV J G' vs → P ds env' → R J H') → wi σ H R
theorem EVI.xi {wi : TI} {ds : List D} (h : EVI K β wi env ds) : XI K β wi env (fun ds' e => ds' = ds ∧ e = env) := fun σ G H g R q => h σ G H g R fun J vs G' H' t hd hJ => q J vs ds env G' H' (g.up t) (.of t) rfl hd hJ ⟨rfl, rfl⟩
theorem xi_rng1 {P1 : V → D → Env' → Prop} {PI : List D → Env' → Prop} (h : XE K β te env P1) (k : ∀ v d e, P1 v d e → ∃ n : Nat, d = .int (n : Nat) ∧ n < 2 ^ 62 ∧ PI (rgD 0 n) e) : XI K β (iRng1 (tCons te tNil)) env PI := fun σ G H g R q =>
  h σ G H g _ fun v d e G1 H1 g1 t1 e1 dv p1 => by
    obtain ⟨n, rfl, hn, hp⟩ := k _ _ _ p1
    cases dv
    exact ⟨n, rfl, by omega, by omega, q _ _ (rgD 0 n) e G1 H1 g1 t1 e1 (DatL.rg 0 n) itv_rng hp⟩
theorem xe_lc {wi : TI} {j : Nat} {vs : List Nat} {PI : List D → Env' → Prop} (hI : XI K β wi env PI) (hj : j ∈ vs)
    (hs : ∀ ds e, PI ds e → ds.length < sizeLine ∧ ∃ I : Nat → List D → Env' → Prop, I 0 [] e ∧
      (∀ i L e' v d, ds[i]? = some d → I i L e' → owns e' = owns env → owns ((wipeE e' vs).set j (.val v d)) = owns env ∧ XE K β te ((wipeE e' vs).set j (.val v d)) (fun _ d' e2 => I (i + 1) (L ++ [d']) (wipeE e2 vs) ∧ owns (wipeE e2 vs) = owns env)) ∧
      ∀ L e', I ds.length L e' → ∀ v, P v (.lst L) e') : XE K β (tLc wi (gName j) tYes te vs) env P := fun σ G H g0 Q q =>
  hI σ G H g0 _ fun J us ds e0 G1 H1 g1 t1 o1 hd hJ hP Dl hD => by
    obtain ⟨hn, I, I0, hstep, hend⟩ := hs ds e0 hP
    have hG1 : G1 Dl = none := g1.gh.back hD
    have hnD : Dl ∉ owns env := fun m => g1.there (by rw [o1]; exact m) hD
    have hβ : β.H Dl = none := by
      cases z : β.H Dl with
      | none => rfl
      | some o => exact absurd hD (g1.hn (by rw [z]; exact (fun e => nomatch e)))
    refine ⟨fun i m H' => m = us.length - i ∧ i ≤ us.length ∧ ∃ G' acc L e', Good K β σ e' G' H' ∧ StpE (owns env) G H G' H' ∧ owns e' = owns env ∧ Ex G1 G' ∧ G' Dl = none ∧ H' Dl = some (.lst acc) ∧ DatL K G' acc L ∧ L.length = i ∧ I i L e',
      ⟨us.length, by simp, Nat.zero_le _, G1, [], [], e0, g1.up ((Stp.refl g1.gh).side hD hG1), StpE.tr g1 o1 t1 (.of ((Stp.refl g1.gh).side hD hG1)), o1, .refl _, hG1, upd_same, .nil, rfl, I0⟩, ?_⟩
    rintro i m H' ⟨rfl, hi, G', acc, L, e', g', t', o', eG, hG, hacc, hda, hL, hIi⟩
    by_cases hlt : i < us.length
    · have hx : us[i]? = some us[i] := List.getElem?_eq_getElem hlt
      obtain ⟨d, hdi, dx⟩ := hd.getV hx
      obtain ⟨hgo, hyl⟩ := (hJ i H' (eG.trans g'.gh)).2 _ hx
      refine .inr ⟨hgo, fun H'' => ∃ G' acc L e', Good K β σ e' G' H'' ∧ StpE (owns env) G H G' H'' ∧ owns e' = owns env ∧ Ex G1 G' ∧ G' Dl = none ∧ H'' Dl = some (.lst acc) ∧ DatL K G' acc L ∧ L.length = i + 1 ∧ I (i + 1) L e', fun H'' z => ⟨us.length - (i + 1), by omega, rfl, hlt, z⟩, fun x H'' hy => ?_⟩
      obtain ⟨rfl, rfl⟩ := hyl _ _ hy
      refine ⟨wipe_set σ vs j _ hj, ?_⟩
      have gB := (g'.wipe vs).set j (dx.up eG)
      show te _ _ _
      obtain ⟨ob, hX⟩ := hstep i L e' us[i] d hdi hIi o'
      refine hX _ _ _ gB _ fun y dy e2 G4 H4 g4 t4 o4 dvy ⟨hI2, o2⟩ => ?_
      rw [ob] at t4 o4
      have h4 : H4 Dl = some (.lst acc) := t4.hh Dl _ hnD hacc
      have a4 : G4 Dl = none := t4.ow _ hG (by rw [hacc]; exact (fun e => nomatch e))
      have g5 := g4.unblk hj
      have hnD5 : Dl ∉ owns (wipeE e2 vs) := by rw [o2]; exact hnD
      · have g6 : Good K β σ (wipeE e2 vs) G4 (upd H4 Dl (.lst (acc ++ [y]))) := by
          refine ⟨g5.gg, fun a o h1 h2 => ?_, fun a u e => by rw [upd_ne (ne_of_none e a4)]; exact g5.gh a u e, g5.ow, fun a h => ?_, g5.sl.wr hnD5, g5.nd⟩
          · rw [upd_ne (fun z => by rw [z, hβ] at h2; cases h2)]; exact g5.hh a o h1 h2
          · by_cases z : a = Dl
            · subst z; rw [upd_same]; exact (fun e => nomatch e)
            · rw [upd_ne z]; exact g5.bh a h
        have tr : StpE (owns env) G H G4 H4 := StpE.trans (fun a ha hne => g'.there (by rw [o']; exact ha)) t' t4
        have tr2 : StpE (owns env) G H G4 (upd H4 Dl (.lst (acc ++ [y]))) := by
          refine ⟨tr.gg, g6.gh, fun a o ha e => ?_, tr.ow⟩
          have hne : a ≠ Dl := fun z => by
            subst z
            have : H1 a ≠ none := by rw [t1.hh a o ha e]; exact (fun e => nomatch e)
            exact this hD
          rw [upd_ne hne]; exact tr.hh a o ha e
        refine ⟨acc, h4, ?_, G4, acc ++ [y], L ++ [dy], wipeE e2 vs, g6, tr2, o2, eG.trans t4.gg, a4, upd_same, (hda.up t4.gg).append (.one dvy), by rw [List.length_append, hL]; rfl, hI2⟩
        rw [hda.length, hL]
        have := hd.length
        omega
    · have hil : i = us.length := by omega
      refine .inl ⟨(hJ i H' (eG.trans g'.gh)).1 hil, ?_⟩
      rw [hil, hd.length] at hIi
      have hnD' : Dl ∉ owns e' := by rw [o']; exact hnD
      refine q _ (.lst L) e' (upd G' Dl (.lst acc)) H' (g'.gain hG hnD' hβ hacc) ⟨t'.gg.trans (.new hG), (g'.gain hG hnD' hβ hacc).gh, t'.hh, fun a h1 h2 => ?_⟩ o' (.lst upd_same (hda.up (.new hG))) (hend L e' hIi _)
      by_cases z : a = Dl
      · subst z
        by_cases ho : a ∈ owns env
        · exact absurd ho hnD
        · cases hH : H a with
          | none => exact absurd hH h2
          | some o =>
            have := t1.hh a o ho hH
            rw [hD] at this
            cases this
      · rw [upd_ne z]; exact t'.ow a h1 h2
end
end DL

set_option Elab.async false
set_option linter.all false
set_option maxRecDepth 100000
set_option maxHeartbeats 2000000
namespace DL
open PySem PySem.Spec PyProof.Rows L2
section
variable {K : PySem.W.Frag} {β : Bas} {env : Env'} {ta tb te tc to tn tn' : TE} {tt tu : TT} {x y z d : D} {v w : V} {P : Post} {W : WX} {ts tr : TS}
/-- tuple([row for x in range(n)]) -/
theorem ev_rows {n j : Nat} {vs : List Nat} {f : Nat → Nat → Nat} (hl : n < 16777216) (hn : EV K β tn env (.int (n : Nat))) (hj : j ∈ vs)
    (hs : ∀ (x : Nat) v, x < n → EV K β te ((wipeE env vs).set j (.val v (.int (x : Nat)))) (rowD n (f x))) : EV K β (tThen (tLc (iRng1 (tCons tn tNil)) (gName j) tYes te vs) (kTup K)) env (tblD n f) :=
  ev_then (ev_lcR (F := fun x => rowD n (f x)) hn hl hj hs) un_tupL
/-- tuple([tuple([e for y in range(n)]) for x in range(n)]) -/
theorem ev_tab {n j k : Nat} {vs vs' : List Nat} {f : Nat → Nat → Nat} (hl : n < 16777216) (hn : EV K β tn env (.int (n : Nat))) (hj : j ∈ vs) (hk : k ∈ vs')
    (hn' : ∀ (x : Nat) v, x < n → EV K β tn' ((wipeE env vs).set j (.val v (.int (x : Nat)))) (.int (n : Nat)))
    (hs : ∀ (x y : Nat) vx vy, x < n → y < n → EV K β te ((wipeE ((wipeE env vs).set j (.val vx (.int (x : Nat)))) vs').set k (.val vy (.int (y : Nat)))) (.int (f x y : Nat))) :
    EV K β (tThen (tLc (iRng1 (tCons tn tNil)) (gName j) tYes (tThen (tLc (iRng1 (tCons tn' tNil)) (gName k) tYes te vs') (kTup K)) vs) (kTup K)) env (tblD n f) :=
  ev_rows hl hn hj fun x v hx => ev_then (ev_lcR (F := fun y => .int (f x y : Nat)) (hn' x v hx) hl hk fun y vy hy => hs x y v vy hx hy) un_tupL
theorem op_ixN {ms : List Nat} {i k : Nat} (h : ms[i]? = some k) : OpD K (rIx K) (.lst (lstN ms)) (.int (i : Nat)) (.int (k : Nat)) := op_ix (.inr rfl) (atI_natD (lstN_get h))
theorem op_ixR {n i : Nat} {f : Nat → Nat} (h : i < n) : OpD K (rIx K) (.lst ((List.range n).map fun (k : Nat) => D.int (f k : Nat))) (.int (i : Nat)) (.int (f i : Nat)) := op_ix (.inr rfl) (atI_natD (by rw [List.getElem?_map, List.getElem?_range h]; rfl))
end
end DL

set_option Elab.async false
set_option linter.all false
set_option maxRecDepth 100000
set_option maxHeartbeats 2000000
namespace DL
open PySem PySem.Spec PyProof.Rows L2
section
variable {K : PySem.W.Frag} {β : Bas} {env : Env'} {ta tb te tc to tn tn' t2 : TE} {tt tu : TT} {x y z d d1 : D} {v w : V} {P : Post} {W : WX} {ts tr : TS}
theorem ex_forget (i : Nat) (h : EX K β W ts (env.set i .un) P) : EX K β W ts env P := fun σ G H g => h σ G H (g.forget i)
/-- a, b = e, e may ask the box -/
theorem ex_asgX2 {i j n : Nat} {P1 : V → D → Env' → Prop} (he : XE K β te env P1) (k : ∀ v d e, P1 v d e → ∃ d1 d2, d = .tup [d1, d2] ∧ ∀ v1 v2, P.nx ((e.set i (.val v1 d1)).set j (.val v2 d2))) (hn : 2 = n := by rfl) :
    EX K β W (tAsg te (gTup K n (gCons (gName i) (gCons (gName j) gNil)))) env P := fun σ G H g Dn c x =>
  he σ G H g _ fun v d e G1 H1 g1 t1 e1 dv p1 => by
    obtain ⟨d1, d2, rfl, hk⟩ := k _ _ _ p1
    subst hn
    exact (eg_two (v := v)) σ G1 H1 g1 dv _ fun σ' env' g' ⟨v1, v2, he'⟩ => c.nx σ' env' G1 H1 g' t1.gg (by rw [he']; exact hk v1 v2)
theorem ex_asgX2S {i j n : Nat} {P1 : V → D → Env' → Prop} (he : XE K β te env P1) (k : ∀ v d e, P1 v d e → ∃ d1 d2, d = .tup [d1, d2] ∧ ∀ v1 v2, EX K β W tr ((e.set i (.val v1 d1)).set j (.val v2 d2)) P) (hn : 2 = n := by rfl) :
    EX K β W (tSeq (tAsg te (gTup K n (gCons (gName i) (gCons (gName j) gNil)))) tr) env P :=
  ex_seq (N := fun e' => EX K β W tr e' P) (ex_asgX2 he (fun v d e p => by
    obtain ⟨d1, d2, h, hk⟩ := k v d e p
    exact ⟨d1, d2, h, hk⟩) hn) fun e h => h
theorem xa_ev {P2 : V → D → Env' → Prop} (he : EV K β te env d1) (h2 : XE K β t2 env P2) : XA K β (tCons te (tCons t2 tNil)) env (fun _ ds e => ∃ v2 d2, ds = [d1, d2] ∧ P2 v2 d2 e) := fun σ G H g Q q =>
  he σ G H g _ fun v1 G1 H1 t1 dv1 => h2 σ G1 H1 (g.up t1) _ fun v2 d2 e G2 H2 g2 t2 e2 dv2 p => q [v1, v2] [d1, d2] e G2 H2 g2 (StpE.tr (g.up t1) rfl (.of t1) t2) e2 (.cons (dv1.up t2.gg) (.cons dv2 .nil)) ⟨v2, d2, rfl, p⟩
theorem xt_and {a : Bool} {P2 : Bool → Env' → Prop} (h1 : EVT K β tt env a) (h2 : a = true → XT K β tu env P2) : XT K β (tAnd tt tu) env (fun b e => (a = true ∧ P2 b e) ∨ (a = false ∧ b = false ∧ e = env)) := fun σ G H g Q q => h1 σ G H g _ fun G1 H1 t1 => by
  cases a with
  | true =>
    show tu σ H1 Q
    exact h2 rfl σ G1 H1 (g.up t1) Q fun b e G2 H2 g2 t2 e2 p => q b e G2 H2 g2 (StpE.tr (g.up t1) rfl (.of t1) t2) e2 (.inl ⟨rfl, p⟩)
  | false =>
    show Q false H1
    exact q false env G1 H1 (g.up t1) (.of t1) rfl (.inr ⟨rfl, rfl, rfl⟩)
theorem op_isNN : OpD K rIsN .non .non (.bl true) := fun G H v1 v2 e d1 d2 Q q => by
  cases d1; cases d2
  exact ⟨rfl, q _ G H (.refl e) (.bl _)⟩
theorem op_isNT {ds : List D} : OpD K rIsN (.tup ds) .non (.bl false) := fun G H v1 v2 e d1 d2 Q q => by
  cases d2
  obtain ⟨a, xs, rfl, _, _⟩ := d1.tupV
  exact ⟨rfl, q _ G H (.refl e) (.bl _)⟩
theorem op_notNN : OpD K rNotN .non .non (.bl false) := fun G H v1 v2 e d1 d2 Q q => by
  cases d1; cases d2
  exact ⟨rfl, q _ G H (.refl e) (.bl _)⟩
theorem op_notNT {ds : List D} : OpD K rNotN (.tup ds) .non (.bl true) := fun G H v1 v2 e d1 d2 Q q => by
  cases d2
  obtain ⟨a, xs, rfl, _, _⟩ := d1.tupV
  exact ⟨rfl, q _ G H (.refl e) (.bl _)⟩
end
end DL

set_option Elab.async false
set_option linter.all false
set_option maxRecDepth 100000
set_option maxHeartbeats 4000000
namespace DL
open PySem PySem.Spec PyProof.Rows L2
theorem tuple_mul0 (l : Addr) (items : Array Value) (n : Nat) (dd : Option Addr) (sl : Array (Option Value)) (u : Tok) (c1 : items.isEmpty = false) :
    Meets (Builtin.«tuple.__mul__» ⟨[.ref l, .int 0 u], []⟩) (fun _ R s => s.heap.get? l = some { cls := .type "tuple", dict := dd, data := .seq items n, slots := sl } ∧
      R (.ok (.ret (Value.ref s.heap.objs.size))) { s with heap := s.heap.push { cls := Value.type "tuple", data := Data.seq #[] }, toks := s.toks }) :=
  .of_wp fun prog w A R s h => by
    obtain ⟨hp, g, d, tk, os⟩ := s
    obtain ⟨hl, h⟩ := h
    have f1 := AutoSeq1.idx_int
    have c1' : (items.isEmpty || (0 : Int) == 1) = false := by rw [c1]; rfl
    wp_walk using wpAny_loadPart' hl
    repeat (first
      | (refine wpAny_ite_false (decide_eq_false (by rw [c1']; exact Bool.false_ne_true)) ?_; wp_walk using wpAny_loadPart' hl)
      | (refine wpAny_ite_true (by decide) ?_; wp_walk using wpAny_loadPart' hl))
    exact ⟨_, rfl, h⟩
def rRepT3 (K : PySem.W.Frag) : R2 := fun x y H Q => (∃ l xs, x = .ref l ∧ y = .int 0 ∧ SqT K H l xs ∧ xs ≠ [] ∧ ∀ p, H p = none → Q (.ref p) (upd H p (.tup []))) ∨ rRepT2 K x y H Q
theorem op_repT3 {X : Cx} : OpR X (binaryOp .Mult) (rRepT3 X.K) := by
  intro pins s σ H x y v u Q I rx ry h
  rcases h with ⟨l, xs, rfl, rfl, hT, hne, q⟩ | h
  · cases rx
    obtain ⟨t, rfl⟩ := ry
    obtain ⟨its, r, ⟨⟨cls, dd, data, sl⟩, ho, hc, n, hd⟩, hs⟩ := I.tuple hT
    simp only at hc hd
    subst hc hd
    have hi : its.toArray.isEmpty = false := by
      cases its with
      | nil => cases r; exact absurd rfl hne
      | cons a b => rfl
    refine wpAny_binaryOp_repeat_ref (T := "tuple") (U := "int") (by decide) ⟨_, ho, rfl⟩ (fun s' => typeIs_int s' 0 t) noFill_tuple_mul F.fills_int_mul F.slot_int_rmul repeat_tuple F.slot_int_index.lookup
      (call_meets F.slot_int_rmul (typeIs_int s 0 t) F.entry_int_rmul (F.args_int_rmul_2 _ _) (int_rmul_tuple 0 t l its.toArray n dd sl)
        ⟨ho, rfl, ⟨_, ho, rfl⟩, call_meets F.slot_tuple_mul ⟨_, ho, rfl⟩ F.entry_tuple_mul (F.args_tuple_mul_2 _ _) (tuple_mul0 l its.toArray n dd sl t hi) ⟨ho, ?_⟩⟩)
    refine ⟨.ref s.heap.objs.size, _, I.laid (t' := s.toks) (o := .tup []) (fun b ob q => Heap.get?_push_of_some _ q) (Nat.le_refl _) ?_, rfl, q _ (I.hok.fresh (Nat.le_refl _))⟩
    exact ⟨Nat.zero_le _, [], .nil, IsTup.new _ _⟩
  · exact op_repT2 pins s σ H _ _ v u Q I rx ry h
theorem op_repT3K {X : Cx} (K : PySem.W.Frag) (h : X.K = K := by rfl) : OpR X (binaryOp .Mult) (rRepT3 K) := h ▸ op_repT3
theorem op_catAK {X : Cx} (K : PySem.W.Frag) (h : X.K = K := by rfl) : OpR X (binaryOp .Add) (rCatA K) := h ▸ op_catA
theorem sl_tupAK {X : Cx} (K : PySem.W.Frag) (h : X.K = K := by rfl) : SlR X (rSlA K) := h ▸ sl_tupA
section
variable {K : PySem.W.Frag} {β : Bas} {env : Env'} {ta tb te tc : TE} {tt tu : TT} {x y z d : D} {v w : V}
theorem op_repT3D {ds : List D} {k : Nat} (h2 : k ≤ 1000) (hn : ds ≠ []) (hl : ds.length ≤ 1000) : OpD K (rRepT3 K) (.tup ds) (.int (k : Nat)) (.tup (List.replicate k ds).flatten) := fun G H v1 v2 e0 d1 d2 Q q => by
  by_cases hk : k = 0
  · subst hk
    obtain ⟨a, xs, rfl, ht, hd⟩ := d1.tupV
    exact .inl ⟨a, xs, rfl, d2.intV, ex_t e0 ht, fun z => hn (List.eq_nil_of_length_eq_zero (by rw [← hd.length, z]; rfl)), fun p hp => q _ (upd G p (.tup [])) _ (.new e0 hp) (.tup (.of upd_same) .nil)⟩
  · have := op_repTD (K := K) (ds := ds) (k := (k : Nat)) (by omega) (by omega) hn hl G H v1 v2 e0 d1 d2 Q
    rw [Int.toNat_natCast] at this
    exact .inr (this q)
theorem op_catAD {ds es : List D} (hl : ds.length + es.length ≤ sizeLine) : OpD K (rCatA K) (.tup ds) (.tup es) (.tup (ds ++ es)) := fun G H v1 v2 e0 d1 d2 Q q => by
  obtain ⟨a, xs, rfl, ht, hd⟩ := d1.tupV
  obtain ⟨b, ys, rfl, ht', hd'⟩ := d2.tupV
  refine ⟨a, b, xs, ys, rfl, rfl, ex_t e0 ht, ex_t e0 ht', by rw [hd.length, hd'.length]; exact hl, fun z => ?_, fun _ z => ?_, fun _ _ p hp => ?_⟩
  · subst z
    cases hd
    exact q _ G H (.refl e0) (.tup ht' hd')
  · subst z
    cases hd'
    rw [List.append_nil] at q
    exact q _ G H (.refl e0) (.tup ht hd)
  · exact q _ (upd G p (.tup (xs ++ ys))) _ (.new e0 hp) (.tup (.of upd_same) ((hd.append hd').up (.new (e0.back hp))))
theorem DatL.cut {G : Hp} {xs : List V} {ds : List D} (h : DatL K G xs ds) (lo hi : Option Int) : DatL K G (cutV xs lo hi) ((ds.drop (HT.sIx ds.length 0 lo)).take (HT.sIx ds.length ds.length hi - HT.sIx ds.length 0 lo)) := by
  unfold cutV
  rw [h.length]
  exact (h.drop _).take _
/-- t[1:] -/
theorem ev_tl {ds : List D} (h : EV K β te env (.tup ds)) : EV K β (tSl (rSlA K) te (tPart (tC (.int 1))) tNoPart) env (.tup ds.tail) := fun σ G H g Q q =>
  h σ G H g _ fun v1 G1 H1 t1 d1 => by
    obtain ⟨a, xs, rfl, ht, hd⟩ := d1.tupV
    refine ⟨1, rfl, a, xs, rfl, ex_t t1.gh ht, fun hw => ?_, fun _ p hp => ?_⟩
    · have : xs = [] := by
        cases xs with
        | nil => rfl
        | cons x xs =>
          have := hw.1
          rw [show (some (1 : Int)) = some ((1 : Nat) : Int) from rfl, HT.sIx_nat] at this
          simp at this
      subst this
      cases hd
      exact q _ G1 H1 t1 (.tup ht .nil)
    · have hc := hd.cut (some 1) none
      have e : (ds.drop (HT.sIx ds.length 0 (some 1))).take (HT.sIx ds.length ds.length none - HT.sIx ds.length 0 (some 1)) = ds.tail := by
        rw [show (some (1 : Int)) = some ((1 : Nat) : Int) from rfl, HT.sIx_nat, HT.sIx_none]
        cases ds with
        | nil => rfl
        | cons x ds => simp
      rw [e] at hc
      exact q _ (upd G1 p _) _ (t1.trans (.new t1.gh hp)) (.tup (.of upd_same) (hc.up (.new (t1.gh.back hp))))
/-- t[:-1] -/
theorem ev_init {ds : List D} (hne : ds ≠ []) (h : EV K β te env (.tup ds)) : EV K β (tSl (rSlA K) te tNoPart (tPart (tUn (rU fun i => .int (-i)) (tC (.int 1))))) env (.tup ds.dropLast) := fun σ G H g Q q =>
  h σ G H g _ fun v1 G1 H1 t1 d1 => by
    obtain ⟨a, xs, rfl, ht, hd⟩ := d1.tupV
    have hx : 1 ≤ xs.length := by rw [hd.length]; exact List.length_pos_iff.mpr hne
    refine ⟨1, rfl, -1, rfl, a, xs, rfl, ex_t t1.gh ht, fun hw => ?_, fun _ p hp => ?_⟩
    · have := hw.2
      unfold HT.sIx at this
      simp at this
      omega
    · have hc := hd.cut none (some (-1))
      have e : (ds.drop (HT.sIx ds.length 0 none)).take (HT.sIx ds.length ds.length (some (-1)) - HT.sIx ds.length 0 none) = ds.dropLast := by
        rw [HT.sIx_none, List.drop_zero, Nat.sub_zero, List.dropLast_eq_take]
        congr 1
        unfold HT.sIx
        simp
        omega
      rw [e] at hc
      exact q _ (upd G1 p _) _ (t1.trans (.new t1.gh hp)) (.tup (.of upd_same) (hc.up (.new (t1.gh.back hp))))
theorem ev_dnew : EV K β tDNewK env (.dct []) := fun σ G H g Q q p hp => q _ (upd G p (.dK [])) _ (.new g.gh hp) (.dct upd_same .nil)
end
end DL

set_option Elab.async false
set_option linter.all false
set_option maxRecDepth 100000
set_option maxHeartbeats 4000000
namespace DL
open PySem PySem.Spec PyProof.Rows L2
section
variable {K : PySem.W.Frag} {β : Bas} {env : Env'} {ta tb te tc to tn tn' t2 : TE} {tt tu : TT} {x y z d d1 : D} {v w : V} {P : Post} {W : WX} {ts tr : TS}
theorem callB_core {R : List D → (D → Prop) → Prop} {i k n : Nat} {b : Addr} {bs : List D} {E : XK} {Pd : D → Prop} {ds : List D} {ws : List V} {σ : Sg} {G1 H1 : Hp} (g1 : Good K β σ env G1 H1) (hi : env[i]? = some (.own b bs)) (hb : BoxD n bs) (hn : n + k ≤ 1000000000) (dws : DatL K G1 ws ds) (hR : R ds Pd) {Q : VK}
    (q : ∀ v d bs' G2 H2, Good K β σ (env.set i (.own b bs')) G2 H2 → StpE (owns env) G1 H1 G2 H2 → Dat K G2 v d → Pd d → BoxD (n + k) bs' → Q v H2) : spB K k R ((.ref b :: ws) ++ []) H1 Q E := by
  obtain ⟨_, h2, _⟩ := g1.own hi
  obtain ⟨_, _, h3', ys, h4', h5'⟩ := g1.own hi
  refine ⟨G1, b, n, ys, bs, ws, ds, Pd, by rw [List.append_nil], h3', h4', h5', hb, hn, g1.gh, dws, hR, fun v d G2 H2 xs' bs' pd t2 e1 e2 dx hbx dv => ?_⟩
  have hm : b ∈ owns env := List.mem_filterMap.mpr ⟨_, List.mem_of_getElem? hi, rfl⟩
  have t3 : StpE (owns env) G1 H1 G2 H2 := ⟨t2.gg, t2.gh, fun a o hx h => t2.hh a o (fun z => hx (by rw [List.mem_singleton.mp z]; exact hm)) h, t2.ow⟩
  have g2 : Good K β σ (env.set i (.own b bs')) G2 H2 := by
    have gw := g1.write hi (xs := ys) (ds' := bs) h5'
    refine ⟨g1.gg.trans t2.gg, fun a o h5 h6 => ?_, t2.gh, fun a h5 h6 => t2.ow a (g1.ow a h5 h6) (g1.hn h6), fun a h5 => ?_, ?_, by rw [nd_own hi]; exact g1.nd⟩
    · by_cases hab : a = b
      · subst hab
        rcases h2 with z | z
        · rw [z] at h6; cases h6
        · exact absurd z h5
      · exact t2.hh a o (fun z => hab (List.mem_singleton.mp z)) (g1.hh a o h5 h6)
    · by_cases hab : a = b
      · subst hab; rw [e1]; exact (fun e => nomatch e)
      · cases q' : H1 a with
        | none => exact absurd q' (g1.bh a h5)
        | some o => rw [t2.hh a o (fun z => hab (List.mem_singleton.mp z)) q']; exact (fun e => nomatch e)
    · have key : ∀ {σ : Sg} {env : Env'} {i : Nat}, SlsOk K β G1 H1 σ env → env[i]? = some (.own b bs) → (env.filterMap ownA).Nodup → SlsOk K β G2 H2 σ (env.set i (.own b bs')) := by
        have other : ∀ {σ : Sg} {env : Env'}, SlsOk K β G1 H1 σ env → b ∉ env.filterMap ownA → SlsOk K β G2 H2 σ env := by
          intro σ env s
          induction s with
          | nil => intro _; exact .nil
          | @cons o s σ env x r ih =>
            intro m
            rw [List.filterMap_cons] at m
            cases s with
            | un => exact .cons trivial (ih m)
            | val v d => exact .cons ⟨x.1, x.2.up t2.gg⟩ (ih m)
            | own c es =>
              have m' : b ∉ c :: env.filterMap ownA := m
              obtain ⟨y1, y2, y3, zs, y4, y5⟩ := x
              have hne : c ≠ b := fun z => m' (by rw [← z]; exact List.mem_cons_self)
              exact .cons ⟨y1, y2, t2.ow c y3 (by rw [y4]; exact (fun e => nomatch e)), zs, t2.hh c _ (fun z => hne (List.mem_singleton.mp z)) y4, y5.up t2.gg⟩ (ih fun z => m' (List.mem_cons_of_mem _ z))
        intro σ env i s
        induction s generalizing i with
        | nil => intro e; simp at e
        | @cons o s σ env x r ih =>
          intro e nd
          cases i with
          | zero =>
            simp at e
            subst e
            obtain ⟨y1, y2, y3, zs, y4, y5⟩ := x
            exact .cons ⟨y1, y2, e2, xs', e1, dx⟩ (other r (List.nodup_cons.mp (show (b :: env.filterMap ownA).Nodup from nd)).1)
          | succ i =>
            have e' : env[i]? = some (.own b bs) := by simpa using e
            have hm' : b ∈ env.filterMap ownA := List.mem_filterMap.mpr ⟨_, List.mem_of_getElem? e', rfl⟩
            rw [List.filterMap_cons] at nd
            cases s with
            | un => exact .cons trivial (ih e' nd)
            | val v d => exact .cons ⟨x.1, x.2.up t2.gg⟩ (ih e' nd)
            | own c es =>
              have nd' : (c :: env.filterMap ownA).Nodup := nd
              have hne : c ≠ b := fun z => (List.nodup_cons.mp nd').1 (by rw [z]; exact hm')
              obtain ⟨y1, y2, y3, zs, y4, y5⟩ := x
              exact .cons ⟨y1, y2, t2.ow c y3 (by rw [y4]; exact (fun e => nomatch e)), zs, t2.hh c _ (fun z => hne (List.mem_singleton.mp z)) y4, y5.up t2.gg⟩ (ih e' (List.nodup_cons.mp nd').2)
      exact key g1.sl hi g1.nd
  exact q v d bs' G2 H2 g2 t3 dv pd hbx

/-- a call of such a def whose arguments ask the box, too -/
theorem xe_callBX {R : List D → (D → Prop) → Prop} {i k : Nat} {b : Addr} {bs0 : List D} {tr : TA} {E : XK} {P1 : List V → List D → Env' → Prop} {PP : V → D → Env' → Prop} (hi0 : env[i]? = some (.own b bs0)) (ha : XA K β tr env P1)
    (hp : ∀ vs ds e, P1 vs ds e → ∃ bs n Pd, e[i]? = some (.own b bs) ∧ BoxD n bs ∧ n + k ≤ 1000000000 ∧ R ds Pd ∧ ∀ v d bs', Pd d → BoxD (n + k) bs' → PP v d (e.set i (.own b bs'))) :
    XE K β (tCall (spB K k R) [] E (tCons (tVar i) tr)) env PP := fun σ G H g Q q => by
  obtain ⟨h1, _⟩ := g.own hi0
  refine ⟨.ref b, h1, ha σ G H g _ fun ws ds e G1 H1 g1 t1 o1 dws p1 => ?_⟩
  obtain ⟨bs, n, Pd, hi, hb, hn, hR, hP⟩ := hp _ _ _ p1
  refine callB_core g1 hi hb hn dws hR fun v d bs' G2 H2 g2 t2 dv pd hb' => ?_
  exact q v d _ G2 H2 g2 (StpE.tr g1 o1 t1 t2) (by rw [← o1]; exact nd_own hi) dv (hP v d bs' pd hb')
theorem xt_or {P1 P2 : Bool → Env' → Prop} (h1 : XT K β tt env P1) (hf : ∀ b e, P1 b e → b = false ∧ XT K β tu e P2) : XT K β (tOr tt tu) env P2 := fun σ G H g Q q =>
  h1 σ G H g _ fun b e G1 H1 g1 t1 o1 p1 => by
    obtain ⟨rfl, h2⟩ := hf b e p1
    show tu σ H1 Q
    exact h2 σ G1 H1 g1 Q fun b e2 G2 H2 g2 t2 o2 p => q b e2 G2 H2 g2 (StpE.tr g1 o1 t1 t2) (o2.trans o1) p
/-- for g in e: .., e a list that may ask the box -/
theorem ex_forXG {tl : TE} {gt : TG} {P1 : V → D → Env' → Prop} (hI : XE K β tl env P1) (hl : ∀ v d e, P1 v d e → ∃ ds, d = .lst ds ∧ ∃ I : Nat → Env' → Prop, I 0 e ∧
      (∀ i env' v' d', ds[i]? = some d' → I i env' → ∃ Pg, EG K β gt env' v' d' Pg ∧ ∀ env2, Pg env2 → EX K β W ts env2 { P with nx := I (i + 1), ct := I (i + 1), bk := P.nx }) ∧ (∀ env', I ds.length env' → P.nx env')) :
    EX K β W (tFor (iList K tl) gt ts) env P := fun σ G H g0 Dn c x =>
  hI σ G H g0 _ fun v d e G1 H1 g1 t1 e1 dv p1 => by
    obtain ⟨ds, rfl, I, h0, hs, hd⟩ := hl v d e p1
    obtain ⟨a, xs, rfl, ga, hx⟩ := dv.lstV
    exact ⟨a, rfl, ⟨xs, .of (g1.gh _ _ ga)⟩, for_core I g1 hx (itv_list ga) h0 hs hd (c.up t1.gg) (x.up t1.gg)⟩
theorem ex_forXGS {tl : TE} {gt : TG} {P1 : V → D → Env' → Prop} (N : Env' → Prop) (hI : XE K β tl env P1) (hl : ∀ v d e, P1 v d e → ∃ ds, d = .lst ds ∧ ∃ I : Nat → Env' → Prop, I 0 e ∧
      (∀ i env' v' d', ds[i]? = some d' → I i env' → ∃ Pg, EG K β gt env' v' d' Pg ∧ ∀ env2, Pg env2 → EX K β W ts env2 { P with nx := I (i + 1), ct := I (i + 1), bk := fun _ => False }) ∧ (∀ env', I ds.length env' → N env'))
    (hd : ∀ env', N env' → EX K β W tr env' P) : EX K β W (tSeq (tFor (iList K tl) gt ts) tr) env P :=
  ex_seq (N := N) (ex_forXG hI fun v d e p1 => by
    obtain ⟨ds, h1, I, h2, h3, h4⟩ := hl v d e p1
    exact ⟨ds, h1, I, h2, fun i env' v' d' q1 q2 => by
      obtain ⟨Pg, hg, hh⟩ := h3 i env' v' d' q1 q2
      exact ⟨Pg, hg, fun env2 hp => (hh env2 hp).imp (fun _ h => h) (fun _ _ _ h => h) (fun _ h => h.elim) (fun _ h => h) fun _ _ _ _ h => h⟩, h4⟩) hd
theorem ev_catOwn2 {i j : Nat} {a b : Addr} {ds es : List D} (hi : env[i]? = some (.own a ds)) (hj : env[j]? = some (.own b es)) (hl : ds.length + es.length ≤ sizeLine) : EV K β (tOp rCat (tVar i) (tVar j)) env (.lst (ds ++ es)) := fun σ G H g Q q => by
  obtain ⟨h1, _, _, xs, h4, h5⟩ := g.own hi
  obtain ⟨k1, _, _, ys, k4, k5⟩ := g.own hj
  exact ⟨.ref a, h1, .ref b, k1, a, b, xs, ys, rfl, rfl, h4, k4, by rw [h5.length, k5.length]; exact hl, fun p hp => q _ (upd G p (.lst (xs ++ ys))) _ (.new g.gh hp) (.lst upd_same ((h5.append k5).up (.new (g.gh.back hp))))⟩
/-- a, b = x, y, both may ask the box -/
theorem ex_parXS {i j : Nat} {ta : TA} {PA' : List V → List D → Env' → Prop} (h : XA K β ta env PA') (k : ∀ vs ds e, PA' vs ds e → ∃ d1 d2, ds = [d1, d2] ∧ ∀ v1 v2, vs = [v1, v2] → EX K β W tr ((e.set i (.val v1 d1)).set j (.val v2 d2)) P) : EX K β W (tSeq (tPar i j ta) tr) env P :=
  ex_seq (N := fun e' => EX K β W tr e' P) (ex_parX h k) fun e h => h
end
end DL

set_option Elab.async false
set_option linter.all false
set_option maxRecDepth 100000
set_option maxHeartbeats 2000000
namespace DL
open PySem PySem.Spec PyProof.Rows L2
/-! ### fresh lists: what a def hands back is in the view, so a list that was not in the view that it was given is new -/
mutual
/-- data in which no list stands -/
def plainD : D → Bool
  | .tup ds => plainDs ds
  | .lst _ => false
  | .dct _ => false
  | .idn _ d => plainD d
  | .rng _ _ => false
  | .exc _ => false
  | .set _ _ _ => false
  | .non => true | .bl _ => true | .int _ => true | .str _ => true | .op _ => true
def plainDs : List D → Bool
  | [] => true
  | d :: ds => plainD d && plainDs ds
end
theorem plainDs_of : ∀ {ds : List D}, (∀ d ∈ ds, plainD d = true) → plainDs ds = true
  | [], _ => rfl
  | d :: ds, h => by
    show (plainD d && plainDs ds) = true
    rw [h d List.mem_cons_self, plainDs_of fun x hx => h x (List.mem_cons_of_mem _ hx)]
    rfl
theorem plain_tbl {n : Nat} {f : Nat → Nat → Nat} : plainD (tblD n f) = true :=
  plainDs_of fun d hd => by
    obtain ⟨x, _, rfl⟩ := List.mem_map.mp hd
    exact plainDs_of fun d hd => by
      obtain ⟨y, _, rfl⟩ := List.mem_map.mp hd
      rfl
/-- the view without lists -/
def noL (G : Hp) : Hp := fun a => match G a with
  | some (.lst _) => none
  | o => o
theorem noL_ex {G : Hp} : Ex (noL G) G := fun a o h => by
  unfold noL at h
  split at h
  · cases h
  · exact h
theorem noL_no {G : Hp} {a : Addr} {xs : List V} (h : noL G a = some (.lst xs)) : False := by
  unfold noL at h
  split at h
  · cases h
  · rename_i q
    exact q xs h
theorem noL_of {G : Hp} {a : Addr} {o : HO} (h : G a = some o) (hn : ∀ xs, o ≠ .lst xs) : noL G a = some o := by
  unfold noL
  rw [h]
  split
  · rename_i xs e
    exact absurd (Option.some.inj e) (hn xs)
  · rfl
theorem noL_none {G : Hp} {a : Addr} (h : G a = none) : noL G a = none := by
  unfold noL
  rw [h]
theorem noL_t {K : PySem.W.Frag} {G : Hp} {a : Addr} {xs : List V} (h : SqT K G a xs) : SqT K (noL G) a xs := by
  rcases h with (h | ⟨o, h⟩) | h
  · exact .inl (.inl (noL_of h fun _ e => nomatch e))
  · exact .inl (.inr ⟨o, noL_of h fun _ e => nomatch e⟩)
  · exact .inr h
mutual
theorem Dat.noL {K : PySem.W.Frag} {G : Hp} : ∀ (d : D) (v : V), plainD d = true → Dat K G v d → Dat K (noL G) v d
  | .non, _, _, h => by cases h; exact .non
  | .bl b, _, _, h => by cases h; exact .bl b
  | .int i, _, _, h => by cases h; exact .int i
  | .str x, _, _, h => by cases h; exact .str x
  | .tup ds, _, p, h => by cases h with | tup a b => exact .tup (noL_t a) (DatL.noL ds _ p b)
  | .lst ds, _, p, h => by cases p
  | .dct ds, _, p, h => by cases p
  | .op v, _, _, h => by cases h; exact .op v
  | .idn v d, _, p, h => by cases h with | idn a => exact .idn (Dat.noL d _ p a)
  | .rng _ _, _, p, h => by cases p
  | .exc _, _, p, h => by cases p
  | .set _ _ _, _, p, h => by cases p
theorem DatL.noL {K : PySem.W.Frag} {G : Hp} : ∀ (ds : List D) (vs : List V), plainDs ds = true → DatL K G vs ds → DatL K (noL G) vs ds
  | [], _, _, h => by cases h; exact .nil
  | d :: ds, _, p, h => by
    have p' : (plainD d && plainDs ds) = true := p
    obtain ⟨p1, p2⟩ := Bool.and_eq_true_iff.mp p'
    cases h with | cons a b => exact .cons (Dat.noL d _ p1 a) (DatL.noL ds _ p2 b)
end
def joinH (G G' : Hp) : Hp := fun a => match G' a with
  | some o => some o
  | none => G a
theorem join_r {G G' : Hp} : Ex G' (joinH G G') := fun a o h => by unfold joinH; rw [h]
/-- the list is new -/
def Fr (H : Hp) (v : V) (d : D) : Prop := ∀ ds, d = .lst ds → ∃ p, v = .ref p ∧ H p = none
theorem Fr.back {H H' : Hp} {v : V} {d : D} (e : Ex H H') (h : Fr H' v d) : Fr H v d := fun ds hd => by
  obtain ⟨p, h1, h2⟩ := h ds hd
  exact ⟨p, h1, e.back h2⟩
section
variable {K : PySem.W.Frag} {β : Bas} {env : Env'} {ta tb te tc to : TE} {tt tu : TT} {x y z d : D} {v w : V} {P : Post} {W : WX} {ts tr : TS}
theorem noL_join {G H G' H' : Hp} (e : Ex G H) (t : Stp (noL G) H G' H') : Stp G H (joinH G G') H' :=
  ⟨fun a o h => by
    unfold joinH
    cases q : G' a with
    | none => exact h
    | some o' =>
      have h1 := t.gh a o' q
      rw [t.hh a o (e a o h)] at h1
      exact h1.symm, t.hh, fun a o h => by
    unfold joinH at h
    cases q : G' a with
    | none => rw [q] at h; exact t.hh a o (e a o h)
    | some o' => rw [q] at h; cases h; exact t.gh a _ q, fun a h1 h2 => by
    unfold joinH
    rw [t.ow a (noL_none h1) h2]
    exact h1⟩
theorem noL_fr {G H G' H' : Hp} (t : Stp (noL G) H G' H') (dv : Dat K G' v d) : Fr H v d := fun ds hd => by
  subst hd
  obtain ⟨p, xs, rfl, hp, _⟩ := dv.lstV
  refine ⟨p, rfl, ?_⟩
  cases q : H p with
  | none => rfl
  | some o =>
    exfalso
    cases q2 : noL G p with
    | none => rw [t.ow p q2 (by rw [q]; exact (fun e => nomatch e))] at hp; cases hp
    | some o2 =>
      have := t.gg p o2 q2
      rw [hp] at this
      cases this
      exact noL_no q2
/-- an expression whose value, if a list, is new -/
def EVf (K : PySem.W.Frag) (β : Bas) (te : TE) (env : Env') (d : D) : Prop := ∀ σ G H, Good K β σ env G H → ∀ Q : VK, (∀ v G' H', Stp G H G' H' → Dat K G' v d → Fr H v d → Q v H') → te σ H Q
theorem EVf.ev (h : EVf K β te env d) : EV K β te env d := fun σ G H g Q q => h σ G H g Q fun v G' H' t dv _ => q v G' H' t dv
theorem EV.evf (h : EV K β te env d) (hd : ∀ ds, d ≠ .lst ds) : EVf K β te env d := fun σ G H g Q q => h σ G H g Q fun v G' H' t dv => q v G' H' t dv fun ds e => absurd e (hd ds)
theorem spX_new {R : List D → D → Prop} {E' : List V → List D → Value → Str → V → Prop} {G H : Hp} {vs : List V} {ds : List D} {Q : VK} {E : XK} (e : Ex G H) (dl : DatL K G vs ds) (hp : plainDs ds = true) (h : R ds d) (q : ∀ v G' H', Stp G H G' H' → Dat K G' v d → Fr H v d → Q v H') : spX K R E' vs H Q E :=
  ⟨noL G, ds, (noL_ex.trans e), DatL.noL ds vs hp dl, .inl ⟨d, h, fun v G' H' t dv => q v (joinH G G') H' (noL_join e t) (dv.up join_r) (noL_fr t dv)⟩⟩
theorem Fr.at {H H' : Hp} {G G' : Hp} (t : Stp G H G' H') (h : Fr H' v d) : Fr H v d := h.back t.hh
theorem ef_callX {R : List D → D → Prop} {E' : List V → List D → Value → Str → V → Prop} {ta : TA} {ds : List D} {E : Sg → XK} (he : EVA K β ta env ds) (hp : plainDs ds = true) (h : R ds d) : EVf K β (tCallS (spX K R E') E ta) env d := fun σ G H g Q q =>
  he σ G H g _ fun vs G1 H1 t1 d1 => spX_new t1.gh d1 hp h fun v G2 H2 t2 d2 f => q v G2 H2 (t1.trans t2) d2 (f.back t1.hh)
theorem ef_callK {R : List D → D → Prop} {E' : List V → List D → Value → Str → V → Prop} {ta : TA} {ds ds' : List D} {gV : List V → List V → List V} {E : Sg → XK} (he : EVA K β ta env ds) (hg : ∀ G vs, DatL K G vs ds → DatL K G (gV [] vs) ds') (hp : plainDs ds' = true) (h : R ds' d) :
    EVf K β (tCallK0 (spX K R E') gV E ta) env d := fun σ G H g Q q =>
  he σ G H g _ fun vs G1 H1 t1 d1 => spX_new t1.gh (hg _ _ d1) hp h fun v G2 H2 t2 d2 f => q v G2 H2 (t1.trans t2) d2 (f.back t1.hh)
theorem ef_callV {R : List D → D → Prop} {E' : List V → List D → Value → Str → V → Prop} {ta : TA} {ds : List D} {E : Sg → XK} {i : Nat} {f : Addr} {df : D} (hi : env[i]? = some (.val (.ref f) df)) (he : EVA K β ta env ds) (hp : plainDs ds = true) (h : R ds d) : EVf K β (tCallVS i f (spX K R E') E ta) env d := fun σ G H g Q q =>
  ⟨slot_val g hi, he σ G H g _ fun vs G1 H1 t1 d1 => spX_new t1.gh d1 hp h fun v G2 H2 t2 d2 f => q v G2 H2 (t1.trans t2) d2 (f.back t1.hh)⟩
theorem ef_callVK {R : List D → D → Prop} {E' : List V → List D → Value → Str → V → Prop} {ta : TA} {ds ds' : List D} {gV : List V → List V → List V} {E : Sg → XK} {i : Nat} {f : Addr} {df : D} (hi : env[i]? = some (.val (.ref f) df)) (he : EVA K β ta env ds) (hg : ∀ G vs, DatL K G vs ds → DatL K G (gV [] vs) ds') (hp : plainDs ds' = true) (h : R ds' d) :
    EVf K β (tCallVK i f (spX K R E') gV E ta) env d := fun σ G H g Q q =>
  ⟨slot_val g hi, he σ G H g _ fun vs G1 H1 t1 d1 => spX_new t1.gh (hg _ _ d1) hp h fun v G2 H2 t2 d2 f => q v G2 H2 (t1.trans t2) d2 (f.back t1.hh)⟩
theorem ef_if {b : Bool} (h : EVT K β tt env b) (h1 : b = true → EVf K β ta env d) (h2 : b = false → EVf K β tb env d) : EVf K β (tIf tt ta tb) env d := fun σ G H g Q q => h σ G H g _ fun G1 H1 t1 => by
  cases b with
  | true => show ta σ H1 Q; exact h1 rfl σ G1 H1 (g.up t1) Q fun v G2 H2 t2 d2 f => q v G2 H2 (t1.trans t2) d2 (f.back t1.hh)
  | false => show tb σ H1 Q; exact h2 rfl σ G1 H1 (g.up t1) Q fun v G2 H2 t2 d2 f => q v G2 H2 (t1.trans t2) d2 (f.back t1.hh)
/-- return [text, e], e's value new if a list -/
theorem ex_retF {s : Str} (he : EVf K β te env d) (h : ∀ v u, Fr β.H u d → P.rt v (.lst [.str s, .idn u d]) env) : EX K β W (tRet (tLst (tCons (tC (.str s)) (tCons te tNil)))) env P := fun σ G H g Dn c x =>
  he σ G H g _ fun u G1 H1 t1 d1 f => ⟨sz 2, fun p hp => c.rt _ _ (upd G1 p (.lst [.str s, u])) _ _ _ ((g.up t1).up (.new t1.gh hp)) (t1.gg.trans (.new (t1.gh.back hp))) (.lst upd_same (.cons (.str s) (.cons (.idn (d1.up (.new (t1.gh.back hp)))) .nil))) (h _ u fun ds hd => by
    obtain ⟨p, h1, h2⟩ := f ds hd
    refine ⟨p, h1, ?_⟩
    cases q : β.H p with
    | none => rfl
    | some o => exact absurd h2 (g.hn (by rw [q]; exact (fun e => nomatch e))))⟩
variable (K) in
/-- a def that hands back data of which F holds -/
def spR (R : Hp → List D → (D → Prop) → Prop) : Sp := fun vs H Q _ => ∃ G ds F, Ex G H ∧ DatL K G vs ds ∧ R H ds F ∧ ∀ v d G' H', Stp G H G' H' → Dat K G' v d → F d → Q v H'
theorem EX.finR {G H : Hp} {Q : VK} {F : D → Prop} {t : TS} {σ : Sg} (g : Good K ⟨G, H, none⟩ σ env G H) (q : ∀ v d G' H', Stp G H G' H' → Dat K G' v d → F d → Q v H') (h : EX K ⟨G, H, none⟩ W t env { rt := fun _ d' _ => F d', nx := fun _ => F .non }) :
    t { nx := fun _ H' => Q .non H', rt := Q } σ H := by
  have st : ∀ {σ' env' G' H'}, Good K ⟨G, H, none⟩ σ' env' G' H' → Stp G H G' H' := fun g' => ⟨g'.gg, fun a o e => g'.hh a o (fun z => nomatch z) e, g'.gh, g'.ow⟩
  exact h σ G H g _ ⟨fun σ' env' G' H' g' e n => q _ _ G' H' (st g') .non n, fun σ' env' G' H' v d' g' e dv n => q v _ G' H' (st g') dv n, fun _ _ _ _ _ _ n => False.elim n, fun _ _ _ _ _ _ n => False.elim n⟩ fun _ _ _ _ _ _ _ _ _ _ _ _ n => False.elim n
theorem EX.finTryR {tb : WX → TS} {l : List (Value × Option Nat × (Addr → Value → Option Addr → TS))} {Wout : WX} {G H : Hp} {Q : VK} {F : D → Prop} {σ : Sg} (g : Good K ⟨G, H, none⟩ σ env G H) (q : ∀ v d G' H', Stp G H G' H' → Dat K G' v d → F d → Q v H')
    (h : EX K ⟨G, H, none⟩ Wout (fun D σ H => tb (wManyA K Wout D l) D σ H) env { rt := fun _ d' _ => F d', nx := fun _ => F .non }) :
    tb (wManyA K Wout { nx := fun _ H' => Q .non H', rt := Q } l) { nx := fun _ H' => Q .non H', rt := Q } σ H := EX.finR (t := fun D σ H => tb (wManyA K Wout D l) D σ H) g q h
/-- an expression that gives data of which F holds -/
def EVR (K : PySem.W.Frag) (β : Bas) (te : TE) (env : Env') (F : Hp → D → Prop) : Prop := ∀ σ G H, Good K β σ env G H → ∀ Q : VK, (∀ v d G' H', Stp G H G' H' → Dat K G' v d → F H d → Q v H') → te σ H Q
theorem er_call {R : Hp → List D → (D → Prop) → Prop} {ta : TA} {ds : List D} {E : XK} {F : Hp → D → Prop} (he : EVA K β ta env ds) (h : ∀ H, R H ds (F H)) (hF : ∀ H H' d, Ex H H' → F H' d → F H d) : EVR K β (tCall (spR K R) [] E ta) env F := fun σ G H g Q q =>
  he σ G H g _ fun vs G1 H1 t1 d1 => ⟨G1, ds, F H1, t1.gh, by rw [List.append_nil]; exact d1, h H1, fun v d G2 H2 t2 d2 f => q v d G2 H2 (t1.trans t2) d2 (hF _ _ _ t1.hh f)⟩
/-- x = e, then the rest -/
theorem ex_letR {i : Nat} {F : Hp → D → Prop} (he : EVR K β te env F) (h : ∀ H v d, F H d → EX K β W tr (env.set i (.val v d)) P) : EX K β W (tSeq (tAsg te (gName i)) tr) env P :=
  ex_seq (N := fun e => ∃ H v d, F H d ∧ e = env.set i (.val v d)) (fun σ G H g Dn c x => he σ G H g _ fun v d G1 H1 t1 d1 f => c.nx _ _ G1 H1 ((g.up t1).set i d1) t1.gg ⟨H, v, d, f, rfl⟩) fun env' ⟨H, v, d, f, e⟩ => e ▸ h H v d f
/-- told = e; if not ..: return; if isinstance(told[1], list): told[1].append(None) -/
theorem ex_askApp {i : Nat} {s : Str} {r : D} {rets : TS} {F : Hp → D → Prop} (he : EVR K β te env F) (hF : ∀ H d, F H d → ∃ u, d = .lst [.str s, .idn u r] ∧ Fr H u r)
    (h1 : ∀ v, EVT K β tt (env.set i (.val v (.lst [.str s, r]))) false)
    (h2 : ∀ v, ∃ b, EVT K β tu (env.set i (.val v (.lst [.str s, r]))) b ∧ (b = true → ∃ ds, r = .lst ds ∧ ds.length < sizeLine))
    (hi : i < env.length) (hn : P.nx (env.set i .un)) :
    EX K β W (tSeq (tAsg te (gName i)) (tSeq (tIfS tt rets tNext) (tIfS tu (tDrop (tBM K "list" rAppend (tOp (rIx K) (tVar i) (tC (.int 1))) (tCons (tC .non) tNil))) tNext))) env P := fun σ G H g Dn c x =>
  he σ G H g _ fun v d G1 H1 t1 d1 f => by
    obtain ⟨u, rfl, fu⟩ := hF _ _ f
    have d1' : Dat K G1 v (.lst [.str s, r]) := by
      cases d1 with
      | lst a b => cases b with | cons b1 b2 => cases b2 with | cons b2 b3 => exact .lst a (.cons b1 (.cons b2.strip b3))
    have g1 := (g.up t1).set i d1'
    refine h1 v _ G1 H1 g1 _ fun G2 H2 t2 => ?_
    rw [if_neg Bool.false_ne_true]
    obtain ⟨b, hb, hr⟩ := h2 v
    refine hb _ G2 H2 (g1.up t2) _ fun G3 H3 t3 => ?_
    have t13 := (t1.trans t2).trans t3
    cases b with
    | false =>
      rw [if_neg Bool.false_ne_true]
      refine c.nx _ _ G3 H3 ?_ t13.gg hn
      have := ((g1.up t2).up t3).forget i
      rw [List.set_set] at this
      exact this
    | true =>
      rw [if_pos rfl]
      obtain ⟨ds, rfl, hl⟩ := hr rfl
      obtain ⟨p, rfl, hp⟩ := fu ds rfl
      cases d1 with
      | @lst a xs _ ha hx =>
      cases hx with | cons b1 hx => cases hx with | cons b2 hx =>
      cases hx
      obtain ⟨hu, b2'⟩ := b2.idnV
      subst hu
      cases b2' with
      | @lst _ ys _ hq hy =>
      have hv : ((σ.set i (some (V.ref a))))[i]? = some (some (V.ref a)) := List.getElem?_set_self (by
        rw [sls_len g.sl]; exact hi)
      have hq3 : H3 p = some (.lst ys) := t3.hh _ _ (t2.hh _ _ (t1.gh _ _ hq))
      have ha3 : H3 a = some (.lst [_, V.ref p]) := t3.hh _ _ (t2.hh _ _ (t1.gh _ _ ha))
      refine ⟨.ref a, hv, .inl ⟨a, [_, .ref p], 1, .ref p, rfl, rfl, .of ha3, rfl, ?_⟩⟩
      refine ⟨.inl ⟨rfl, ys, .of hq3⟩, ?_⟩
      refine ⟨p, ys, .non, rfl, rfl, hq3, by rw [hy.length]; exact hl, ?_⟩
      refine c.nx _ _ G _ ((g.up (G' := G) (H' := upd H3 p (.lst (ys ++ [.non]))) ⟨.refl _, fun b o e => ?_, fun b o e => ?_, fun b h _ => h⟩).drop i (some (.ref a))) (.refl _) hn
      · rw [upd_ne (fun z => by subst z; rw [hp] at e; cases e)]
        exact t13.hh _ _ e
      · rw [upd_ne (fun z => by subst z; rw [g.gh _ _ e] at hp; cases hp)]
        exact t13.hh _ _ (g.gh _ _ e)
end
end DL

set_option Elab.async false
set_option linter.all false
set_option maxRecDepth 100000
set_option maxHeartbeats 2000000
namespace DL
open PySem PySem.Spec PyProof.Rows L2
def lstP (a : List Nat) : PyData := .list (a.map fun i => .int (i : Nat))
theorem ln_shaped (p : List Nat) : SeqAt.shaped (lstP p) = true := by
  unfold SeqAt.shaped
  have h1 : PyData.canLay0 (lstP p) = true := tn_canI p
  have h2 : PyData.depth (lstP p) ≤ 64 := by
    show PyData.depthAll (p.map fun i => PyData.int (i : Nat)) + 1 ≤ 64
    rw [tn_depI]; omega
  rw [h1, decide_eq_true h2]
  rfl
theorem ln_eqv (p q : List Nat) : PyData.eqv (lstP p) (lstP q) = decide (p = q) := eqv_ints p q
theorem pg_lstK (K : PySem.W.Frag) {X : Cx} {es : List Expr} {k : Nat} {t : TGs} {n : Nat} {pos : Pos} (hc : X.calm = true) (hp : PGs X es t)
    (hn : (assignEach es X.env).length = n := by rfl) (hst : (assignEach es X.env).findIdx? (·.1) = none := by rfl) (h : X.K = K := by rfl) : PG X (.Tuple es k pos) (gLst K n t) := h ▸ pg_lst hc hp hn hst
theorem keep_none {f : Nat → Bool} {F : Nat → D} : ∀ {n : Nat}, (∀ i, i < n → f i = false) → keep f F n = []
  | 0, _ => rfl
  | n + 1, h => by rw [keep_no (h n (by omega))]; exact keep_none fun i hi => h i (by omega)
theorem keep_one {f : Nat → Bool} {F : Nat → D} {j : Nat} : ∀ {n : Nat}, j < n → f j = true → (∀ i, i < n → f i = true → i = j) → keep f F n = [F j]
  | 0, h, _, _ => absurd h (by omega)
  | n + 1, h, hj, u => by
    by_cases c : j = n
    · subst c
      rw [keep_yes hj, keep_none fun i hi => by
        cases q : f i with
        | false => rfl
        | true => have := u i (by omega) q; omega]
      rfl
    · have hn : f n = false := by
        cases q : f n with
        | false => rfl
        | true => have := u n (by omega) q; omega
      rw [keep_no hn]
      exact keep_one (by omega) hj fun i hi => u i (by omega)
theorem keep_map {f : Nat → Bool} {F : Nat → D} {n : Nat} : keep f F n = ((List.range n).filter f).map F := rfl
theorem wipe_set2 (σ : Sg) (vs : List Nat) (j : Nat) (x : Option V) (hj : j ∈ vs) : L2.wipe (σ.set j x) vs = L2.wipe σ vs := by
  refine List.ext_getElem? fun i => ?_
  have key : ∀ (ws : List Nat) (τ : Sg) (i : Nat), i ∈ ws → i < τ.length → (L2.wipe τ ws)[i]? = some none := by
    intro ws
    induction ws with
    | nil => intro τ i h; cases h
    | cons w ws ih =>
      intro τ i h hl
      unfold L2.wipe
      by_cases e : w = i
      · subst e
        rw [List.getElem?_set_self (by rw [L2.wipe_length]; exact hl)]
      · rw [List.getElem?_set_ne e]
        exact ih τ i (by
          rcases List.mem_cons.mp h with z | z
          · exact absurd z.symm e
          · exact z) hl
  by_cases hi : i ∈ vs
  · by_cases hl : i < σ.length
    · rw [key vs _ i hi (by rw [List.length_set]; exact hl), key vs _ i hi hl]
    · rw [List.getElem?_eq_none (by rw [L2.wipe_length, List.length_set]; omega), List.getElem?_eq_none (by rw [L2.wipe_length]; omega)]
  · rw [L2.wipe_out hi, List.getElem?_set_ne (fun e => hi (by rw [← e]; exact hj)), L2.wipe_out hi]
section
variable {K : PySem.W.Frag} {β : Bas} {env : Env'} {ta tb te tc to : TE} {tt tu : TT} {x y z d : D} {v w : V} {P : Post} {W : WX} {ts tr : TS}
theorem Dat.ln {G H : Hp} (e : Ex G H) {a : List Nat} {v : V} (h : Dat K G v (.lst (lstN a))) : Dp K H v (lstP a) := by
  obtain ⟨p, xs, rfl, hs, hd⟩ := h.lstV
  exact .lst (.inl (.inl (e _ _ hs))) (DatL.dpInts hd)
theorem op_eqLL {a b : List Nat} : OpD K (rEqD K) (.lst (lstN a)) (.lst (lstN b)) (.bl (decide (a = b))) := fun G H v1 v2 e d1 d2 Q q => by
  refine ⟨_, _, Dat.ln e d1, Dat.ln e d2, ln_shaped a, ln_shaped b, ?_⟩
  rw [ln_eqv]
  exact q _ G H (.refl e) (.bl _)
theorem op_neLL {a b : List Nat} : OpD K (rNeD K) (.lst (lstN a)) (.lst (lstN b)) (.bl (!decide (a = b))) := fun G H v1 v2 e d1 d2 Q q => by
  refine ⟨_, _, Dat.ln e d1, Dat.ln e d2, ln_shaped a, ln_shaped b, ?_⟩
  rw [ln_eqv]
  exact q _ G H (.refl e) (.bl _)
theorem op_neTT {a b : List Nat} : OpD K (rNeD K) (tupN a) (tupN b) (.bl (!decide (a = b))) := fun G H v1 v2 e d1 d2 Q q => by
  refine ⟨_, _, Dat.tn e d1, Dat.tn e d2, tn_shaped1 a, tn_shaped1 b, ?_⟩
  rw [tn_eqv]
  exact q _ G H (.refl e) (.bl _)
theorem eg_lst {gs : TGs} {n : Nat} {ds : List D} {P : Env' → Prop} (hn : ds.length = n) (h : ∀ vs σ G H, Good K β σ env G H → DatL K G vs ds → ∀ Q : Sg → Hp → Prop, (∀ σ' env', Good K β σ' env' G H → P env' → Q σ' H) → gs vs σ H Q) : EG K β (gLst K n gs) env v (.lst ds) P := fun σ G H g dv Q q => by
  obtain ⟨a, xs, rfl, ht, hd⟩ := dv.lstV
  exact ⟨a, xs, rfl, .inl (.inl (g.gh _ _ ht)), by rw [hd.length, hn], h xs σ G H g hd Q q⟩
theorem eg_twoL {i j : Nat} {a b : D} : EG K β (gLst K 2 (gCons (gName i) (gCons (gName j) gNil))) env v (.lst [a, b]) (fun e => ∃ v1 v2, e = (env.set i (.val v1 a)).set j (.val v2 b)) :=
  eg_lst rfl fun vs σ G H g dl Q q => by
    cases dl with | cons d1 t => cases t with | cons d2 t =>
    cases t
    exact ⟨_, _, rfl, _, _, rfl, rfl, q _ _ ((g.set i d1).set j d2) ⟨_, _, rfl⟩⟩
/-- x += e -/
theorem ex_aug {i : Nat} {f : Int → Int → Int} {a b : Int} (hi : env[i]? = some (.val v (.int a))) (he : EV K β te env (.int b)) (h : ∀ u, P.nx (env.set i (.val u (.int (f a b))))) : EX K β W (tAug i te (ipI f)) env P := fun σ G H g Dn c x => by
  obtain ⟨o, h1, h2, h3⟩ := g.sl.get hi
  refine ⟨v, slot_val g hi, he σ G H g _ fun y G1 H1 t1 d1 => ⟨a, b, h3.intV, d1.intV, c.nx _ _ G1 H1 ((g.up t1).set i (.int _)) t1.gg (h _)⟩⟩
/-- [e for i, j in xs] -/
theorem ev_lc2 {wi : TI} {i j : Nat} {vs : List Nat} {ds : List D} {F : Nat → D} (hI : EVI K β wi env ds) (hn : ds.length < sizeLine) (hi : i ∈ vs) (hj : j ∈ vs)
    (hs : ∀ k d, ds[k]? = some d → ∃ a b, d = .tup [a, b] ∧ ∀ v1 v2, EV K β te (((wipeE env vs).set i (.val v1 a)).set j (.val v2 b)) (F k)) :
    EV K β (tLc wi (gTup K 2 (gCons (gName i) (gCons (gName j) gNil))) tYes te vs) env (.lst ((List.range ds.length).map F)) := by
  rw [← keep_all]
  refine ev_lc hI hn (fun k v d hd => ?_) ?_
  · obtain ⟨a, b, rfl, h⟩ := hs k d hd
    refine ⟨_, eg_two, fun _ _ _ _ _ _ => trivial, fun env' ⟨v1, v2, e⟩ => ?_⟩
    subst e
    exact ⟨et_yes, fun _ => h v1 v2⟩
  · rintro x σ H Q ⟨a, xs, h1, h2, h3, v1, r1, h4, v2, r2, h5, h6, q⟩
    refine ⟨a, xs, h1, h2, h3, v1, r1, h4, v2, r2, h5, h6, ?_, q⟩
    rw [wipe_set2 _ vs j _ hj, wipe_set σ vs i _ hi]
theorem eg_two' {v : V} {i j n : Nat} {a b : D} (hn : 2 = n := by rfl) : EG K β (gTup K n (gCons (gName i) (gCons (gName j) gNil))) env v (.tup [a, b]) (fun e => ∃ v1 v2, e = (env.set i (.val v1 a)).set j (.val v2 b)) := by
  subst hn
  exact eg_two
theorem xa_one {te : TE} {P1 : V → D → Env' → Prop} (h : XE K β te env P1) : XA K β (tCons te tNil) env (fun _ ds e => ∃ v d, ds = [d] ∧ P1 v d e) := fun σ G H g Q q =>
  h σ G H g _ fun v d e G1 H1 g1 t1 e1 dv p => q [v] [d] e G1 H1 g1 t1 e1 (.cons dv .nil) ⟨v, d, rfl, p⟩
theorem xa_two2 {te t2 : TE} {P1 : V → D → Env' → Prop} {PP : List D → Env' → Prop} (h : XE K β te env P1) (h2 : ∀ v d e, P1 v d e → XE K β t2 e (fun _ d2 e2 => PP [d, d2] e2)) : XA K β (tCons te (tCons t2 tNil)) env (fun _ ds e => PP ds e) := fun σ G H g Q q =>
  h σ G H g _ fun v d e G1 H1 g1 t1 e1 dv p => h2 v d e p σ G1 H1 g1 _ fun v2 d2 e2 G2 H2 g2 t2 o2 dv2 p2 => q [v, v2] [d, d2] e2 G2 H2 g2 (StpE.tr g1 e1 t1 t2) (o2.trans e1) (.cons (dv.up t2.gg) (.cons dv2 .nil)) p2
/-- x = list(range(n)), one's own -/
theorem ex_newRg {i : Nat} {n : Int} (he : EV K β te env (.int n)) (h1 : n ≤ 16777216) (h0 : 0 ≤ n) (h : ∀ a, P.nx (env.set i (.own a (rgD 0 n.toNat)))) : EX K β W (tAsg (tLstRg (tRg1 te)) (gName i)) env P := fun σ G H g Dn c x =>
  he σ G H g _ fun v1 G1 H1 t1 d1 => ⟨n, d1.intV, .of_le (by omega) h1 (by omega) h0, fun p hp => by
    have e : rgV 0 n = ((List.range n.toNat).map fun i => V.int (0 + (i : Nat))) := by unfold rgV; rw [Int.sub_zero]
    rw [e]
    exact c.nx _ _ G1 _ ((g.up t1).newOwn i hp (DatL.rg 0 _)) t1.gg (h p)⟩
theorem ex_newRgS {i : Nat} {n : Int} (he : EV K β te env (.int n)) (h1 : n ≤ 16777216) (h0 : 0 ≤ n) (h : ∀ a, EX K β W tr (env.set i (.own a (rgD 0 n.toNat))) P) : EX K β W (tSeq (tAsg (tLstRg (tRg1 te)) (gName i)) tr) env P :=
  ex_seq (N := fun e => ∃ a, e = env.set i (.own a (rgD 0 n.toNat))) (ex_newRg he h1 h0 fun a => ⟨a, rfl⟩) fun e ⟨a, h'⟩ => h' ▸ h a
end
end DL

set_option Elab.async false
set_option linter.all false
set_option maxRecDepth 100000
set_option maxHeartbeats 2000000
namespace DL
open PySem PySem.Spec PyProof.Rows L2
/-! ### an error of an own class, made as a value -/
/-- C(e, ..) as a value, C's own __init__ keeping sp -/
def tExcV (sp : Sp) (C : Addr) (ta : TA) : TE := fun σ H Q => ta σ H fun vs H1 => vs.length ≤ 1000 ∧ ∀ a, H1 a = none → sp (.ref a :: vs) (upd H1 a (exo a C none)) (fun v H2 => v = .non ∧ Q (.ref a) H2) (fun _ _ _ => False)
section
variable {X : Cx} {e : Expr} {es : List Expr} {ta : TA} {p pos : Pos}
theorem pe_excV {CX : CXT} {x : Str} {C fI : Addr} {k : Nat} {fd : FuncData} {ps : List Str} {sp : Sp} (T : OexC X.K C) (iC : PySem.W.findIn X.K (.ref C) "__init__" = some (some (.ref fI))) (tI : PySem.W.typeIn X.K (.ref fI) = some (.type "function"))
    (F1 : FnOk X.prog X.w X.K X.mg X.base CX k fI fd ps sp) (hr : Room (k + 1) X.A) (hb : Binds X.K fd ps []) (hx : Passes CX X (fun _ _ _ => False)) (hg : Gl X x) (hm : X.mg x = some (.ref C)) (ha : PA X (e :: es) ta)
    (hdb : (x == ("__debug__" : Str)) = false := by decide) (he : starEach (e :: es) X.env = (false, eval e X.env) :: starEach es X.env := by rfl) (hpl : (backTo pos (starEach es X.env)).any (·.1) = false := by rfl) :
    PE X (.Call (.Name x p) (e :: es) [] pos) (tExcV sp C ta) := by
  refine ⟨fun pins s σ H Q I h => ?_⟩
  obtain ⟨nm, q, N, bs, bm, sn, sub, ab, col, dd, k0, k1, k2, k3, k5, hC, hbm⟩ := T.cls
  refine wpAny_Call_Name_kw (ld_glob I hg hm ?_ hdb)
  refine PySem.W.callWith_K (h₀ := X.base) I.ok.mod.kin T.kC (thn (ha.run pos pins s σ H _ I h) fun us s1 ⟨vs, H1, I1, r1, hz, q1⟩ => ⟨I1.kIn, ?_⟩) he hpl
  show wpAny _ _ (call (.ref C) us) _ _ _
  obtain ⟨hp, g, dr, tk, os⟩ := s1
  have hsz : hp.objs.size ≤ hp.objs.size + 1 := Nat.le_succ _
  have hn : H1 (hp.objs.size + 1) = none := I1.hok.fresh hsz
  have hq := q1 (hp.objs.size + 1) hn
  have kk : ∀ b o, hp.get? b = some o → ((hp.push (PySem.W.kdv_tup us)).push (PySem.HandSPX.excO C hp.objs.size)).get? b = some o := fun b o e => Heap.get?_push_of_some _ (Heap.get?_push_of_some _ e)
  have hget : ((hp.push (PySem.W.kdv_tup us)).push (PySem.HandSPX.excO C hp.objs.size)).get? (hp.objs.size + 1) = some (PySem.HandSPX.excO C hp.objs.size) := by heap_get
  have I2 : L2.Inv X pins σ (upd H1 (hp.objs.size + 1) (exo (hp.objs.size + 1) C none)) ⟨(hp.push (PySem.W.kdv_tup us)).push (PySem.HandSPX.excO C hp.objs.size), g, dr, tk, os⟩ :=
    I1.laid (t' := tk) (a := hp.objs.size + 1) (o := exo (hp.objs.size + 1) C none) (h' := (hp.push (PySem.W.kdv_tup us)).push (PySem.HandSPX.excO C hp.objs.size)) kk hsz (exo_ok hget)
  have r2 : Vals (V.ref (hp.objs.size + 1) :: vs) (Value.ref (hp.objs.size + 1) :: us) := .cons rfl r1
  have hl : (Value.ref (hp.objs.size + 1) :: us).length = ps.length := by
    have e := r2.length
    rw [F1.len _ _ _ _ hq] at e
    exact e.symm
  have hus : us.length ≤ sizeLine := by
    rw [← Paired.length r1, sizeLine_eq]
    omega
  have b2 := hb _ (Value.ref (hp.objs.size + 1) :: us) I2.kIn (by rw [List.append_nil]; exact hl)
  rw [List.append_nil] at b2
  refine wpAny_call (PySem.HandSPX.call_own F.excBase_ValueError (fun Y => PySem.HandSPX.refsVE_contains Y bm hbm) (I1.kIn _ _ hC) (PySem.W.looks_findIn I1.kIn iC) (fun self => PySem.W.bind_fn I1.kIn self tI) hus
    (codeAny_mono (F1.run _ X.stack _ _ ⟨Value.ref (hp.objs.size + 1) :: us, []⟩ (Value.ref (hp.objs.size + 1) :: us) _ _ (fun _ _ _ => False) (hr.make C us []) (I2.env0.make C us []) b2 r2 hq) fun r s' hq' => ?_))
  cases r with
  | error er => exact hx pins σ _ _ er s' I2 hq'
  | ok fl =>
    cases fl with
    | ret u =>
      obtain ⟨v, H2, os2, bare2, un2, hok2, rv, ev, q2⟩ := hq'
      subst ev
      obtain ⟨w, H3, I3, _, e3, q3⟩ := I2.after (Q := fun v H2 => v = .non ∧ Q (.ref (hp.objs.size + 1)) H2) (u := u) ⟨.non, H2, os2, bare2, un2, hok2, rv, rfl, q2⟩
      exact ⟨rv, .ref (hp.objs.size + 1), H3, I3, rfl, q3⟩
    | next => exact False.elim hq'
    | brk => exact False.elim hq'
    | cont => exact False.elim hq'
end
/-- isinstance(e, T), e an error as a value, or any other -/
def rIsO (K : PySem.W.Frag) : List V → Hp → VK → Prop := fun xs H Q => rIsi K xs H Q ∨ ∃ (a C dx : Addr) (fs : List (Str × V)) (T : String) (b : Bool) (mg : Str → Option Value) (x f : Str) (fI : Addr), xs = [.ref a, .ty T] ∧ H a = some (exo a C (some dx)) ∧ H dx = some (exd dx fs) ∧ ErrC K mg x f C fI ∧ PySem.W.kitOne K (.ref C) (.type T) = some b ∧ Q (.bl b) H
theorem call_isOK {X : Cx} (K : PySem.W.Frag) (h : X.K = K := by rfl) : CallR X (.builtin "isinstance") (rIsO K) := by
  subst h
  intro pins s σ H xs us Q I r h
  rcases h with h | ⟨a, C, dx, fs, T, b, mg, x, f, fI, rfl, ha, hd, E, hk, q⟩
  · exact call_isi pins s σ H xs us Q I r h
  · obtain ⟨u1, u2, rfl, r1, r2⟩ := vals2 r
    obtain rfl : u1 = .ref a := r1
    obtain rfl : u2 = .type T := r2
    obtain ⟨t1, ho⟩ := exo_at I.hok ha
    obtain ⟨mA, ⟨od, es, ep, hod, hr⟩, _⟩ := exd_at I.hok hd
    have J : PySem.W.InstAt s.heap a _ C (some od) := ⟨ho, rfl, rfl, hod⟩
    have hcl : (PySem.W.clsIn X.K C).isSome = true := E.ic
    exact PySem.W.kia_one (PySem.W.kitx_exc (od := some od) hcl E.xf.ga E.xf.gg E.xf.exC E.ha E.hn E.ht E.hm) I.kIn J hk (fun z => nomatch z) fun tk => ⟨.bl b, H, I.tok tk, rfl, q⟩
section
variable {K : PySem.W.Frag} {β : Bas} {env : Env'} {ta tb te tc to : TE} {tt tu : TT} {x y z d : D} {v w : V} {P : Post} {W : WX} {ts tr : TS}
theorem cb_isO {t T : String} {b : Bool} (e : tyD d = some t) (h : kitB t T = some b) : CbD K (rIsO K) [d, .op (.ty T)] (.bl b) := fun G H vs x dl Q q => .inl (cb_isi e h G H vs x dl Q q)
theorem cb_isX {C fI : Addr} {mg : Str → Option Value} {x f : Str} {T : String} {b : Bool} (E : ErrC K mg x f C fI) (h : PySem.W.kitOne K (.ref C) (.type T) = some b) : CbD K (rIsO K) [.exc C, .op (.ty T)] (.bl b) := fun G H vs e dl Q q => by
  cases dl with | cons a t => cases t with | cons c t =>
  cases t
  cases c
  cases a with
  | exc h1 h2 => exact .inr ⟨_, _, _, _, _, b, mg, x, f, fI, rfl, e _ _ h1, e _ _ h2, E, h, q _ G H (.refl e) (.bl b)⟩
theorem ev_exc {C : Addr} {f : Str} {ta : TA} (he : EVA K β ta env [d]) (T : OexC K C) (nf : PySem.W.findIn K (.ref C) f = some none) : EV K β (tExcV (spErr K f) C ta) env (.exc C) := fun σ G H g Q q =>
  he σ G H g _ fun vs G1 H1 t1 d1 => by
    cases d1 with
    | @cons v _ _ _ dv t =>
    cases t
    refine ⟨by show 1 ≤ 1000; decide, fun a ha => ⟨a, C, v, rfl, T, nf, upd_same, fun dx h1 h2 => ⟨rfl, ?_⟩⟩⟩
    rw [upd_ne h2] at h1
    have gd : G1 dx = none := t1.gh.back h1
    have ga : G1 a = none := t1.gh.back ha
    have eq : (upd (upd (upd H1 a (exo a C none)) dx (exd dx [(f, v)])) a (exo a C (some dx))) = upd (upd H1 dx (exd dx [(f, v)])) a (exo a C (some dx)) := by
      funext b
      by_cases hb : b = a
      · subst hb; rw [upd_same, upd_same]
      · rw [upd_ne hb, upd_ne hb]
        by_cases hd : b = dx
        · subst hd; rw [upd_same, upd_same]
        · rw [upd_ne hd, upd_ne hd, upd_ne hb]
    rw [eq]
    have s1 : Stp G1 H1 (upd G1 dx (exd dx [(f, v)])) (upd H1 dx (exd dx [(f, v)])) := .new t1.gh h1
    have s2 : Stp (upd G1 dx (exd dx [(f, v)])) (upd H1 dx (exd dx [(f, v)])) (upd (upd G1 dx (exd dx [(f, v)])) a (exo a C (some dx))) (upd (upd H1 dx (exd dx [(f, v)])) a (exo a C (some dx))) := .new s1.gh (by rw [upd_ne (fun z => h2 z.symm)]; exact ha)
    exact q _ _ _ ((t1.trans s1).trans s2) (.exc upd_same (by rw [upd_ne h2, upd_same]))
end
end DL

set_option Elab.async false
set_option linter.all false
set_option maxRecDepth 100000
set_option maxHeartbeats 2000000
namespace DL
open PySem PySem.Spec PyProof.Rows L2
theorem un_negI {K : PySem.W.Frag} {i : Int} : UnD K (rU fun i => .int (-i)) (.int i) (.int (-i)) := fun G H v1 e d1 Q q => by
  cases d1
  exact ⟨i, rfl, q _ G H (.refl e) (.int _)⟩
theorem ex_let2G {K : PySem.W.Frag} {β : Bas} {W : WX} {te : TE} {env : Env'} {P : Post} {tr : TS} {i j : Nat} {d1 d2 : D} (he : EV K β te env (.tup [d1, d2])) (k : ∀ v1 v2, EX K β W tr ((env.set i (.val v1 d1)).set j (.val v2 d2)) P) : EX K β W (tSeq (tAsg te (gTup K 2 (gCons (gName i) (gCons (gName j) gNil)))) tr) env P :=
  ex_seq (N := fun e => ∃ v1 v2, e = (env.set i (.val v1 d1)).set j (.val v2 d2)) (ex_asgG he (fun v => eg_two) fun e ⟨v1, v2, h⟩ => ⟨v1, v2, h⟩) fun e ⟨v1, v2, h⟩ => h ▸ k v1 v2
theorem atI_lastN {ms : List Nat} {k y : Nat} (hl : ms.length = k + 1) (h : ms[k]? = some y) : atI (lstN ms) (-1) = some (.int (y : Nat)) := by
  have h1 := lstN_get h
  have h2 : (lstN ms).length = k + 1 := by rw [lstN_len, hl]
  unfold atI ixN
  rw [h2, if_neg (by decide), if_pos (by omega)]
  show (lstN ms)[((-1 : Int) + ((k + 1 : Nat) : Int)).toNat]? = _
  rw [show ((-1 : Int) + ((k + 1 : Nat) : Int)).toNat = k by omega]
  exact h1
section
variable {K : PySem.W.Frag} {β : Bas} {env : Env'} {ta tb te tc to : TE} {tt tu : TT} {x y z d : D} {v w : V} {P : Post} {W : WX} {ts tr : TS} {f' : Str} {cls : Value}
/-! ### a def that may raise, and whose answer, if a list, is new -/
variable (K) in
def spXF (R : List D → D → Prop) (E' : List V → List D → Value → Str → V → Prop) : Sp := fun vs H Q E => ∃ G ds, Ex G H ∧ DatL K G vs ds ∧
  ((∃ d, R ds d ∧ ∀ v G' H', Stp G H G' H' → Dat K G' v d → Fr H v d → Q v H') ∨ (∃ cls f v, E' vs ds cls f v ∧ ∀ G' H' dx, Stp G H G' H' → H' dx = some (.xd [(f, v)]) → G' dx = none → E cls (some dx) H'))
theorem ef_callF {R : List D → D → Prop} {E' : List V → List D → Value → Str → V → Prop} {ta : TA} {ds : List D} {E : Sg → XK} (he : EVA K β ta env ds) (h : R ds d) : EVf K β (tCallS (spXF K R E') E ta) env d := fun σ G H g Q q =>
  he σ G H g _ fun vs G1 H1 t1 d1 => ⟨G1, ds, t1.gh, d1, .inl ⟨d, h, fun v G2 H2 t2 d2 f => q v G2 H2 (t1.trans t2) d2 (f.back t1.hh)⟩⟩
theorem rs_callF {R : List D → D → Prop} {E' : List V → List D → Value → Str → V → Prop} {ta : TA} {ds : List D} {vs : List V} (he : EVAv K β ta env vs ds) (h : E' vs ds cls f' v) : Raises' K β W (tCallS (spXF K R E') (WE W) ta) env cls f' v := fun σ G H g Q q =>
  he σ G H g _ fun G1 H1 t1 d1 => ⟨G1, ds, t1.gh, d1, .inr ⟨cls, f', v, h, fun G2 H2 dx t2 => q G2 H2 dx (t1.trans t2)⟩⟩
theorem EX.finXF {G H : Hp} {Q : VK} {E : XK} {t : TS} {σ : Sg} (g : Good K ⟨G, H, none⟩ σ env G H)
    (q : (∃ d, (∀ v G' H', Stp G H G' H' → Dat K G' v d → Fr H v d → Q v H') ∧ EX K ⟨G, H, none⟩ (fun cls d _ H => E cls d H) t env { rt := fun v d' _ => d' = d ∧ Fr H v d, nx := fun _ => d = .non }) ∨
      (∃ cls f v, (∀ G' H' dx, Stp G H G' H' → H' dx = some (.xd [(f, v)]) → G' dx = none → E cls (some dx) H') ∧ EX K ⟨G, H, none⟩ (fun cls d _ H => E cls d H) t env { ex := fun c f' v' _ => c = cls ∧ f' = f ∧ v' = v })) :
    t { nx := fun _ H' => Q .non H', rt := Q } σ H := by
  have st : ∀ {σ' env' G' H'}, Good K ⟨G, H, none⟩ σ' env' G' H' → Stp G H G' H' := fun g' => ⟨g'.gg, fun a o e => g'.hh a o (fun z => nomatch z) e, g'.gh, g'.ow⟩
  rcases q with ⟨d, q, h⟩ | ⟨cls, f, v, q, h⟩
  · exact h σ G H g _ ⟨fun σ' env' G' H' g' e n => q _ G' H' (st g') (n ▸ .non) (fun ds e => by rw [n] at e; cases e), fun σ' env' G' H' v d' g' e dv n => q v G' H' (st g') (n.1 ▸ dv) n.2, fun _ _ _ _ _ _ n => False.elim n, fun _ _ _ _ _ _ n => False.elim n⟩ fun _ _ _ _ _ _ _ _ _ _ _ _ n => False.elim n
  · refine h σ G H g _ ⟨fun _ _ _ _ _ _ n => False.elim n, fun _ _ _ _ _ _ _ _ _ n => False.elim n, fun _ _ _ _ _ _ n => False.elim n, fun _ _ _ _ _ _ n => False.elim n⟩ fun σ' env' G' H' c f' v' dx g' e e1 e2 n => ?_
    obtain ⟨rfl, rfl, rfl⟩ := n
    exact q G' H' dx (st g') e1 e2
/-- return e, e's value new if a list -/
theorem ex_retFr (he : EVf K β te env d) (h : ∀ v, Fr β.H v d → P.rt v d env) : EX K β W (tRet te) env P := fun σ G H g Dn c x =>
  he σ G H g _ fun u G1 H1 t1 d1 f => c.rt _ _ G1 H1 u d (g.up t1) t1.gg d1 (h u fun ds hd => by
    obtain ⟨p, h1, h2⟩ := f ds hd
    refine ⟨p, h1, ?_⟩
    cases q : β.H p with
    | none => rfl
    | some o => exact absurd h2 (g.hn (by rw [q]; exact (fun e => nomatch e))))
theorem ef_is {e : D} (h : EVf K β te env d) (q : d = e) : EVf K β te env e := q ▸ h
theorem ef_op {r : R2} (h : EV K β (tOp r ta tb) env d) (hd : ∀ ds, d ≠ .lst ds) : EVf K β (tOp r ta tb) env d := h.evf hd
/-- data by data, called with no list -/
theorem spD_new {R : List D → D → Prop} {G H : Hp} {vs : List V} {ds : List D} {Q : VK} {E : XK} (e : Ex G H) (dl : DatL K G vs ds) (hp : plainDs ds = true) (h : R ds d) (q : ∀ v G' H', Stp G H G' H' → Dat K G' v d → Fr H v d → Q v H') : spD K R vs H Q E :=
  ⟨noL G, ds, d, (noL_ex.trans e), DatL.noL ds vs hp dl, h, fun v G' H' t dv => q v (joinH G G') H' (noL_join e t) (dv.up join_r) (noL_fr t dv)⟩
theorem ef_call {R : List D → D → Prop} {ta : TA} {ds : List D} {E : XK} (he : EVA K β ta env ds) (hp : plainDs ds = true) (h : R ds d) : EVf K β (tCall (spD K R) [] E ta) env d := fun σ G H g Q q =>
  he σ G H g _ fun vs G1 H1 t1 d1 => spD_new t1.gh (by rw [List.append_nil]; exact d1) hp h fun v G2 H2 t2 d2 f => q v G2 H2 (t1.trans t2) d2 (f.back t1.hh)
theorem ef_callKD {R : List D → D → Prop} {ta : TA} {ds ds' : List D} {gV : List V → List V → List V} {E : Sg → XK} (he : EVA K β ta env ds) (hg : ∀ G vs, DatL K G vs ds → DatL K G (gV [] vs) ds') (hp : plainDs ds' = true) (h : R ds' d) :
    EVf K β (tCallK0 (spD K R) gV E ta) env d := fun σ G H g Q q =>
  he σ G H g _ fun vs G1 H1 t1 d1 => spD_new t1.gh (hg _ _ d1) hp h fun v G2 H2 t2 d2 f => q v G2 H2 (t1.trans t2) d2 (f.back t1.hh)
/-! ### slices -/
/-- t[:k] -/
theorem ev_slTo {ds : List D} {k : Nat} (h : EV K β te env (.tup ds)) (hk : EV K β tb env (.int (k : Nat))) : EV K β (tSl (rSlA K) te tNoPart (tPart tb)) env (.tup (ds.take k)) := fun σ G H g Q q =>
  h σ G H g _ fun v1 G1 H1 t1 d1 => by
    obtain ⟨a, xs, rfl, ht, hd⟩ := d1.tupV
    refine hk σ G1 H1 (g.up t1) _ fun v2 G2 H2 t2 d2 => ?_
    have e : (ds.drop (HT.sIx ds.length 0 none)).take (HT.sIx ds.length ds.length (some (k : Int)) - HT.sIx ds.length 0 none) = ds.take k := by
      rw [HT.sIx_none, HT.sIx_nat, List.drop_zero, Nat.sub_zero]
      rcases Nat.le_total k ds.length with hl | hl
      · rw [Nat.min_eq_left hl]
      · rw [Nat.min_eq_right hl, List.take_of_length_le (Nat.le_refl _), List.take_of_length_le hl]
    have hc := (hd.up t2.gg).cut none (some (k : Int))
    rw [e] at hc
    refine ⟨k, d2.intV, a, xs, rfl, ex_t (t1.gh.trans t2.hh) ht, fun hw => ?_, fun _ p hp => ?_⟩
    · have : ds.take k = ds := by
        have := hw.2
        rw [HT.sIx_nat, hd.length] at this
        exact List.take_of_length_le (by omega)
      rw [this] at q
      exact q _ G2 H2 (t1.trans t2) (.tup (ex_t t2.gg ht) (hd.up t2.gg))
    · exact q _ (upd G2 p _) _ ((t1.trans t2).trans (.new t2.gh hp)) (.tup (.of upd_same) (hc.up (.new (t2.gh.back hp))))
/-- t[k:] -/
theorem ev_slFr {ds : List D} {k : Nat} (h : EV K β te env (.tup ds)) (hk : EV K β tb env (.int (k : Nat))) : EV K β (tSl (rSlA K) te (tPart tb) tNoPart) env (.tup (ds.drop k)) := fun σ G H g Q q =>
  h σ G H g _ fun v1 G1 H1 t1 d1 => by
    obtain ⟨a, xs, rfl, ht, hd⟩ := d1.tupV
    refine hk σ G1 H1 (g.up t1) _ fun v2 G2 H2 t2 d2 => ?_
    have e : (ds.drop (HT.sIx ds.length 0 (some (k : Int)))).take (HT.sIx ds.length ds.length none - HT.sIx ds.length 0 (some (k : Int))) = ds.drop k := by
      rw [HT.sIx_none, HT.sIx_nat]
      rcases Nat.le_total k ds.length with hl | hl
      · rw [Nat.min_eq_left hl, List.take_of_length_le (by rw [List.length_drop]; exact Nat.le_refl _)]
      · rw [Nat.min_eq_right hl, Nat.sub_self, List.take_zero, List.drop_of_length_le hl]
    have hc := (hd.up t2.gg).cut (some (k : Int)) none
    rw [e] at hc
    refine ⟨k, d2.intV, a, xs, rfl, ex_t (t1.gh.trans t2.hh) ht, fun hw => ?_, fun _ p hp => ?_⟩
    · have : ds.drop k = ds := by
        have := hw.1
        rw [HT.sIx_nat, hd.length] at this
        rcases Nat.eq_zero_or_pos k with z | z
        · rw [z]; rfl
        · have : ds = [] := List.eq_nil_of_length_eq_zero (by omega)
          rw [this]; exact List.drop_nil
      rw [this] at q
      exact q _ G2 H2 (t1.trans t2) (.tup (ex_t t2.gg ht) (hd.up t2.gg))
    · exact q _ (upd G2 p _) _ ((t1.trans t2).trans (.new t2.gh hp)) (.tup (.of upd_same) (hc.up (.new (t2.gh.back hp))))
end
/-! ### data as plain Python data -/
mutual
def toP : D → PyData
  | .non => .none
  | .bl b => .bool b
  | .int i => .int i
  | .str x => .str x
  | .tup ds => .tuple (toPs ds)
  | .lst ds => .list (toPs ds)
  | .idn _ d => toP d
  | .dct _ => .none
  | .op _ => .none
  | .rng _ _ => .none
  | .exc _ => .none
  | .set _ _ _ => .none
def toPs : List D → List PyData
  | [] => []
  | d :: ds => toP d :: toPs ds
end
mutual
/-- data that reads as plain data, at most n deep -/
def pdB (n : Nat) : D → Bool
  | .non => true
  | .bl _ => true
  | .int _ => true
  | .str x => PyData.canLay0 (.str x)
  | .tup ds => decide (1 ≤ n) && pdBs (n - 1) ds
  | .lst ds => decide (1 ≤ n) && pdBs (n - 1) ds
  | .idn _ d => pdB n d
  | .dct _ => false
  | .op _ => false
  | .rng _ _ => false
  | .exc _ => false
  | .set _ _ _ => false
def pdBs (n : Nat) : List D → Bool
  | [] => true
  | d :: ds => pdB n d && pdBs n ds
end
theorem pdBs_of {n : Nat} : ∀ {ds : List D}, (∀ d ∈ ds, pdB n d = true) → pdBs n ds = true
  | [], _ => rfl
  | d :: ds, h => by
    show (pdB n d && pdBs n ds) = true
    rw [h d List.mem_cons_self, pdBs_of fun x hx => h x (List.mem_cons_of_mem _ hx)]
    rfl
theorem pdBs_mem {n : Nat} : ∀ {ds : List D}, pdBs n ds = true → ∀ d ∈ ds, pdB n d = true
  | d :: ds, h, x, hx => by
    have h' : (pdB n d && pdBs n ds) = true := h
    obtain ⟨h1, h2⟩ := Bool.and_eq_true_iff.mp h'
    rcases List.mem_cons.mp hx with rfl | hx
    · exact h1
    · exact pdBs_mem h2 x hx
mutual
theorem pd_facts : ∀ (d : D) (n : Nat), pdB n d = true → PyData.canLay0 (toP d) = true ∧ PyData.depth (toP d) ≤ n
  | .non, _, _ => ⟨rfl, Nat.zero_le _⟩
  | .bl _, _, _ => ⟨rfl, Nat.zero_le _⟩
  | .int _, _, _ => ⟨rfl, Nat.zero_le _⟩
  | .str _, _, h => ⟨h, Nat.zero_le _⟩
  | .tup ds, n, h => by
    have h' : (decide (1 ≤ n) && pdBs (n - 1) ds) = true := h
    obtain ⟨h1, h2⟩ := Bool.and_eq_true_iff.mp h'
    obtain ⟨h3, h4⟩ := pd_factsL ds (n - 1) h2
    refine ⟨h3, ?_⟩
    show PyData.depthAll (toPs ds) + 1 ≤ n
    have := of_decide_eq_true h1
    omega
  | .lst ds, n, h => by
    have h' : (decide (1 ≤ n) && pdBs (n - 1) ds) = true := h
    obtain ⟨h1, h2⟩ := Bool.and_eq_true_iff.mp h'
    obtain ⟨h3, h4⟩ := pd_factsL ds (n - 1) h2
    refine ⟨h3, ?_⟩
    show PyData.depthAll (toPs ds) + 1 ≤ n
    have := of_decide_eq_true h1
    omega
  | .idn _ d, n, h => pd_facts d n h
  | .dct _, _, h => by cases h
  | .op _, _, h => by cases h
  | .rng _ _, _, h => by cases h
  | .exc _, _, h => by cases h
  | .set _ _ _, _, h => by cases h
theorem pd_factsL : ∀ (ds : List D) (n : Nat), pdBs n ds = true → PyData.canLayAll0 (toPs ds) = true ∧ PyData.depthAll (toPs ds) ≤ n
  | [], _, _ => ⟨rfl, Nat.zero_le _⟩
  | d :: ds, n, h => by
    have h' : (pdB n d && pdBs n ds) = true := h
    obtain ⟨h1, h2⟩ := Bool.and_eq_true_iff.mp h'
    obtain ⟨h3, h4⟩ := pd_facts d n h1
    obtain ⟨h5, h6⟩ := pd_factsL ds n h2
    refine ⟨?_, ?_⟩
    · show (PyData.canLay0 (toP d) && PyData.canLayAll0 (toPs ds)) = true
      rw [h3, h5]; rfl
    · show max (PyData.depth (toP d)) (PyData.depthAll (toPs ds)) ≤ n
      omega
end
mutual
theorem Dat.dp {K : PySem.W.Frag} {G H : Hp} (e : Ex G H) : ∀ (d : D) (n : Nat) (v : V), pdB n d = true → Dat K G v d → Dp K H v (toP d)
  | .non, _, _, _, h => by cases h; exact .non
  | .bl b, _, _, _, h => by cases h; exact .bl b
  | .int i, _, _, _, h => by cases h; exact .int i
  | .str x, _, _, _, h => by cases h; exact .str x
  | .tup ds, n, _, p, h => by
    have p' : (decide (1 ≤ n) && pdBs (n - 1) ds) = true := p
    cases h with | tup a b => exact .tup (ex_t e a) (DatL.dp e ds (n - 1) _ (Bool.and_eq_true_iff.mp p').2 b)
  | .lst ds, n, _, p, h => by
    have p' : (decide (1 ≤ n) && pdBs (n - 1) ds) = true := p
    cases h with | lst a b => exact .lst (.inl (.inl (e _ _ a))) (DatL.dp e ds (n - 1) _ (Bool.and_eq_true_iff.mp p').2 b)
  | .idn v d, n, _, p, h => by cases h with | idn a => exact Dat.dp e d n _ p a
  | .dct ds, _, _, p, h => by cases p
  | .op v, _, _, p, h => by cases p
  | .rng _ _, _, _, p, h => by cases p
  | .exc _, _, _, p, h => by cases p
  | .set _ _ _, _, _, p, h => by cases p
theorem DatL.dp {K : PySem.W.Frag} {G H : Hp} (e : Ex G H) : ∀ (ds : List D) (n : Nat) (vs : List V), pdBs n ds = true → DatL K G vs ds → DpAll K H vs (toPs ds)
  | [], _, _, _, h => by cases h; exact .nil
  | d :: ds, n, _, p, h => by
    have p' : (pdB n d && pdBs n ds) = true := p
    obtain ⟨p1, p2⟩ := Bool.and_eq_true_iff.mp p'
    cases h with | cons a b => exact .cons (Dat.dp e d n _ p1 a) (DatL.dp e ds n _ p2 b)
end
theorem pd_shaped {d : D} (h : pdB 60 d = true) : SeqAt.shaped (toP d) = true := by
  obtain ⟨h1, h2⟩ := pd_facts d 60 h
  unfold SeqAt.shaped
  rw [h1, decide_eq_true (show PyData.depth (toP d) ≤ 64 by omega)]
  rfl
theorem eqv_nil (ds : List D) : PyData.eqv (.list (toPs ds)) (.list []) = ds.isEmpty := by
  cases ds with
  | nil => rfl
  | cons x L => rfl
theorem op_neNilP {K : PySem.W.Frag} {ds : List D} (h : pdBs 59 ds = true) : OpD K (rNeD K) (.lst ds) (.lst []) (.bl (!ds.isEmpty)) := fun G H v1 v2 e d1 d2 Q q => by
  have hp : pdB 60 (.lst ds) = true := h
  refine ⟨_, _, Dat.dp e _ 60 _ hp d1, Dat.dp e (.lst []) 60 _ rfl d2, pd_shaped hp, rfl, ?_⟩
  have := eqv_nil ds
  rw [show toP (.lst ds) = .list (toPs ds) from rfl, show toP (.lst []) = .list [] from rfl, eqv_nil]
  exact q _ G H (.refl e) (.bl _)
theorem op_eqNilP {K : PySem.W.Frag} {ds : List D} (h : pdBs 59 ds = true) : OpD K (rEqD K) (.lst ds) (.lst []) (.bl ds.isEmpty) := fun G H v1 v2 e d1 d2 Q q => by
  have hp : pdB 60 (.lst ds) = true := h
  refine ⟨_, _, Dat.dp e _ 60 _ hp d1, Dat.dp e (.lst []) 60 _ rfl d2, pd_shaped hp, rfl, ?_⟩
  rw [show toP (.lst ds) = .list (toPs ds) from rfl, show toP (.lst []) = .list [] from rfl, eqv_nil]
  exact q _ G H (.refl e) (.bl _)
/-! ### what a comprehension keeps -/
theorem keep_mem {f : Nat → Bool} {F : Nat → D} {n : Nat} {x : D} (h : x ∈ keep f F n) : ∃ i, i < n ∧ f i = true ∧ x = F i := by
  unfold keep at h
  obtain ⟨i, hi, rfl⟩ := List.mem_map.mp h
  obtain ⟨h1, h2⟩ := List.mem_filter.mp hi
  exact ⟨i, List.mem_range.mp h1, h2, rfl⟩
theorem keep_empty {f : Nat → Bool} {F : Nat → D} {n : Nat} : (keep f F n).isEmpty = (List.range n).all fun i => !f i := by
  unfold keep
  rw [Bool.eq_iff_iff, List.isEmpty_iff, List.map_eq_nil_iff, List.filter_eq_nil_iff, List.all_eq_true]
  refine forall_congr' fun i => imp_congr_right fun _ => ?_
  cases f i <;> simp
theorem keep_flat {f : Nat → Bool} {F : Nat → D} : ∀ n : Nat, keep f F n = flat (fun z => if f z = true then [F z] else []) n
  | 0 => rfl
  | n + 1 => by
    rw [flat_succ, ← keep_flat n]
    cases h : f n with
    | true => rw [keep_yes h, if_pos rfl]
    | false => rw [keep_no h, if_neg Bool.false_ne_true, List.append_nil]
theorem all_getD {p : D → Bool} {ds : List D} : ((List.range ds.length).all fun i => p (ds.getD i .non)) = ds.all p := by
  rw [Bool.eq_iff_iff, List.all_eq_true, List.all_eq_true]
  constructor
  · intro h x hx
    obtain ⟨i, hi, rfl⟩ := List.getElem_of_mem hx
    have := h i (List.mem_range.mpr hi)
    rwa [List.getD_eq_getElem?_getD, List.getElem?_eq_getElem hi] at this
  · intro h i hi
    have hi := List.mem_range.mp hi
    rw [List.getD_eq_getElem?_getD, List.getElem?_eq_getElem hi]
    exact h _ (List.getElem_mem hi)
theorem set_map {α β : Type} (g : α → β) : ∀ (l : List α) (i : Nat) (a : α), (l.set i a).map g = (l.map g).set i (g a)
  | [], _, _ => rfl
  | _ :: _, 0, _ => rfl
  | b :: l, i + 1, a => by
    show g b :: (l.set i a).map g = g b :: (l.map g).set i (g a)
    rw [set_map g l i a]
end DL

set_option Elab.async false
set_option linter.all false
set_option maxRecDepth 100000
set_option maxHeartbeats 4000000
/-! sets of numbers: set(xs), len, sorted, in; set comprehensions; sum, any, gcd -/
namespace DL
open PySem PySem.Spec PyProof.Rows L2
/-! ### the different ones of a list -/
def ddStep (p : List Int) (x : Int) : List Int := if x ∈ p then p else x :: p
def ddI (l : List Int) : List Int := l.foldl ddStep []
/-- how many different ones -/
def dcount (l : List Int) : Nat := (ddI l).length
theorem ddI_snoc (l : List Int) (x : Int) : ddI (l ++ [x]) = ddStep (ddI l) x := by
  unfold ddI
  rw [List.foldl_append]
  rfl
theorem dd_fold : ∀ (l p : List Int), p.Nodup → (l.foldl ddStep p).Nodup ∧ ∀ k, k ∈ l.foldl ddStep p ↔ k ∈ p ∨ k ∈ l
  | [], p, h => ⟨h, fun k => by simp⟩
  | x :: l, p, h => by
    have h2 : (ddStep p x).Nodup ∧ ∀ k, k ∈ ddStep p x ↔ k ∈ p ∨ k = x := by
      unfold ddStep
      by_cases c : x ∈ p
      · rw [if_pos c]
        exact ⟨h, fun k => ⟨.inl, fun z => z.elim id fun e => e ▸ c⟩⟩
      · rw [if_neg c]
        exact ⟨List.nodup_cons.mpr ⟨c, h⟩, fun k => by rw [List.mem_cons]; exact ⟨fun z => z.elim .inr .inl, fun z => z.elim .inr .inl⟩⟩
    obtain ⟨h3, h4⟩ := dd_fold l (ddStep p x) h2.1
    refine ⟨h3, fun k => ?_⟩
    show k ∈ l.foldl ddStep (ddStep p x) ↔ _
    rw [h4 k, h2.2 k, List.mem_cons, or_assoc]
theorem dd_nodup (l : List Int) : (ddI l).Nodup := (dd_fold l [] .nil).1
theorem dd_mem {l : List Int} {k : Int} : k ∈ ddI l ↔ k ∈ l := by
  have h := (dd_fold l [] .nil).2 k
  show k ∈ l.foldl ddStep [] ↔ k ∈ l
  rw [h]
  simp
theorem dcount_snoc (l : List Int) (x : Int) : dcount (l ++ [x]) = if x ∈ l then dcount l else dcount l + 1 := by
  unfold dcount
  rw [ddI_snoc]
  unfold ddStep
  by_cases c : x ∈ l
  · rw [if_pos (dd_mem.mpr c), if_pos c]
  · rw [if_neg (fun h => c (dd_mem.mp h)), if_neg c]
    rfl
theorem dcount_of {l ns : List Int} (h : l.Nodup) (hm : ∀ k, k ∈ l ↔ k ∈ ns) : l.length = dcount ns :=
  ((List.perm_ext_iff_of_nodup h (dd_nodup ns)).mpr fun k => by rw [hm, dd_mem]).length_eq
theorem ddStep_len (p : List Int) (x : Int) : (ddStep p x).length ≤ p.length + 1 := by
  unfold ddStep
  split
  · omega
  · exact Nat.le_refl _
theorem fold_len : ∀ (l p : List Int), (l.foldl ddStep p).length ≤ p.length + l.length
  | [], p => Nat.le_refl _
  | x :: l, p => by
    have h1 := fold_len l (ddStep p x)
    have h2 := ddStep_len p x
    rw [List.length_cons]
    show (l.foldl ddStep (ddStep p x)).length ≤ _
    omega
theorem dcount_le (l : List Int) : dcount l ≤ l.length := by
  have h := fold_len l []
  rw [List.length_nil, Nat.zero_add] at h
  exact h
theorem dcount_full {l : List Int} : dcount l = l.length ↔ l.Nodup := by
  constructor
  · intro h
    have key : ∀ (l p : List Int), (l.foldl ddStep p).length = p.length + l.length → p.Nodup → (∀ x ∈ l, x ∉ p) ∧ l.Nodup := by
      intro l
      induction l with
      | nil => exact fun p _ _ => ⟨(fun x hx => nomatch hx), .nil⟩
      | cons x l ih =>
        intro p hp hn
        have h1 := fold_len l (ddStep p x)
        have hp' : (l.foldl ddStep (ddStep p x)).length = p.length + (l.length + 1) := hp
        by_cases c : x ∈ p
        · have e : ddStep p x = p := if_pos c
          rw [e] at h1 hp'
          omega
        · have e : ddStep p x = x :: p := if_neg c
          rw [e] at hp'
          obtain ⟨h2, h3⟩ := ih (x :: p) (by rw [List.length_cons]; omega) (List.nodup_cons.mpr ⟨c, hn⟩)
          refine ⟨fun y hy => ?_, List.nodup_cons.mpr ⟨fun hx => h2 x hx List.mem_cons_self, h3⟩⟩
          rcases List.mem_cons.mp hy with rfl | hy
          · exact c
          · exact fun z => h2 y hy (List.mem_cons_of_mem _ z)
    exact (key l [] (by rw [List.length_nil, Nat.zero_add]; exact h) .nil).2
  · exact fun h => (dcount_of h fun k => Iff.rfl).symm
section
variable {P : Program} {w : World} {A : Around} {E : Value → Shared → Prop} {s : Shared}
/-- a new set -/
abbrev set0 (w : World) : Obj := { cls := .type "set", dict := none, data := .set #[] 0 (.fresh 0 0 (!w.params.followText "set-order")) }
set_option maxHeartbeats 3200000 in
/-- set(xs) of a list of numbers: as the library's rule for a tuple -/
theorem call_set_lstI {l : Addr} {items : Array Value} (ns : List Int) {Q : Value → Shared → Prop} (hh : A.handled = none) (hl : s.heap.IsList l items) (hit : IntsAre items.toList ns) (hb : ns.length + 1 < scanBound)
    (h : ∀ (h' : Heap) (tk c : Nat), SetR w h' s.heap.objs.size (fun j => decide (j ∈ ns)) c → (∀ b o, s.heap.get? b = some o → h'.get? b = some o) → Q (.ref s.heap.objs.size) { s with heap := h', toks := tk }) :
    wpAny (model P w) A (call (.type "set") [.ref l]) Q E s := by
  have hisz : items.size = ns.length := by
    have q := IntsAre.length hit
    rw [Array.length_toList] at q
    exact q
  obtain ⟨c, tl, hmro⟩ := F.called_set.mro
  have hmade := F.called_set.made
  have hsub := F.called_set.sub
  refine wpAny_call (codeAny_of_tree ?_)
  show wpAny _ _ (callAny (.type "set") _) _ _ _
  refine wpAny_pure ⟨Code.quiet_builtin _ (by decide +kernel), codeAny_builtin F.entry_type_call ?_⟩
  rw [Around.under_plain (weight_type_call_type "set" [.ref l] []) rfl]
  have h1 := F.called_set.notType
  have h2 := F.called_set.canCreate
  have hct := F.typeCall_set_1 (.ref l)
  repeat (any_goals (first | assumption | wp_step))
  refine codeAny_mono (code_set_led1 (.ref l) (E := E) (Q₁ := fun obj s₁ => obj = .ref s.heap.objs.size ∧ s₁ = { s with heap := s.heap.push (set0 w) }) ⟨rfl, rfl⟩) fun r s₁ hr => ?_
  cases r with
  | error e => exact hr
  | ok fl =>
    cases fl with
    | ret obj =>
      obtain ⟨rfl, rfl⟩ := hr
      have hS : (s.heap.push (set0 w)).get? s.heap.objs.size = some (set0 w) := Heap.get?_push_size _ rfl
      have hT : Shared.TypeIs { s with heap := s.heap.push (set0 w) } (.ref s.heap.objs.size) "set" := ⟨_, hS, rfl⟩
      have hli := F.called_set.init.lookup
      have hbi := F.called_set.init.bind (.ref s.heap.objs.size)
      repeat (any_goals (first | assumption | wp_step))
      refine codeAny_mono (codeAny_call_builtin (R := wants (fun r s₂ => r = .none ∧ ∃ h' tk c, s₂ = { s with heap := h', toks := tk } ∧ SetR w h' s.heap.objs.size (fun j => decide (j ∈ ns)) c ∧
          (∀ b o, s.heap.get? b = some o → h'.get? b = some o)) E) F.called_set.init.plain F.entry_set_init (check_set_init_1 hT ?_)) fun r₂ s₂ hr₂ => ?_
      · obtain ⟨ol, hol, hcl, nl, hdl⟩ := hl
        obtain ⟨ocls, odict, odata, oslots⟩ := ol
        simp only at hcl hdl
        subst hcl; subst hdl
        have hol' : (s.heap.push (set0 w)).get? l = some { cls := .type "list", dict := odict, data := .seq items nl, slots := oslots } := Heap.get?_push_of_some _ hol
        have hsls := F.sub_list_set
        have hslf := F.sub_list_frozenset
        have hne : (Value.type "list" == Value.type "dict") = false := by decide
        have hl1 : (s.heap.push (set0 w)).IsList l items := ⟨_, hol', rfl, nl, rfl⟩
        unfold Builtin.«set.__init__» noKeywords Builtin.Frozenset.updateFrom
        generalize hPI : pyIter = PI
        wp_walk
        subst hPI
        refine wpAny_pyIter_list hl1 ?_
        refine wpAny_bind (wpAny_runValue ?_)
        have hlS : l < s.heap.objs.size := Heap.lt_size hol
        have hh3 : A.in1.in1.in1.handled = none := by simp [hh]
        have hsz : (s.heap.push (set0 w)).objs.size = s.heap.objs.size + 1 := Heap.size_push ..
        have hneI : l ≠ (s.heap.push (set0 w)).objs.size := by rw [hsz]; exact Nat.ne_of_lt (Nat.lt_succ_of_lt hlS)
        have hSf : s.heap.objs.size ∉ [(s.heap.push (set0 w)).objs.size, l] := by
          rw [hsz]; simp only [List.mem_cons, List.mem_singleton, List.not_mem_nil, or_false, not_or]
          exact ⟨Nat.ne_of_lt (Nat.lt_succ_self _), Nat.ne_of_gt hlS⟩
        have hval : ∀ (i : Nat) (v : Value), items[i]? = some v → ∃ k t, ns[i]? = some k ∧ v = .int k t := fun i v hv => by
          have hi : i < ns.length := by rw [← hisz]; exact (Array.getElem?_eq_some_iff.mp hv).1
          obtain ⟨t, e⟩ := PyProof.Rows.IntsAre.int_at hit i v (by rw [Array.getElem?_toList]; exact hv)
          refine ⟨ns[i], t, List.getElem?_eq_getElem hi, ?_⟩
          rw [e, List.getD_eq_getElem?_getD, List.getElem?_eq_getElem hi] <;> rfl
        refine set_update_ints ((Walks.list hh3 _ l hneI items).toS) s.heap.objs.size
          hSf ns hisz hb hval (items.size - 0) 0 _ (by omega) (Nat.zero_le _)
          ⟨⟨_, Heap.get?_push_size _ rfl, rfl, rfl⟩, (hl1.push _)⟩ ⟨0, Nat.le_refl 0, setR_new_at (Heap.get?_push_of_some _ hS)⟩ fun s' c' hm hc' hS' => ?_
        obtain ⟨h', g2, d', tk', os'⟩ := s'
        have eg : g2 = s.gens := hm.gens
        have ed : d' = s.drawn := hm.drawn
        have eo : os' = s.os := hm.os
        subst eg; subst ed; subst eo
        show wpAny _ _ _ _ _ _
        refine wpAny_pure ?_
        show wpAny _ _ (ret Value.none) _ _ _
        refine wpAny_pure ⟨rfl, h', tk', c', rfl, hS', fun b o e => ?_⟩
        have hb0 : b < s.heap.objs.size := Heap.lt_size e
        exact hm.heap b o (by rw [hsz]; simp only [List.mem_cons, List.mem_singleton, List.not_mem_nil, or_false, not_or]; exact ⟨Nat.ne_of_lt hb0, Nat.ne_of_lt (Nat.lt_succ_of_lt hb0)⟩) (Heap.get?_push_of_some _ (Heap.get?_push_of_some _ e))
      · cases r₂ with
        | error e => exact hr₂
        | ok fl₂ =>
          cases fl₂ with
          | ret r =>
            obtain ⟨rfl, h', tk, c, rfl, hS', hk'⟩ := hr₂
            repeat (any_goals (first | assumption | wp_step))
            exact h _ _ _ hS' hk'
          | _ => exact hr₂.elim
    | _ => exact hr.elim
/-- how many members such a set has -/
theorem setR_count {h : Heap} {a : Addr} {ns : List Int} {c : Nat} (R : SetR w h a (fun j => decide (j ∈ ns)) c) : c = dcount ns := by
  obtain ⟨o, es, ep, t, ho, hex, hd, g, nd, hm, hb, hf, hn, _⟩ := R
  rw [← dcount_of nd fun k => by rw [← hm k, decide_eq_true_eq], List.length_map, Array.length_toList]
  exact hn.symm
end
/-- set(xs), xs a list or a tuple of numbers -/
def rSetOf (K : PySem.W.Frag) (w : World) : List V → Hp → VK → Prop := fun xs H Q => ∃ (a : Addr) (ns : List Int), xs = [.ref a] ∧ (SqL K H a (ns.map V.int) ∨ SqT K H a (ns.map V.int)) ∧ ns.length ≤ 4000 ∧ ∀ p, H p = none → Q (.ref p) (upd H p (SetO w p (fun j => decide (j ∈ ns)) (dcount ns)))
theorem call_setOf {X : Cx} (hc : X.calm = true) : CallR X (.type "set") (rSetOf X.K X.w) := by
  intro pins s σ H xs us Q I r h
  obtain ⟨a, ns, rfl, hq, hl, q⟩ := h
  rw [Vals.ref1 r]
  have hd := I.ok.hd hc
  have fin : ∀ (h' : Heap) (tk c : Nat), SetR X.w h' s.heap.objs.size (fun j => decide (j ∈ ns)) c → (∀ b o, s.heap.get? b = some o → h'.get? b = some o) → EP X pins σ Q (.ref s.heap.objs.size) { s with heap := h', toks := tk } := fun h' tk c R k => by
    have e := setR_count R
    subst e
    exact ⟨.ref _, upd H s.heap.objs.size (SetO X.w s.heap.objs.size (fun j => decide (j ∈ ns)) (dcount ns)), I.laid (t' := tk) k (Nat.le_refl _) (setO_new R), rfl, q _ (I.hok.fresh (Nat.le_refl _))⟩
  rcases hq with hq | hq
  · obtain ⟨its, rv, pl, hz⟩ := I.list hq
    exact call_set_lstI ns hd pl.isList (by simpa using ints_of_vals rv) (by unfold scanBound; omega) fun h' tk c R k => fin h' tk c R k
  · obtain ⟨its, rv, pt, hz⟩ := I.tuple hq
    exact call_set_tupI ns hd (show s.heap.IsTuple a its.toArray from pt) (by simpa using ints_of_vals rv) (by unfold scanBound; omega) fun h' tk c R _ k => fin h' tk c R k
theorem call_setOfK {X : Cx} (K : PySem.W.Frag) (w : World) (hc : X.calm = true := by rfl) (h : X.K = K := by rfl) (hw : X.w = w := by rfl) : CallR X (.type "set") (rSetOf K w) := by
  subst h; subst hw
  exact call_setOf hc
/-- len(set) -/
def rLenS (w : World) : List V → Hp → VK → Prop := fun xs H Q => ∃ (a : Addr) (S : Int → Bool) (n : Nat), xs = [.ref a] ∧ H a = some (SetO w a S n) ∧ Q (.int (n : Nat)) H
theorem call_lenS {X : Cx} (w : World) (hw : X.w = w := by rfl) : CallR X (.builtin "len") (rLenS w) := by
  subst hw
  intro pins s σ H xs us Q I r h
  obtain ⟨a, S, n, rfl, ha, q⟩ := h
  rw [Vals.ref1 r]
  obtain ⟨o, es, ep, t, ho, hex, hd, g, nd, hm, hb, hf, hn, _⟩ := setO_get I ha
  refine call_len_set ho hex hd hf (by unfold scanBound at hb; omega) ⟨.int n, H, I.tok _, ⟨_, by rw [hn]⟩, q⟩
theorem call_sortedSK {X : Cx} (w : World) (hc : X.calm = true := by rfl) (hw : X.w = w := by rfl) : CallR X (.builtin "sorted") (rSortedSet w) := by
  subst hw
  exact cr_sortedSet hc
theorem op_inSK {X : Cx} (w : World) (hw : X.w = w := by rfl) : OpR X (compareOp .In) (rSIn w) := by
  subst hw
  exact or_sin
theorem op_notInSK {X : Cx} (w : World) (hw : X.w = w := by rfl) : OpR X (compareOp .NotIn) (rSNotIn w) := by
  subst hw
  exact or_snotin
/-- two rising lists of the same numbers are one -/
theorem ris_unique : ∀ {a b : List Int}, a.Pairwise (· < ·) → b.Pairwise (· < ·) → (∀ k, k ∈ a ↔ k ∈ b) → a = b
  | [], [], _, _, _ => rfl
  | [], y :: b, _, _, h => absurd ((h y).mpr List.mem_cons_self) (by simp)
  | x :: a, [], _, _, h => absurd ((h x).mp List.mem_cons_self) (by simp)
  | x :: a, y :: b, ha, hb, h => by
    obtain ⟨ha1, ha2⟩ := List.pairwise_cons.mp ha
    obtain ⟨hb1, hb2⟩ := List.pairwise_cons.mp hb
    have e : x = y := by
      rcases List.mem_cons.mp ((h x).mp List.mem_cons_self) with e | hx
      · exact e
      · rcases List.mem_cons.mp ((h y).mpr List.mem_cons_self) with e | hy
        · exact e.symm
        · have h1 := hb1 x hx
          have h2 := ha1 y hy
          omega
    subst e
    congr 1
    refine ris_unique ha2 hb2 fun k => ?_
    constructor
    · intro hk
      rcases List.mem_cons.mp ((h k).mp (List.mem_cons_of_mem _ hk)) with e | hk2
      · subst e; have := ha1 k hk; omega
      · exact hk2
    · intro hk
      rcases List.mem_cons.mp ((h k).mpr (List.mem_cons_of_mem _ hk)) with e | hk2
      · subst e; have := hb1 k hk; omega
      · exact hk2
def setW (w : World) (ns : List Int) : D := .set w (fun j => decide (j ∈ ns)) (dcount ns)
section
variable {K : PySem.W.Frag} {β : Bas} {env : Env'} {ta tb te tc to : TE} {tt tu : TT} {x y z d : D} {v : V} {w : World}
theorem DatL.ints_of {G : Hp} {ns : List Int} {xs : List V} (h : DatL K G xs (ns.map D.int)) : xs = ns.map V.int := DatL.intsV h
theorem cb_setOf {ns : List Int} (h : x = .tup (ns.map D.int) ∨ x = .lst (ns.map D.int)) (hl : ns.length ≤ 4000) : CbD K (rSetOf K w) [x] (setW w ns) := fun G H vs e dl Q q => by
  cases dl with | cons dv t =>
  cases t
  rcases h with rfl | rfl
  · obtain ⟨a, xs, rfl, ht, hd⟩ := dv.tupV
    rw [DatL.intsV hd] at ht
    exact ⟨a, ns, rfl, .inr (ex_t e ht), hl, fun p hp => q _ (upd G p _) _ (.new e hp) (.set upd_same)⟩
  · obtain ⟨a, xs, rfl, ht, hd⟩ := dv.lstV
    rw [DatL.intsV hd] at ht
    exact ⟨a, ns, rfl, .inl (.inl (.inl (e _ _ ht))), hl, fun p hp => q _ (upd G p _) _ (.new e hp) (.set upd_same)⟩
theorem cb_lenS {S : Int → Bool} {n : Nat} : CbD K (rLenS w) [.set w S n] (.int n) := fun G H vs e dl Q q => by
  cases dl with | cons dv t =>
  cases t
  cases dv with
  | set h => exact ⟨_, S, n, rfl, e _ _ h, q _ G H (.refl e) (.int _)⟩
theorem cb_sortedS {S : Int → Bool} {n : Nat} {L : List Int} (hn : n < 64) (hL : L.Pairwise (· < ·)) (hm : ∀ k, k ∈ L ↔ S k = true) : CbD K (rSortedSet w) [.set w S n] (.lst (L.map D.int)) := fun G H vs e dl Q q => by
  cases dl with | cons dv t =>
  cases t
  cases dv with
  | set h =>
  refine ⟨_, S, n, rfl, e _ _ h, hn, fun ns p h1 h2 h3 hp => ?_⟩
  have e2 : ns = L := ris_unique h1 hL fun k => by rw [h2, hm]
  subst e2
  exact q _ (upd G p _) _ (.new e hp) (.lst upd_same (DatL.ints _))
theorem op_inS2 {S : Int → Bool} {n : Nat} {k : Int} : OpD K (rSIn w) (.int k) (.set w S n) (.bl (S k)) := fun G H v1 v2 e d1 d2 Q q => by
  rw [d1.intV]
  cases d2 with
  | set h => exact ⟨k, _, S, n, rfl, rfl, e _ _ h, q _ G H (.refl e) (.bl _)⟩
theorem op_notInS2 {S : Int → Bool} {n : Nat} {k : Int} : OpD K (rSNotIn w) (.int k) (.set w S n) (.bl (!S k)) := fun G H v1 v2 e d1 d2 Q q => by
  rw [d1.intV]
  cases d2 with
  | set h => exact ⟨k, _, S, n, rfl, rfl, e _ _ h, q _ G H (.refl e) (.bl _)⟩
theorem cb_any {bs : List Bool} : CbD K (rAny K) [.lst (bs.map D.bl)] (.bl (bs.any id)) := fun G H vs e dl Q q => by
  cases dl with | cons dv t =>
  cases t
  obtain ⟨a, xs, rfl, ht, hd⟩ := dv.lstV
  exact ⟨a, bs, rfl, .inl (.inl (by rw [← DatL.blsV hd]; exact e _ _ ht)), q _ G H (.refl e) (.bl _)⟩
theorem cb_sum {ns : List Int} : CbD K (rSum K) [.lst (ns.map D.int)] (.int ns.sum) := fun G H vs e dl Q q => by
  cases dl with | cons dv t =>
  cases t
  obtain ⟨a, xs, rfl, ht, hd⟩ := dv.lstV
  exact ⟨a, ns, rfl, .inl (.inl (by rw [← DatL.intsV hd]; exact e _ _ ht)), q _ G H (.refl e) (.int _)⟩
theorem cb_gcd {a b : Int} : CbD K rGcd [.int a, .int b] (.int ((Nat.gcd a.natAbs b.natAbs : Nat) : Int)) := fun G H vs e dl Q q => by
  cases dl with | cons da t =>
  cases t with | cons db t =>
  cases t
  rw [da.intV, db.intV]
  exact ⟨a, b, rfl, q _ G H (.refl e) (.int _)⟩
end
end DL

set_option Elab.async false
set_option linter.all false
set_option maxRecDepth 100000
set_option maxHeartbeats 4000000
/-! set comprehensions of numbers: as the library's rule for truth values -/
namespace DL
open PySem PySem.Spec PyProof.Rows L2
section
variable {X : Cx}
theorem addI_ok {pins : List (Addr × Obj)} {σ : L2.St} {H : Hp} {s : Shared} {E : Value → Shared → Prop} {D : Addr} {S : Int → Bool} {n : Nat} {k : Int} {tk : Tok} {Q : Value → Shared → Prop} (I : L2.Inv X pins σ H s) (hD : H D = some (SetO X.w D S n)) (room : n + 1 < scanBound)
    (h : ∀ s', L2.Inv X pins σ (upd H D (SetO X.w D (fun j => S j || decide (j = k)) (if S k = true then n else n + 1))) s' → Q .none s') : wpAny (model X.prog X.w) X.A (call (.builtin "set.add") [.ref D, .int k tk]) Q E s := by
  refine setR_add (setO_get I hD) room fun h' sb new => ?_
  have he : ∃ u, h'.get? D = some u := by
    have ⟨o, _, _, _, ho, _⟩ := new
    exact ⟨o, ho⟩
  exact h _ (I.write (e := D) (t' := s.toks + 1) (by rw [hD]; trivial) (.inl rfl) (fun b u hb hu => (sb.2 b hb).trans hu) he (setO_new new))
/-- {elt for target in iter if ..}, elt a number: Dl the new set -/
def tScI (w : World) (wi : TI) (g : TG) (tt : TT) (te : TE) (vs : List Nat) : TE := fun σ H Q => wi σ H fun J H1 => ∀ Dl, H1 Dl = none → ∃ W : Nat → Nat → Hp → Prop, (∃ m, W 0 m (upd H1 Dl (SetO w Dl (fun _ => false) 0))) ∧ ∀ i m H, W i m H →
  (J.stop i H ∧ Q (.ref Dl) H) ∨ (J.go i H ∧ ∃ Nx : Hp → Prop, (∀ H', Nx H' → ∃ m', m' < m ∧ W (i + 1) m' H') ∧ ∀ x H', J.yld i H x H' → g x (L2.wipe σ vs) H' fun σ2 H2 => L2.wipe σ2 vs = L2.wipe σ vs ∧ tt σ2 H2 fun b H3 =>
    if b = true then te σ2 H3 fun y H4 => ∃ (k : Int) (S : Int → Bool) (n : Nat), y = .int k ∧ H4 Dl = some (SetO w Dl S n) ∧ n + 1 < scanBound ∧ Nx (upd H4 Dl (SetO w Dl (fun j => S j || decide (j = k)) (if S k = true then n else n + 1))) else Nx H3)
theorem pe_scI {elt tg iter : Expr} {ifs : List Expr} {scope : Scope} {own : List (PySem.Str × Nat)} {pos : Pos} {wi : TI} {g : TG} {tt : TT} {te : TE} (hc : X.calm = true) (hN : X.N.Nodup) (hi : PI X tg iter wi) (ok : BlkOk X.N X.env.scope scope own)
    (hg : ∀ (s : Shared) (H : Hp) (C : Addr) (cl : List (PySem.Str × Addr)) (fp : List Addr), PG (X.blk s H scope (compEnvC scope cl C X.env) fp) tg g) (ht : ∀ (s : Shared) (H : Hp) (C : Addr) (cl : List (PySem.Str × Addr)) (fp : List Addr), PTs (X.blk s H scope (compEnvC scope cl C X.env) fp) ifs tt)
    (he : ∀ (s : Shared) (H : Hp) (C : Addr) (cl : List (PySem.Str × Addr)) (fp : List Addr), PE (X.blk s H scope (compEnvC scope cl C X.env) fp) elt te) (hs : ∀ x, foldedSetIterable iter X.env x = pure x := by intro _; rfl) :
    PE X (.SetComp elt [⟨tg, iter, ifs, 0⟩] scope pos) (tScI X.w wi g tt te (own.map (·.2))) := by
  refine ⟨fun pins s σ H Q I h => ?_⟩
  rw [PpSet.eval_SetComp]
  have hfree : ∀ y ∈ scope.names, y.2 = .free → ∃ c, X.env.cells.lookup y.1 = some c := fun y hy e => by
    rcases ok.free y hy e with k | k
    · exact I.ok.has _ (.inl k)
    · exact I.ok.has _ (.inr k)
  refine wpAny_comprehension_free rfl hs (closure_ok hfree) ok.kind (fun y hy e => by rw [ok.uniq y hy, e])
    (thn (hi.run pins s σ H _ I h) fun xv s1 hx => thn hx fun itv s2 h2 => ?_)
  obtain ⟨it, fp, tn, J, H2, e, I2, T, st2, f2, q⟩ := h2
  subst e
  refine PpSet.newSet_ok (newEnv_comp ?_)
  generalize hD : s2.heap.objs.size = Dl
  have hDn : H2 Dl = none := I2.hok.fresh (Nat.le_of_eq hD)
  obtain ⟨W, ⟨m0, w0⟩, turn⟩ := q Dl hDn
  generalize hs3 : ({ s2 with heap := s2.heap.push (set0 X.w) } : Shared) = s3
  have I3 : L2.Inv X pins σ (upd H2 Dl (SetO X.w Dl (fun _ => false) 0)) s3 := by
    rw [← hs3]
    refine I2.laid (t' := s2.toks) (fun b o e => Heap.get?_push_of_some _ e) (Nat.le_of_eq hD) ?_
    rw [← hD]
    exact setO_new (setR_fresh X.w)
  have h3 : s3.heap = s2.heap.push (set0 X.w) := by rw [← hs3]
  have sz : ∀ b ∈ fp, b < s2.heap.objs.size := fun b hb => by
    obtain ⟨o, e, _⟩ := T.obj _ _ st2 b hb
    exact Heap.lt_size e
  have f3 : ∀ b ∈ fp, FpOk X pins (upd H2 Dl (SetO X.w Dl (fun _ => false) 0)) b ∧ b < s3.heap.objs.size := fun b hb => by
    have hlt := sz b hb
    refine ⟨⟨?_, (f2 b hb).2⟩, by rw [h3, Heap.size_push]; exact Nat.lt_succ_of_lt hlt⟩
    rw [upd_ne (by rw [← hD]; exact Nat.ne_of_lt hlt)]
    exact (f2 b hb).1
  have st3 : tn 0 s3.heap := T.keep _ _ _ st2 fun b _ o e => by rw [h3]; exact Heap.get?_push_of_some _ e
  have I4 := block_start I3 ok hN f3
  have pg := hg s3 (upd H2 Dl (SetO X.w Dl (fun _ => false) 0)) s3.heap.objs.size (cellsFrom (s3.heap.objs.size + 1) scope.names (cloFrom X.env.cells scope.names [])) fp
  have pt := ht s3 (upd H2 Dl (SetO X.w Dl (fun _ => false) 0)) s3.heap.objs.size (cellsFrom (s3.heap.objs.size + 1) scope.names (cloFrom X.env.cells scope.names [])) fp
  have pe := he s3 (upd H2 Dl (SetO X.w Dl (fun _ => false) 0)) s3.heap.objs.size (cellsFrom (s3.heap.objs.size + 1) scope.names (cloFrom X.env.cells scope.names [])) fp
  have hRR : ∀ s' m H', L2.Inv X pins σ H' s' → Q (.ref Dl) H' → s'.heap.Ns s3.heap.objs.size m → FpOk X pins H' s3.heap.objs.size → compPost (model X.prog X.w) X.A X.xe none (fun v s' => EP X pins σ Q v s') (.ref Dl) s3.heap.objs.size (.ok .next) s' := fun s' m H' I' q hn f => ⟨m, hn, fun h'' sb => by
    obtain ⟨f0, f1, f2, f3, f4, f5⟩ := f
    exact ⟨.ref Dl, H', I'.turned (t' := s'.toks) (fun b o hb e => (sb.2 b hb).trans e) f0 f1 f3 f4 f5, rfl, q⟩⟩
  show codeAny _ _ (.compStart (.SetComp elt [⟨tg, iter, ifs, 0⟩] scope pos) 0 (.ref it) (.ref Dl) (compEnvC scope (cellsFrom (s3.heap.objs.size + 1) scope.names (cloFrom X.env.cells scope.names [])) s3.heap.objs.size X.env)) (compPost (model X.prog X.w) X.A X.xe none (fun v s' => EP X pins σ Q v s') (.ref Dl) s3.heap.objs.size) { s3 with heap := pushCells (s3.heap.push { cls := .type "dict", data := .dict #[] }) scope.names }
  have nfp : ∀ b ∈ fp, (upd H2 Dl (SetO X.w Dl (fun _ => false) 0)) b = none := fun b hb => (f3 b hb).1.1
  generalize hce : compEnvC scope (cellsFrom (s3.heap.objs.size + 1) scope.names (cloFrom X.env.cells scope.names [])) s3.heap.objs.size X.env = ce at I4 pg pt pe ⊢
  have cL : ce.locals = s3.heap.objs.size := by subst hce; rfl
  generalize hH3 : upd H2 Dl (SetO X.w Dl (fun _ => false) 0) = H3 at I3 I4 pg pt pe w0 nfp f3
  generalize hs4 : ({ s3 with heap := pushCells (s3.heap.push { cls := .type "dict", data := .dict #[] }) scope.names } : Shared) = s4 at I4 ⊢
  have st4 : tn 0 s4.heap := T.keep _ _ _ st3 fun b _ o e => by rw [← hs4]; exact pushCells_keeps _ _ _ _ (Heap.get?_push_of_some _ e)
  have stat : ∀ {σ' : L2.St} {H' : Hp} {s' : Shared}, L2.Inv (X.blk s3 H3 scope ce fp) [] σ' H' s' → (∀ b ∈ fp, H' b = none) → ∀ b ∈ fp, FpOk (X.blk s3 H3 scope ce fp) [] H' b := fun {σ' H' s'} I' hn b hb =>
    ⟨hn b hb, (I'.ok.exf b hb).1, I'.ok.exfs b hb, .inl hb, fun x c e => (I'.ok.exf b hb).2 x c e, fun p hp => absurd (show p ∈ ([] : List (Addr × Obj)) ++ [] from hp) (by simp)⟩
  have loop : codeAny (model X.prog X.w) X.A (.compLoop (.SetComp elt [⟨tg, iter, ifs, 0⟩] scope pos) 0 (.ref it) (.ref Dl) ce) (compPost (model X.prog X.w) X.A X.xe none (fun v s' => EP X pins σ Q v s') (.ref Dl) s3.heap.objs.size) s4 := by
    refine PpSet.compLoopS_any (fun n s' => ∃ i H', L2.Inv (X.blk s3 H3 scope ce fp) [] (L2.wipe σ (own.map (·.2))) H' s' ∧ tn i s'.heap ∧ (∀ b ∈ fp, H' b = none) ∧ W i n H') ?_ m0 ⟨0, H3, I4, st4, nfp, w0⟩
    rintro n s5 ⟨i, H5, I5, st5, n5, w5⟩
    rcases turn i n H5 w5 with ⟨stop, qq⟩ | ⟨go, Nx, hNx, step⟩
    · refine thnF (T.done (X.blk s3 H3 scope ce fp) rfl rfl rfl hc i [] s5 _ H5 (fun _ _ => False) I5 (stat I5 n5) st5 stop) fun r s6 ⟨hr, I6⟩ => ?_
      subst hr
      have I7 : L2.Inv X pins σ H5 s6 := I3.call' (ch := fp) I6.os I6.base I6.hok I6.bare fun b hb => ⟨(f3 b hb).1.2.2.2.1, (f3 b hb).1.2.1, (f3 b hb).1.2.2.2.2.1, (f3 b hb).1.2.2.2.2.2⟩
      have nC : H5 s3.heap.objs.size = none := by
        have z : H5 ce.locals = none := I6.free
        rw [cL] at z
        exact z
      obtain ⟨m, hn, _⟩ := I6.loc
      have hn : s6.heap.Ns ce.locals m := hn
      rw [cL] at hn
      exact hRR s6 m H5 I7 qq hn (I3.fpOk (Nat.le_refl _) nC)
    · refine thnF (T.item (X.blk s3 H3 scope ce fp) rfl rfl rfl hc i [] s5 _ H5 (fun _ _ => False) I5 (stat I5 n5) st5 go) fun r s6 ⟨u, hr, h6⟩ => ?_
      subst hr
      refine thnF h6 fun _ s7 ⟨x, H7, I7, r7, y7, st7, n7⟩ => ?_
      have I7' := I7.pinned (stat I7 n7) (T.obj _ _ st7)
      refine thnF (pg.run _ s7 _ H7 x u _ I7' r7 (step x H7 y7)) fun _ s8 ⟨σ8, H8, I8, hw8, q8⟩ => ?_
      refine thnF (pt.run _ s8 σ8 H8 _ I8 q8) fun b s9 ⟨H9, I9, q9⟩ => ?_
      have fin : ∀ {s' : Shared} {H' : Hp}, L2.Inv (X.blk s3 H3 scope ce fp) ([] ++ pinsAt fp s7.heap) σ8 H' s' → Nx H' → ∃ m, m < n ∧ ∃ i H', L2.Inv (X.blk s3 H3 scope ce fp) [] (L2.wipe σ (own.map (·.2))) H' s' ∧ tn i s'.heap ∧ (∀ b ∈ fp, H' b = none) ∧ W i m H' := fun {s' H'} I' nx => by
        obtain ⟨m', hm, w'⟩ := hNx H' nx
        have pin' : ∀ b ∈ fp, ∀ o, s7.heap.get? b = some o → s'.heap.get? b = some o ∧ H' b = none := fun b hb o e =>
          let z := I'.pin (b, o) (List.mem_append_right _ (List.mem_append_right _ (mem_pinsAt hb e)))
          ⟨z.1, z.2.1⟩
        have hl : (L2.wipe σ (own.map (·.2))).length = σ8.length := by rw [← hw8, L2.wipe_length]
        refine ⟨m', hm, i + 1, H', (I'.unpinned (pins := [])).weak hl (fun j v e => ?_), T.keep _ _ _ st7 fun b hb o e => (pin' b hb o e).1, fun b hb => ?_, w'⟩
        · rw [← hw8] at e
          exact (wipe_some e).1
        · obtain ⟨o, e, _⟩ := T.obj _ _ st7 b hb
          exact (pin' b hb o e).2
      cases b with
      | false =>
        simp only [Bool.false_eq_true, if_false] at q9 ⊢
        exact fin I9 q9
      | true =>
        simp only [if_true] at q9 ⊢
        refine thnF (pe.run _ s9 σ8 H9 _ I9 q9) fun z s10 ⟨yv, H10, I10, r10, kb, S0, n0, ey, hD10, hz10, nx⟩ => ?_
        subst ey
        obtain ⟨tk, rfl⟩ := (show ∃ tk, z = Value.int kb tk from r10)
        exact addI_ok (X := X.blk s3 H3 scope ce fp) I10 hD10 hz10 fun s11 I11 => fin I11 nx
  exact PpSet.codeAny_compStart_set loop (T.self X.A 0 _ _ _ st4 loop)
theorem pe_scIK (w : World) {elt tg iter : Expr} {ifs : List Expr} {scope : Scope} {own : List (PySem.Str × Nat)} {pos : Pos} {wi : TI} {g : TG} {tt : TT} {te : TE} (hc : X.calm = true) (hN : X.N.Nodup) (hi : PI X tg iter wi) (ok : BlkOk X.N X.env.scope scope own)
    (hg : ∀ (s : Shared) (H : Hp) (C : Addr) (cl : List (PySem.Str × Addr)) (fp : List Addr), PG (X.blk s H scope (compEnvC scope cl C X.env) fp) tg g) (ht : ∀ (s : Shared) (H : Hp) (C : Addr) (cl : List (PySem.Str × Addr)) (fp : List Addr), PTs (X.blk s H scope (compEnvC scope cl C X.env) fp) ifs tt)
    (he : ∀ (s : Shared) (H : Hp) (C : Addr) (cl : List (PySem.Str × Addr)) (fp : List Addr), PE (X.blk s H scope (compEnvC scope cl C X.env) fp) elt te) (hs : ∀ x, foldedSetIterable iter X.env x = pure x := by intro _; rfl) (hw : X.w = w := by rfl) :
    PE X (.SetComp elt [⟨tg, iter, ifs, 0⟩] scope pos) (tScI w wi g tt te (own.map (·.2))) := by
  subst hw
  exact pe_scI hc hN hi ok hg ht he hs
end
theorem cr_allK {X : Cx} (K : PySem.W.Frag) (hc : X.calm = true := by rfl) (h : X.K = K := by rfl) : CallR X (.builtin "all") (rAll K) := h ▸ cr_all hc
theorem cr_anyK {X : Cx} (K : PySem.W.Frag) (hc : X.calm = true := by rfl) (h : X.K = K := by rfl) : CallR X (.builtin "any") (rAny K) := h ▸ cr_any hc
theorem cr_sumK {X : Cx} (K : PySem.W.Frag) (hc : X.calm = true := by rfl) (h : X.K = K := by rfl) : CallR X (.builtin "sum") (rSum K) := h ▸ cr_sum hc
theorem op_eqDK {X : Cx} (K : PySem.W.Frag) (hu : X.A.units + 64 < cLine) (h : X.K = K := by rfl) : OpR X (compareOp .Eq) (rEqD K) := h ▸ op_eqD hu
theorem op_neDK {X : Cx} (K : PySem.W.Frag) (hu : X.A.units + 64 < cLine) (h : X.K = K := by rfl) : OpR X (compareOp .NotEq) (rNeD K) := h ▸ op_neD hu
/-- what {e for j in .. if ..} takes -/
def keepI (f : Nat → Bool) (F : Nat → Int) (n : Nat) : List Int := ((List.range n).filter f).map F
theorem keepI_yes {f : Nat → Bool} {F : Nat → Int} {n : Nat} (h : f n = true) : keepI f F (n + 1) = keepI f F n ++ [F n] := by
  unfold keepI
  rw [List.range_succ, List.filter_append, List.map_append, List.filter_cons, if_pos h] <;> rfl
theorem keepI_no {f : Nat → Bool} {F : Nat → Int} {n : Nat} (h : f n = false) : keepI f F (n + 1) = keepI f F n := by
  unfold keepI
  rw [List.range_succ, List.filter_append, List.map_append, List.filter_cons, if_neg (by rw [h]; decide)]
  exact List.append_nil _
theorem keepI_len (f : Nat → Bool) (F : Nat → Int) (n : Nat) : (keepI f F n).length ≤ n := by
  unfold keepI
  rw [List.length_map]
  have h := List.length_filter_le f (List.range n)
  rw [List.length_range] at h
  exact h
theorem keepI_all {F : Nat → Int} {n : Nat} : keepI (fun _ => true) F n = (List.range n).map F := by
  unfold keepI
  rw [List.filter_eq_self.mpr (fun _ _ => rfl)]
theorem set_step (w : World) (p : Addr) (l : List Int) (k : Int) : SetO w p (fun j => decide (j ∈ l) || decide (j = k)) (if decide (k ∈ l) = true then dcount l else dcount l + 1) = SetO w p (fun j => decide (j ∈ l ++ [k])) (dcount (l ++ [k])) := by
  have e1 : (fun j => decide (j ∈ l) || decide (j = k)) = fun j => decide (j ∈ l ++ [k]) := by
    funext j
    rw [Bool.eq_iff_iff, Bool.or_eq_true, decide_eq_true_eq, decide_eq_true_eq, decide_eq_true_eq, List.mem_append, List.mem_singleton]
  rw [e1, dcount_snoc]
  by_cases c : k ∈ l
  · rw [decide_eq_true c, if_pos rfl, if_pos c]
  · rw [decide_eq_false c, if_neg Bool.false_ne_true, if_neg c]
section
variable {K : PySem.W.Frag} {β : Bas} {env : Env'} {ta tb te tc to : TE} {tt tu : TT} {x y z d : D} {v : V} {w : World}
theorem ev_scN {wi : TI} {j : Nat} {vs : List Nat} {ds : List D} {f : Nat → Bool} {F : Nat → Int} (hI : EVI K β wi env ds) (hn : ds.length + 1 < scanBound) (hj : j ∈ vs)
    (hs : ∀ i v d, ds[i]? = some d → EVT K β tt ((wipeE env vs).set j (.val v d)) (f i) ∧ (f i = true → EV K β te ((wipeE env vs).set j (.val v d)) (.int (F i)))) :
    EV K β (tScI w wi (gName j) tt te vs) env (setW w (keepI f F ds.length)) := fun σ G H g0 Q q =>
  hI σ G H g0 _ fun J us G1 H1 t1 hd hJ Dl hD => by
    have e0 : SetO w Dl (fun _ => false) 0 = SetO w Dl (fun j => decide (j ∈ keepI f F 0)) (dcount (keepI f F 0)) := by
      have : (fun _ : Int => false) = fun j => decide (j ∈ keepI f F 0) := funext fun j => (decide_eq_false (fun h => nomatch h)).symm
      rw [this]
      rfl
    refine ⟨fun i m H' => m = us.length - i ∧ i ≤ us.length ∧ ∃ G', Stp G1 H1 G' H' ∧ G' Dl = none ∧ H' Dl = some (SetO w Dl (fun j => decide (j ∈ keepI f F i)) (dcount (keepI f F i))),
      ⟨us.length, by simp, Nat.zero_le _, G1, (Stp.refl t1.gh).side hD (t1.gh.back hD), t1.gh.back hD, by rw [e0]; exact upd_same⟩, ?_⟩
    rintro i m H' ⟨rfl, hi, G', t2, hG, hacc⟩
    by_cases hlt : i < us.length
    · have hx : us[i]? = some us[i] := List.getElem?_eq_getElem hlt
      obtain ⟨d, hdi, dx⟩ := hd.getV hx
      obtain ⟨hT, hE⟩ := hs i us[i] d hdi
      obtain ⟨hgo, hyl⟩ := (hJ i H' (t2.gg.trans t2.gh)).2 _ hx
      refine .inr ⟨hgo, fun H'' => ∃ G', Stp G1 H1 G' H'' ∧ G' Dl = none ∧ H'' Dl = some (SetO w Dl (fun j => decide (j ∈ keepI f F (i + 1))) (dcount (keepI f F (i + 1)))), fun H'' z => ⟨us.length - (i + 1), by omega, rfl, hlt, z⟩, fun x H'' hy => ?_⟩
      obtain ⟨rfl, rfl⟩ := hyl _ _ hy
      refine ⟨wipe_set σ vs j _ hj, ?_⟩
      have gB := (((g0.up t1).up t2).wipe vs).set j (dx.up t2.gg)
      refine hT _ _ _ gB _ fun G3 H3 t3 => ?_
      have a3 : G3 Dl = none := t3.ow _ hG (by rw [hacc]; exact (fun e => nomatch e))
      cases hf : f i with
      | false =>
        rw [if_neg Bool.false_ne_true]
        exact ⟨G3, t2.trans t3, a3, by rw [keepI_no hf]; exact t3.hh _ _ hacc⟩
      | true =>
        rw [if_pos rfl]
        refine hE hf _ _ _ (gB.up t3) _ fun y G4 H4 t4 dy => ?_
        have a4 : G4 Dl = none := t4.ow _ a3 (by rw [t3.hh _ _ hacc]; exact (fun e => nomatch e))
        refine ⟨F i, _, _, dy.intV, t4.hh _ _ (t3.hh _ _ hacc), ?_, G4, ((t2.trans t3).trans t4).side hD a4, a4, ?_⟩
        · have := dcount_le (keepI f F i)
          have := keepI_len f F i
          have := hd.length
          omega
        · rw [keepI_yes hf, upd_same, set_step]
    · have hil : i = us.length := by omega
      refine .inl ⟨(hJ i H' (t2.gg.trans t2.gh)).1 hil, ?_⟩
      rw [hil, hd.length] at hacc
      exact q _ (upd G' Dl _) H' (t1.trans (t2.take hD hG hacc)) (.set upd_same)
end
end DL

set_option Elab.async false
set_option linter.all false
set_option maxRecDepth 100000
set_option maxHeartbeats 2000000
/-! comprehensions over the numbers below n -/
namespace DL
open PySem PySem.Spec PyProof.Rows L2
def fltN (n : Nat) (p : Nat → Bool) : List Nat := (List.range n).filter p
def allN (n : Nat) (p : Nat → Bool) : Bool := (List.range n).all p
def anyN (n : Nat) (p : Nat → Bool) : Bool := (List.range n).any p
theorem fltN_mem {n x : Nat} {p : Nat → Bool} : x ∈ fltN n p ↔ x < n ∧ p x = true := by
  unfold fltN
  rw [List.mem_filter, List.mem_range]
theorem allN_iff {n : Nat} {p : Nat → Bool} : allN n p = true ↔ ∀ x, x < n → p x = true := by
  unfold allN
  rw [List.all_eq_true]
  exact ⟨fun h x hx => h x (List.mem_range.mpr hx), fun h x hx => h x (List.mem_range.mp hx)⟩
theorem anyN_iff {n : Nat} {p : Nat → Bool} : anyN n p = true ↔ ∃ x, x < n ∧ p x = true := by
  unfold anyN
  rw [List.any_eq_true]
  exact ⟨fun ⟨x, hx, h⟩ => ⟨x, List.mem_range.mp hx, h⟩, fun ⟨x, hx, h⟩ => ⟨x, List.mem_range.mpr hx, h⟩⟩
theorem fltN_congr {n : Nat} {p q : Nat → Bool} (h : ∀ x, x < n → p x = q x) : fltN n p = fltN n q := List.filter_congr fun x hx => h x (List.mem_range.mp hx)
theorem fltN_len {n : Nat} {p : Nat → Bool} : (fltN n p).length ≤ n := by
  have := List.length_filter_le p (List.range n)
  rw [List.length_range] at this
  exact this
theorem fltN_nodup {n : Nat} {p : Nat → Bool} : (fltN n p).Nodup := List.nodup_range.filter _
theorem bool_congr {a b : Bool} (h : a = true ↔ b = true) : a = b := by
  cases a <;> cases b <;> simp_all
theorem allN_congr {n : Nat} {p q : Nat → Bool} (h : ∀ x, x < n → p x = q x) : allN n p = allN n q := bool_congr (by
  rw [allN_iff, allN_iff]
  exact ⟨fun z x hx => by rw [← h x hx]; exact z x hx, fun z x hx => by rw [h x hx]; exact z x hx⟩)
theorem anyN_congr {n : Nat} {p q : Nat → Bool} (h : ∀ x, x < n → p x = q x) : anyN n p = anyN n q := bool_congr (by
  rw [anyN_iff, anyN_iff]
  exact ⟨fun ⟨x, hx, z⟩ => ⟨x, hx, by rw [← h x hx]; exact z⟩, fun ⟨x, hx, z⟩ => ⟨x, hx, by rw [h x hx]; exact z⟩⟩)
theorem rgD_rng (n : Nat) : rgD 0 n = lstN (List.range n) := by
  unfold rgD lstN
  refine List.map_congr_left fun i _ => ?_
  show D.int (0 + (i : Nat)) = _
  rw [Int.zero_add]
theorem lstR_get {n i : Nat} {d : D} (h : (lstN (List.range n))[i]? = some d) : i < n ∧ d = .int (i : Nat) := by
  unfold lstN at h
  rw [List.getElem?_map] at h
  by_cases hi : i < n
  · rw [List.getElem?_range hi] at h
    exact ⟨hi, (Option.some.inj h).symm⟩
  · rw [List.getElem?_eq_none (by rw [List.length_range]; omega)] at h
    cases h
theorem lstR_len (n : Nat) : (lstN (List.range n)).length = n := by rw [lstN_len, List.length_range]
/-- the first of a list, or None -/
def hdD : List Nat → D
  | [] => .non
  | a :: _ => .int (a : Nat)
section
variable {K : PySem.W.Frag} {β : Bas} {env : Env'} {ta tb te tc to tl : TE} {tt tu : TT} {x y z d : D} {v : V} {w : World} {wi : TI} {n j : Nat} {vs : List Nat}
theorem ei_rngN (h : EV K β tl env (.rng 0 (n : Nat))) (hl : n < 1000000) : EVI K β (iRngO tl) env (lstN (List.range n)) := by
  have h1 := ei_rngO h (by omega)
  rw [show ((n : Nat) : Int) - 0 = (n : Int) by omega, Int.toNat_natCast, rgD_rng] at h1
  exact h1
theorem ei_rng1N (h : EV K β te env (.int (n : Nat))) (hl : n < 1000000) : EVI K β (iRng1 (tCons te tNil)) env (lstN (List.range n)) := by
  have h1 := ei_rng1 (ea_cons h ea_nil) (by omega) (by omega)
  rw [Int.toNat_natCast, rgD_rng] at h1
  exact h1
theorem ev_lcI {f : Nat → Bool} {F : Nat → D} (hI : EVI K β wi env (lstN (List.range n))) (hl : n < 1000000) (hj : j ∈ vs)
    (hs : ∀ (x : Nat) v, x < n → EVT K β tt ((wipeE env vs).set j (.val v (.int (x : Nat)))) (f x) ∧ (f x = true → EV K β te ((wipeE env vs).set j (.val v (.int (x : Nat)))) (F x))) :
    EV K β (tLc wi (gName j) tt te vs) env (.lst (keep f F n)) := by
  have h := ev_lcN (K := K) (β := β) (te := te) (tt := tt) (F := F) (f := f) hI (by rw [lstR_len, sizeLine_eq]; omega) hj (fun i v d hd => by
    obtain ⟨hi, rfl⟩ := lstR_get hd
    exact hs i v hi)
  rw [lstR_len] at h
  exact h
theorem ev_fltI {p : Nat → Bool} (hI : EVI K β wi env (lstN (List.range n))) (hl : n < 1000000) (hj : j ∈ vs)
    (hs : ∀ (x : Nat) v, x < n → EVT K β tt ((wipeE env vs).set j (.val v (.int (x : Nat)))) (p x)) (he : ∀ (x : Nat) v, x < n → EV K β te ((wipeE env vs).set j (.val v (.int (x : Nat)))) (.int (x : Nat))) :
    EV K β (tLc wi (gName j) tt te vs) env (.lst (lstN (fltN n p))) :=
  ev_lcI (F := fun x => .int (x : Nat)) hI hl hj fun x v hx => ⟨hs x v hx, fun _ => he x v hx⟩
theorem ev_mapI {F : Nat → D} (hI : EVI K β wi env (lstN (List.range n))) (hl : n < 1000000) (hj : j ∈ vs)
    (hs : ∀ (x : Nat) v, x < n → EV K β te ((wipeE env vs).set j (.val v (.int (x : Nat)))) (F x)) :
    EV K β (tLc wi (gName j) tYes te vs) env (.lst ((List.range n).map F)) := by
  rw [← keep_all]
  exact ev_lcI hI hl hj fun x v hx => ⟨et_yes, fun _ => hs x v hx⟩
theorem ev_allI {q : Nat → Bool} (hI : EVI K β wi env (lstN (List.range n))) (hl : n < 1000000) (hj : j ∈ vs)
    (hs : ∀ (x : Nat) v, x < n → EV K β te ((wipeE env vs).set j (.val v (.int (x : Nat)))) (.bl (q x))) :
    EV K β (tCB (rAll K) (tCons (tLc wi (gName j) tYes te vs) tNil)) env (.bl (allN n q)) := by
  have h := ev_mapI (F := fun x => .bl (q x)) hI hl hj hs
  rw [show ((List.range n).map fun x => D.bl (q x)) = ((List.range n).map q).map D.bl by rw [List.map_map]; rfl] at h
  refine ev_is (ev_cb (ea_cons h ea_nil) cb_all) ?_
  unfold allN
  rw [List.all_map]
  rfl
theorem ev_anyI {q : Nat → Bool} (hI : EVI K β wi env (lstN (List.range n))) (hl : n < 1000000) (hj : j ∈ vs)
    (hs : ∀ (x : Nat) v, x < n → EV K β te ((wipeE env vs).set j (.val v (.int (x : Nat)))) (.bl (q x))) :
    EV K β (tCB (rAny K) (tCons (tLc wi (gName j) tYes te vs) tNil)) env (.bl (anyN n q)) := by
  have h := ev_mapI (F := fun x => .bl (q x)) hI hl hj hs
  rw [show ((List.range n).map fun x => D.bl (q x)) = ((List.range n).map q).map D.bl by rw [List.map_map]; rfl] at h
  refine ev_is (ev_cb (ea_cons h ea_nil) cb_any) ?_
  unfold anyN
  rw [List.any_map]
  rfl
theorem op_eqN {a b : Nat} : OpD K rEq (.int (a : Nat)) (.int (b : Nat)) (.bl (decide (a = b))) := by
  have h := op_eqI (K := K) (i := (a : Nat)) (j := (b : Nat))
  rw [decide_eq_decide.mpr (show ((a : Nat) : Int) = ((b : Nat) : Int) ↔ a = b by omega)] at h
  exact h
theorem op_neLN {l : List Nat} : OpD K (rNeD K) (.lst (lstN l)) (.lst []) (.bl (!decide (l = []))) := op_neLL (b := [])
theorem op_neTN {l : List Nat} : OpD K (rNeD K) (tupN l) (.tup []) (.bl (!decide (l = []))) := op_neTT (b := [])
theorem ev_hdI {l : List Nat} (h : EV K β te env (.lst (lstN l))) (ht : EVT K β tt env (!decide (l = []))) : EV K β (tIf tt (tOp (rIx K) te (tC (.int 0))) (tC .non)) env (hdD l) := by
  cases l with
  | nil => exact ev_if (b := false) ht (fun h => nomatch h) fun _ => ev_non
  | cons a l => exact ev_if (b := true) ht (fun _ => ev_op h (ev_int (i := 0)) (op_ix (.inr rfl) (atI_natD (j := 0) rfl))) fun h => nomatch h
theorem un_tupN {l : List Nat} : UnD K (kTup K) (.lst (lstN l)) (tupN l) := un_tupL
/-- the rows of a table as numbers -/
theorem cb_setRow {f : Nat → Nat} (hl : n ≤ 4000) : CbD K (rSetOf K w) [rowD n f] (setW w ((List.range n).map fun y => ((f y : Nat) : Int))) :=
  cb_setOf (.inl (by unfold rowD; rw [List.map_map]; rfl)) (by simp; omega)
end
end DL

set_option Elab.async false
set_option linter.all false
set_option maxRecDepth 100000
set_option maxHeartbeats 2000000
/-! powers of an element, in plain numbers -/
namespace MP
def pw (f : Nat → Nat → Nat) (x : Nat) : Nat → Nat
  | 0 => x
  | k + 1 => f (pw f x k) x
structure Shape (f : Nat → Nat → Nat) (x m r : Nat) : Prop where
  rm : r < m
  dis : ∀ i j, i < m → j < m → pw f x i = pw f x j → i = j
  rep : pw f x m = pw f x r
section
variable {f : Nat → Nat → Nat} {n x m r : Nat}
theorem pw_lt (h : ∀ a b, a < n → b < n → f a b < n) (hx : x < n) : ∀ k, pw f x k < n
  | 0 => hx
  | k + 1 => h _ _ (pw_lt h hx k) hx
theorem nodup_le : ∀ (l D : List Nat), l.Nodup → (∀ x ∈ l, x ∈ D) → l.length ≤ D.length
  | [], _, _, _ => Nat.zero_le _
  | a :: l, D, hn, hs => by
    have ha : a ∈ D := hs a List.mem_cons_self
    obtain ⟨hna, hnl⟩ := List.nodup_cons.mp hn
    have := nodup_le l (D.erase a) hnl fun x hx => (List.mem_erase_of_ne (fun e => hna (by rw [← e]; exact hx))).mpr (hs x (List.mem_cons_of_mem _ hx))
    rw [List.length_erase_of_mem ha] at this
    have h1 : 1 ≤ D.length := List.length_pos_of_mem ha
    rw [List.length_cons]
    omega
theorem range_le {g : Nat → Nat} {k : Nat} (hg : ∀ i, i < k → g i < n) (hd : ∀ i j, i < k → j < k → g i = g j → i = j) : k ≤ n := by
  have := nodup_le ((List.range k).map g) (List.range n) ?_ ?_
  · simpa using this
  · rw [List.nodup_iff_pairwise_ne, List.pairwise_map]
    refine (List.pairwise_lt_range (n := k)).imp_of_mem ?_
    intro a b ha hb hlt e
    have := hd a b (List.mem_range.mp ha) (List.mem_range.mp hb) e
    omega
  · intro y hy
    obtain ⟨i, hi, rfl⟩ := List.mem_map.mp hy
    exact List.mem_range.mpr (hg i (List.mem_range.mp hi))
theorem shape_ex (h : ∀ a b, a < n → b < n → f a b < n) (hx : x < n) : ∃ m r, Shape f x m r ∧ m ≤ n := by
  have ex : ∃ k, ∃ i, i < k ∧ pw f x k = pw f x i := by
    by_cases c : ∃ k, ∃ i, i < k ∧ pw f x k = pw f x i
    · exact c
    · exfalso
      have := range_le (n := n) (g := pw f x) (k := n + 1) (fun i _ => pw_lt h hx i) (fun i j _ _ e => by
        rcases Nat.lt_trichotomy i j with q | q | q
        · exact absurd ⟨j, i, q, e.symm⟩ c
        · exact q
        · exact absurd ⟨i, j, q, e⟩ c)
      omega
  have least : ∀ k, (∃ i, i < k ∧ pw f x k = pw f x i) → ∃ m, (∃ i, i < m ∧ pw f x m = pw f x i) ∧ ∀ m', m' < m → ¬ ∃ i, i < m' ∧ pw f x m' = pw f x i := by
    intro k
    induction k using Nat.strongRecOn with
    | _ k ih =>
      intro hk
      by_cases c : ∃ k', k' < k ∧ ∃ i, i < k' ∧ pw f x k' = pw f x i
      · obtain ⟨k', h1, h2⟩ := c
        exact ih k' h1 h2
      · exact ⟨k, hk, fun m' h1 h2 => c ⟨m', h1, h2⟩⟩
  obtain ⟨k, hk⟩ := ex
  obtain ⟨m, ⟨r, hr, he⟩, hm⟩ := least k hk
  have dis : ∀ i j, i < m → j < m → pw f x i = pw f x j → i = j := fun i j hi hj e => by
    rcases Nat.lt_trichotomy i j with q | q | q
    · exact absurd ⟨i, q, e.symm⟩ (hm j hj)
    · exact q
    · exact absurd ⟨j, q, e⟩ (hm i hi)
  exact ⟨m, r, ⟨hr, dis, he⟩, range_le (fun i _ => pw_lt h hx i) dis⟩
theorem Shape.per (S : Shape f x m r) : ∀ k, pw f x (r + k + (m - r)) = pw f x (r + k)
  | 0 => by rw [Nat.add_zero, show r + (m - r) = m by have := S.rm; omega]; exact S.rep
  | k + 1 => by
    rw [show r + (k + 1) + (m - r) = (r + k + (m - r)) + 1 by omega, show r + (k + 1) = (r + k) + 1 by omega]
    show f (pw f x (r + k + (m - r))) x = f (pw f x (r + k)) x
    rw [S.per k]
theorem Shape.mod (S : Shape f x m r) (k : Nat) : pw f x (r + k) = pw f x (r + k % (m - r)) := by
  have hp : 0 < m - r := by have := S.rm; omega
  induction k using Nat.strongRecOn with
  | _ k ih =>
    by_cases c : k < m - r
    · rw [Nat.mod_eq_of_lt c]
    · have e : r + k = r + (k - (m - r)) + (m - r) := by omega
      rw [e, S.per, ih (k - (m - r)) (by omega), Nat.mod_eq_sub_mod (by omega : k ≥ m - r)]
theorem Shape.uniq {m' r' : Nat} (S : Shape f x m r) (S' : Shape f x m' r') : m = m' ∧ r = r' := by
  have e : m = m' := by
    rcases Nat.lt_trichotomy m m' with q | q | q
    · have := S'.dis m r q (Nat.lt_trans S.rm q) S.rep
      have := S.rm; omega
    · exact q
    · have := S.dis m' r' q (Nat.lt_trans S'.rm q) S'.rep
      have := S'.rm; omega
  subst e
  exact ⟨rfl, S.dis r r' S.rm S'.rm (S.rep.symm.trans S'.rep)⟩
/-- products of powers -/
theorem pw_add (h : ∀ a b, a < n → b < n → f a b < n) (hx : x < n) (as : ∀ a b c, a < n → b < n → c < n → f (f a b) c = f a (f b c)) (a : Nat) : ∀ b, f (pw f x a) (pw f x b) = pw f x (a + b + 1)
  | 0 => rfl
  | b + 1 => by
    show f (pw f x a) (f (pw f x b) x) = f (pw f x (a + b + 1)) x
    rw [← as _ _ _ (pw_lt h hx a) (pw_lt h hx b) hx, pw_add h hx as a b]
end
end MP

set_option Elab.async false
set_option linter.all false
set_option maxRecDepth 100000
set_option maxHeartbeats 2000000
/-! transformations that come from some, in plain lists -/
namespace MP
def comp (a b : List Nat) : List Nat := a.map fun i => b.getD i 0
def Mv (p : Nat) (a : List Nat) : Prop := a.length = p ∧ ∀ i ∈ a, i < p
theorem getD_mem {b : List Nat} {i : Nat} (h : i < b.length) : b.getD i 0 ∈ b := by
  rw [List.getD_eq_getElem?_getD, List.getElem?_eq_getElem h]
  exact List.getElem_mem h
theorem Mv.comp {p : Nat} {a b : List Nat} (ha : Mv p a) (hb : Mv p b) : Mv p (comp a b) := by
  refine ⟨by unfold MP.comp; rw [List.length_map]; exact ha.1, fun i hi => ?_⟩
  unfold MP.comp at hi
  obtain ⟨j, hj, rfl⟩ := List.mem_map.mp hi
  exact hb.2 _ (getD_mem (by rw [hb.1]; exact ha.2 j hj))
theorem comp_assoc {p : Nat} {a b c : List Nat} (ha : Mv p a) (hb : Mv p b) : comp (comp a b) c = comp a (comp b c) := by
  unfold comp
  rw [List.map_map]
  refine List.map_congr_left fun i hi => ?_
  have h := ha.2 i hi
  show c.getD (b.getD i 0) 0 = (b.map fun i => c.getD i 0).getD i 0
  rw [List.getD_eq_getElem?_getD (l := b.map _), List.getElem?_map, List.getD_eq_getElem?_getD (l := b), List.getElem?_eq_getElem (by rw [hb.1]; exact h)]
  rfl
/-- one turn: what is found at a place, followed by each move -/
def addL (acc : List (List Nat)) (a : List Nat) : List (List Nat) := if a ∈ acc then acc else acc ++ [a]
def stepL (ms : List (List Nat)) (x : List Nat) (found : List (List Nat)) : List (List Nat) := ms.foldl (fun acc m => addL acc (comp x m)) found
def fmL (ms : List (List Nat)) (most : Nat) : Nat → List (List Nat) → Nat → Option (List (List Nat))
  | 0, _, _ => none
  | k + 1, found, at' => match found[at']? with
    | some x => if most < (stepL ms x found).length then none else fmL ms most k (stepL ms x found) (at' + 1)
    | none => some found
theorem addL_pre {acc : List (List Nat)} {a : List Nat} : ∃ t, addL acc a = acc ++ t := by
  unfold addL
  split
  · exact ⟨[], by rw [List.append_nil]⟩
  · exact ⟨[a], rfl⟩
theorem addL_mem {acc : List (List Nat)} {a : List Nat} : a ∈ addL acc a := by
  unfold addL
  split
  · assumption
  · exact List.mem_append.mpr (.inr List.mem_cons_self)
theorem addL_of {acc : List (List Nat)} {a y : List Nat} (h : y ∈ addL acc a) : y ∈ acc ∨ y = a := by
  unfold addL at h
  split at h
  · exact .inl h
  · rcases List.mem_append.mp h with h | h
    · exact .inl h
    · exact .inr (List.mem_singleton.mp h)
theorem stepL_pre {x : List Nat} : ∀ (ms found : List (List Nat)), ∃ t, stepL ms x found = found ++ t
  | [], found => ⟨[], by rw [List.append_nil]; rfl⟩
  | m :: ms, found => by
    obtain ⟨t1, h1⟩ := addL_pre (acc := found) (a := comp x m)
    obtain ⟨t2, h2⟩ := stepL_pre (x := x) ms (addL found (comp x m))
    refine ⟨t1 ++ t2, ?_⟩
    show stepL ms x (addL found (comp x m)) = _
    rw [h2, h1, List.append_assoc]
theorem stepL_has {x : List Nat} : ∀ (ms found : List (List Nat)) (m : List Nat), m ∈ ms → comp x m ∈ stepL ms x found
  | m' :: ms, found, m, h => by
    rcases List.mem_cons.mp h with rfl | h
    · obtain ⟨t2, h2⟩ := stepL_pre (x := x) ms (addL found (comp x m))
      show comp x m ∈ stepL ms x (addL found (comp x m))
      rw [h2]
      exact List.mem_append.mpr (.inl addL_mem)
    · exact stepL_has ms (addL found (comp x m')) m h
theorem stepL_of {x : List Nat} : ∀ (ms found : List (List Nat)) (y : List Nat), y ∈ stepL ms x found → y ∈ found ∨ ∃ m, m ∈ ms ∧ y = comp x m
  | [], found, y, h => .inl h
  | m :: ms, found, y, h => by
    rcases stepL_of (x := x) ms (addL found (comp x m)) y h with h | ⟨m', hm, e⟩
    · rcases addL_of h with h | h
      · exact .inl h
      · exact .inr ⟨m, List.mem_cons_self, h⟩
    · exact .inr ⟨m', List.mem_cons_of_mem _ hm, e⟩
inductive Gen (ms : List (List Nat)) : List Nat → Prop
  | base {m : List Nat} : m ∈ ms → Gen ms m
  | step {x m : List Nat} : Gen ms x → m ∈ ms → Gen ms (comp x m)
structure Inv (p : Nat) (ms found : List (List Nat)) (at' : Nat) : Prop where
  mv : ∀ m ∈ ms, Mv p m
  base : ∀ m ∈ ms, m ∈ found
  gen : ∀ y ∈ found, Gen ms y
  cl : ∀ i x, i < at' → found[i]? = some x → ∀ m ∈ ms, comp x m ∈ found
theorem Gen.mv {p : Nat} {ms : List (List Nat)} (h : ∀ m ∈ ms, Mv p m) {y : List Nat} (g : Gen ms y) : Mv p y := by
  induction g with
  | base hm => exact h _ hm
  | step _ hm ih => exact ih.comp (h _ hm)
theorem Inv.next {p : Nat} {ms found : List (List Nat)} {at' : Nat} {x : List Nat} (I : Inv p ms found at') (hx : found[at']? = some x) : Inv p ms (stepL ms x found) (at' + 1) := by
  obtain ⟨t, ht⟩ := stepL_pre (x := x) ms found
  have hxm : x ∈ found := List.mem_of_getElem? hx
  refine ⟨I.mv, fun m hm => by rw [ht]; exact List.mem_append.mpr (.inl (I.base m hm)), fun y hy => ?_, fun i y hi hy m hm => ?_⟩
  · rcases stepL_of ms found y hy with h | ⟨m, hm, rfl⟩
    · exact I.gen y h
    · exact .step (I.gen x hxm) hm
  · have hl : at' < found.length := (List.getElem?_eq_some_iff.mp hx).1
    have hy' : found[i]? = some y := by
      rw [ht, List.getElem?_append_left (by omega)] at hy
      exact hy
    by_cases e : i = at'
    · subst e
      rw [hx] at hy'
      cases hy'
      exact stepL_has ms found m hm
    · rw [ht]
      exact List.mem_append.mpr (.inl (I.cl i y (by omega) hy' m hm))
theorem fmL_inv {p : Nat} {ms : List (List Nat)} {most : Nat} : ∀ (k : Nat) (found : List (List Nat)) (at' : Nat) (L : List (List Nat)), Inv p ms found at' → (at' = 0 ∨ found.length ≤ most) → found ≠ [] → fmL ms most k found at' = some L → (∃ at2, L.length ≤ at2 ∧ Inv p ms L at2) ∧ L.length ≤ most ∧ L ≠ []
  | 0, _, _, _, _, _, _, h => by cases h
  | k + 1, found, at', L, I, hm, hne, h => by
    unfold fmL at h
    cases q : found[at']? with
    | some x =>
      rw [q] at h
      by_cases c : most < (stepL ms x found).length
      · simp only [if_pos c] at h
        cases h
      · simp only [if_neg c] at h
        refine fmL_inv k _ _ L (I.next q) (.inr (by omega)) ?_ h
        obtain ⟨t, ht⟩ := stepL_pre (x := x) ms found
        rw [ht]
        intro e
        exact hne (List.append_eq_nil_iff.mp e).1
    | none =>
      rw [q] at h
      cases h
      have hl := List.getElem?_eq_none_iff.mp q
      refine ⟨⟨at', hl, I⟩, ?_, hne⟩
      rcases hm with rfl | hm
      · exact absurd (List.eq_nil_of_length_eq_zero (Nat.le_zero.mp hl)) hne
      · exact hm
theorem Inv.closed {p : Nat} {ms L : List (List Nat)} {at2 : Nat} (I : Inv p ms L at2) (h : L.length ≤ at2) {x y : List Nat} (hx : x ∈ L) (hy : y ∈ L) : comp x y ∈ L := by
  have cl : ∀ x ∈ L, ∀ m ∈ ms, comp x m ∈ L := fun x hx m hm => by
    obtain ⟨i, hi⟩ := List.mem_iff_getElem?.mp hx
    exact I.cl i x (Nat.lt_of_lt_of_le (List.getElem?_eq_some_iff.mp hi).1 h) hi m hm
  have key : ∀ y, Gen ms y → ∀ x ∈ L, comp x y ∈ L := fun y g => by
    induction g with
    | base hm => exact fun x hx => cl x hx _ hm
    | @step y m gy hm ih =>
      intro x hx
      rw [← comp_assoc (p := p) ((I.gen x hx).mv I.mv) (gy.mv I.mv)]
      exact cl _ (ih x hx) m hm
  exact key y (I.gen y hy) x hx
/-- the table of such a lot -/
def idxT (L : List (List Nat)) (x y : Nat) : Nat := L.idxOf (comp (L.getD x []) (L.getD y []))
theorem getD_memL {L : List (List Nat)} {i : Nat} (h : i < L.length) : L.getD i [] ∈ L := by
  rw [List.getD_eq_getElem?_getD, List.getElem?_eq_getElem h]
  exact List.getElem_mem h
theorem idxT_lt {L : List (List Nat)} (h : ∀ x ∈ L, ∀ y ∈ L, comp x y ∈ L) {a b : Nat} (ha : a < L.length) (hb : b < L.length) : idxT L a b < L.length :=
  List.idxOf_lt_length_iff.mpr (h _ (getD_memL ha) _ (getD_memL hb))
theorem idxT_get {L : List (List Nat)} (h : ∀ x ∈ L, ∀ y ∈ L, comp x y ∈ L) {a b : Nat} (ha : a < L.length) (hb : b < L.length) : L.getD (idxT L a b) [] = comp (L.getD a []) (L.getD b []) := by
  have hl := idxT_lt h ha hb
  rw [List.getD_eq_getElem?_getD, List.getElem?_eq_getElem hl]
  exact List.getElem_idxOf hl
theorem idxT_assoc {p : Nat} {L : List (List Nat)} (hm : ∀ x ∈ L, Mv p x) (h : ∀ x ∈ L, ∀ y ∈ L, comp x y ∈ L) {a b c : Nat} (ha : a < L.length) (hb : b < L.length) (hc : c < L.length) : idxT L (idxT L a b) c = idxT L a (idxT L b c) := by
  unfold idxT
  rw [show L.getD (L.idxOf (comp (L.getD a []) (L.getD b []))) [] = _ from idxT_get h ha hb, show L.getD (L.idxOf (comp (L.getD b []) (L.getD c []))) [] = _ from idxT_get h hb hc]
  rw [comp_assoc (hm _ (getD_memL ha)) (hm _ (getD_memL hb))]
end MP

set_option Elab.async false
set_option linter.all false
set_option maxRecDepth 100000
set_option maxHeartbeats 2000000
/-! semigroups of simple kinds, relabelled ones, one element more, in plain numbers -/
namespace MP
structure Semi (n : Nat) (f : Nat → Nat → Nat) : Prop where
  cl : ∀ a b, a < n → b < n → f a b < n
  as : ∀ a b c, a < n → b < n → c < n → f (f a b) c = f a (f b c)
theorem Semi.congr {n : Nat} {f g : Nat → Nat → Nat} (h : Semi n f) (e : ∀ a b, a < n → b < n → g a b = f a b) : Semi n g :=
  ⟨fun a b ha hb => by rw [e a b ha hb]; exact h.cl a b ha hb, fun a b c ha hb hc => by
    rw [e a b ha hb, e b c hb hc, e _ _ (h.cl a b ha hb) hc, e _ _ ha (h.cl b c hb hc)]
    exact h.as a b c ha hb hc⟩
theorem semi_left (n : Nat) : Semi n (fun x _ => x) := ⟨fun _ _ h _ => h, fun _ _ _ _ _ _ => rfl⟩
theorem semi_right (n : Nat) : Semi n (fun _ y => y) := ⟨fun _ _ _ h => h, fun _ _ _ _ _ _ => rfl⟩
theorem semi_null {n : Nat} (h : 0 < n) : Semi n (fun _ _ => 0) := ⟨fun _ _ _ _ => h, fun _ _ _ _ _ _ => rfl⟩
theorem semi_min (n : Nat) : Semi n (fun x y => if y < x then y else x) :=
  ⟨fun a b ha hb => by show (if b < a then b else a) < n; split <;> assumption, fun a b c _ _ _ => by show (if c < (if b < a then b else a) then c else (if b < a then b else a)) = (if (if c < b then c else b) < a then (if c < b then c else b) else a); by_cases h1 : b < a <;> by_cases h2 : c < b <;> by_cases h3 : c < a <;> simp [h1, h2, h3] <;> omega⟩
theorem semi_clock {n : Nat} (h : 0 < n) : Semi n (fun x y => (x + y) % n) :=
  ⟨fun a b _ _ => Nat.mod_lt _ h, fun a b c _ _ _ => by
    show ((a + b) % n + c) % n = (a + (b + c) % n) % n
    rw [Nat.mod_add_mod, Nat.add_mod_mod, Nat.add_assoc]⟩
/-- the powers of one element, with the index i, m elements -/
def stp (i m k : Nat) : Nat := if k < m then k else i - 1 + (k + 1 - i) % (m + 1 - i)
theorem stp_eq {i m k : Nat} (h1 : 1 ≤ i) (h2 : i ≤ m) : stp i m k = if k < i - 1 then k else i - 1 + (k - (i - 1)) % (m + 1 - i) := by
  unfold stp
  by_cases a : k < i - 1
  · rw [if_pos a, if_pos (by omega)]
  · rw [if_neg a]
    by_cases b : k < m
    · rw [if_pos b, Nat.mod_eq_of_lt (by omega)]
      omega
    · rw [if_neg b, show k + 1 - i = k - (i - 1) by omega]
theorem stp_lt {i m k : Nat} (h1 : 1 ≤ i) (h2 : i ≤ m) : stp i m k < m := by
  rw [stp_eq h1 h2]
  split
  · omega
  · have := Nat.mod_lt (k - (i - 1)) (show 0 < m + 1 - i by omega)
    omega
theorem stp_add {i m k j : Nat} (h1 : 1 ≤ i) (h2 : i ≤ m) : stp i m (stp i m k + j) = stp i m (k + j) := by
  rw [stp_eq (k := k) h1 h2]
  split
  · rfl
  · rename_i a
    rw [stp_eq h1 h2, stp_eq h1 h2, if_neg (by omega), if_neg (by omega)]
    congr 1
    rw [show i - 1 + (k - (i - 1)) % (m + 1 - i) + j - (i - 1) = (k - (i - 1)) % (m + 1 - i) + j by omega, Nat.mod_add_mod, show k - (i - 1) + j = k + j - (i - 1) by omega]
theorem semi_mono {i m : Nat} (h1 : 1 ≤ i) (h2 : i ≤ m) : Semi m (fun x y => stp i m (x + y + 1)) :=
  ⟨fun a b _ _ => stp_lt h1 h2, fun a b c _ _ _ => by
    show stp i m (stp i m (a + b + 1) + c + 1) = stp i m (a + stp i m (b + c + 1) + 1)
    rw [show stp i m (a + b + 1) + c + 1 = stp i m (a + b + 1) + (c + 1) by omega, stp_add h1 h2, show a + stp i m (b + c + 1) + 1 = stp i m (b + c + 1) + (a + 1) by omega, stp_add h1 h2]
    congr 1
    omega⟩
theorem rect_lt {l r a b : Nat} (ha : a < l * r) (hr : 0 < r) : a / r * r + b % r < l * r := by
  have h1 : a / r < l := Nat.div_lt_of_lt_mul (by rw [Nat.mul_comm]; exact ha)
  have h2 := Nat.mod_lt b hr
  calc a / r * r + b % r < a / r * r + r := by omega
    _ = (a / r + 1) * r := by rw [Nat.succ_mul]
    _ ≤ l * r := Nat.mul_le_mul_right r h1
theorem semi_rect {l r : Nat} (hr : 0 < r) : Semi (l * r) (fun x y => x / r * r + y % r) :=
  ⟨fun a b ha _ => rect_lt ha hr, fun a b c _ _ _ => by
    show (a / r * r + b % r) / r * r + c % r = a / r * r + (b / r * r + c % r) % r
    rw [Nat.mul_comm (a / r) r, Nat.mul_add_div hr, Nat.div_eq_of_lt (Nat.mod_lt b hr), Nat.add_zero, Nat.mul_comm (b / r) r, Nat.mul_add_mod, Nat.mod_mod, Nat.mul_comm r (a / r)]⟩
/-- an identity more -/
def idF (n : Nat) (f : Nat → Nat → Nat) (x y : Nat) : Nat := if x < n then (if y < n then f x y else x) else y
theorem semi_id {n : Nat} {f : Nat → Nat → Nat} (h : Semi n f) : Semi (n + 1) (idF n f) := by
  refine ⟨fun a b ha hb => ?_, fun a b c ha hb hc => ?_⟩
  · unfold idF
    by_cases h1 : a < n
    · rw [if_pos h1]
      by_cases h2 : b < n
      · rw [if_pos h2]; have := h.cl a b h1 h2; omega
      · rw [if_neg h2]; exact ha
    · rw [if_neg h1]; exact hb
  · unfold idF
    by_cases h1 : a < n <;> by_cases h2 : b < n <;> by_cases h3 : c < n <;> simp only [h1, h2, h3, if_true, if_false, h.cl] 
    · exact h.as a b c h1 h2 h3
/-- a zero more -/
def zeF (n : Nat) (f : Nat → Nat → Nat) (x y : Nat) : Nat := if x < n then (if y < n then f x y else n) else n
theorem semi_ze {n : Nat} {f : Nat → Nat → Nat} (h : Semi n f) : Semi (n + 1) (zeF n f) := by
  refine ⟨fun a b ha hb => ?_, fun a b c ha hb hc => ?_⟩
  · unfold zeF
    by_cases h1 : a < n
    · rw [if_pos h1]
      by_cases h2 : b < n
      · rw [if_pos h2]; have := h.cl a b h1 h2; omega
      · rw [if_neg h2]; omega
    · rw [if_neg h1]; omega
  · unfold zeF
    by_cases h1 : a < n <;> by_cases h2 : b < n <;> by_cases h3 : c < n <;> simp [h1, h2, h3, h.cl]
    · exact h.as a b c h1 h2 h3
/-- other names -/
def relF (f : Nat → Nat → Nat) (ns : List Nat) (x y : Nat) : Nat := ns.getD (f (ns.idxOf x) (ns.idxOf y)) 0
theorem perm_facts {n : Nat} {ns : List Nat} (h : ns.Perm (List.range n)) : ns.length = n ∧ (∀ x, x < n → x ∈ ns) ∧ (∀ x ∈ ns, x < n) ∧ ns.Nodup :=
  ⟨by rw [h.length_eq, List.length_range], fun x hx => h.mem_iff.mpr (List.mem_range.mpr hx), fun x hx => List.mem_range.mp (h.mem_iff.mp hx), h.nodup_iff.mpr List.nodup_range⟩
theorem idx_lt {n : Nat} {ns : List Nat} (h : ns.Perm (List.range n)) {x : Nat} (hx : x < n) : ns.idxOf x < n := by
  obtain ⟨h1, h2, _⟩ := perm_facts h
  rw [← h1]
  exact List.idxOf_lt_length_iff.mpr (h2 x hx)
theorem get_lt {n : Nat} {ns : List Nat} (h : ns.Perm (List.range n)) {i : Nat} (hi : i < n) : ns.getD i 0 < n := by
  obtain ⟨h1, _, h3, _⟩ := perm_facts h
  rw [← h1] at hi
  rw [List.getD_eq_getElem?_getD, List.getElem?_eq_getElem hi]
  exact h3 _ (List.getElem_mem hi)
theorem idx_get {n : Nat} {ns : List Nat} (h : ns.Perm (List.range n)) {i : Nat} (hi : i < n) : ns.idxOf (ns.getD i 0) = i := by
  obtain ⟨h1, _, _, h4⟩ := perm_facts h
  rw [← h1] at hi
  rw [List.getD_eq_getElem?_getD, List.getElem?_eq_getElem hi]
  exact h4.idxOf_getElem i hi
theorem get_idx {n : Nat} {ns : List Nat} (h : ns.Perm (List.range n)) {x : Nat} (hx : x < n) : ns.getD (ns.idxOf x) 0 = x := by
  have hl : ns.idxOf x < ns.length := List.idxOf_lt_length_iff.mpr ((perm_facts h).2.1 x hx)
  rw [List.getD_eq_getElem?_getD, List.getElem?_eq_getElem hl]
  exact List.getElem_idxOf hl
theorem semi_rel {n : Nat} {f : Nat → Nat → Nat} {ns : List Nat} (h : Semi n f) (hp : ns.Perm (List.range n)) : Semi n (relF f ns) := by
  refine ⟨fun a b ha hb => get_lt hp (h.cl _ _ (idx_lt hp ha) (idx_lt hp hb)), fun a b c ha hb hc => ?_⟩
  have ia := idx_lt hp ha
  have ib := idx_lt hp hb
  have ic := idx_lt hp hc
  unfold relF
  rw [idx_get hp (h.cl _ _ ia ib), idx_get hp (h.cl _ _ ib ic), h.as _ _ _ ia ib ic]
theorem semi_idx {p : Nat} {L : List (List Nat)} (hm : ∀ x ∈ L, Mv p x) (h : ∀ x ∈ L, ∀ y ∈ L, comp x y ∈ L) : Semi L.length (idxT L) :=
  ⟨fun _ _ ha hb => idxT_lt h ha hb, fun _ _ _ ha hb hc => idxT_assoc hm h ha hb hc⟩
end MP

set_option Elab.async false
set_option linter.all false
/-! plain: a finite semigroup in which all rows and columns have different members is a group -/
namespace MP
theorem inj_surj {n : Nat} {g : Nat → Nat} (hl : ∀ x, x < n → g x < n) (hi : ((List.range n).map g).Nodup) {t : Nat} (ht : t < n) : ∃ x, x < n ∧ g x = t := by
  by_cases c : t ∈ (List.range n).map g
  · obtain ⟨x, hx, e⟩ := List.mem_map.mp c
    exact ⟨x, List.mem_range.mp hx, e⟩
  · exfalso
    have h1 : (t :: (List.range n).map g).Nodup := List.nodup_cons.mpr ⟨c, hi⟩
    have h2 := nodup_le _ (List.range n) h1 fun x hx => by
      rcases List.mem_cons.mp hx with rfl | hx
      · exact List.mem_range.mpr ht
      · obtain ⟨y, hy, rfl⟩ := List.mem_map.mp hx
        exact List.mem_range.mpr (hl y (List.mem_range.mp hy))
    rw [List.length_cons, List.length_map, List.length_range] at h2
    omega
theorem inj_of {n : Nat} {g : Nat → Nat} (hi : ((List.range n).map g).Nodup) {a b : Nat} (ha : a < n) (hb : b < n) (h : g a = g b) : a = b := by
  rw [List.nodup_iff_pairwise_ne, List.pairwise_map, List.pairwise_iff_getElem] at hi
  rcases Nat.lt_trichotomy a b with c | c | c
  · have q := hi a b (by simpa using ha) (by simpa using hb) c
    rw [List.getElem_range, List.getElem_range] at q
    exact absurd h q
  · exact c
  · have q := hi b a (by simpa using hb) (by simpa using ha) c
    rw [List.getElem_range, List.getElem_range] at q
    exact absurd h.symm q
/-- an identity, and every member with an inverse -/
theorem cancel_group {n : Nat} {f : Nat → Nat → Nat} (hn : 1 ≤ n) (hc : ∀ a b, a < n → b < n → f a b < n) (ha : ∀ a b c, a < n → b < n → c < n → f (f a b) c = f a (f b c))
    (hr : ∀ x, x < n → ((List.range n).map (f x)).Nodup) (hl : ∀ x, x < n → ((List.range n).map fun y => f y x).Nodup) :
    ∃ e, e < n ∧ (∀ x, x < n → f e x = x ∧ f x e = x) ∧ ∀ x, x < n → ∃ y, y < n ∧ f x y = e ∧ f y x = e := by
  obtain ⟨e, he, h0⟩ := inj_surj (g := f 0) (fun x hx => hc 0 x hn hx) (hr 0 hn) hn
  have hL : ∀ z, z < n → f e z = z := fun z hz => inj_of (hr 0 hn) (hc e z he hz) hz (by rw [← ha 0 e z hn he hz, h0])
  have hR : ∀ z, z < n → f z e = z := fun z hz => inj_of (hl z hz) (hc z e hz he) hz (show f (f z e) z = f z z by rw [ha z e z hz he hz, hL z hz])
  refine ⟨e, he, fun x hx => ⟨hL x hx, hR x hx⟩, fun x hx => ?_⟩
  obtain ⟨y, hy, hxy⟩ := inj_surj (g := f x) (fun y hy => hc x y hx hy) (hr x hx) he
  refine ⟨y, hy, hxy, inj_of (hl y hy) (hc y x hy hx) he (show f (f y x) y = f e y from ?_)⟩
  rw [ha y x y hy hx hy, hxy, hR y hy, hL y hy]
end MP

set_option Elab.async false
set_option linter.all false
set_option maxRecDepth 100000
set_option maxHeartbeats 2000000
namespace Kx
open PySem PySem.Spec PyProof.Rows L2 DL
def topS (i : Nat) : Stmt := PySem.Challenge.pw_semigroupbench_k12_special_elements.main.body.getD i (.Pass ⟨0, 0, 0, 0⟩)
abbrev s_is_integer : Stmt := topS 5
abbrev n_is_integer : List Str := ["value"]
abbrev p_is_integer : List Str := ["value"]
theorem sc_is_integer : FnScope n_is_integer p_is_integer (defScope s_is_integer) := ⟨rfl, rfl, rfl, by decide +kernel, rfl, by decide +kernel, by decide +kernel⟩
abbrev s_is_within : Stmt := topS 6
abbrev n_is_within : List Str := ["value", "low", "high"]
abbrev p_is_within : List Str := ["value", "low", "high"]
theorem sc_is_within : FnScope n_is_within p_is_within (defScope s_is_within) := ⟨rfl, rfl, rfl, by decide +kernel, rfl, by decide +kernel, by decide +kernel⟩
abbrev s_is_index : Stmt := topS 7
abbrev n_is_index : List Str := ["value", "many"]
abbrev p_is_index : List Str := ["value", "many"]
theorem sc_is_index : FnScope n_is_index p_is_index (defScope s_is_index) := ⟨rfl, rfl, rfl, by decide +kernel, rfl, by decide +kernel, by decide +kernel⟩
abbrev s_is_list : Stmt := topS 8
abbrev n_is_list : List Str := ["value"]
abbrev p_is_list : List Str := ["value"]
theorem sc_is_list : FnScope n_is_list p_is_list (defScope s_is_list) := ⟨rfl, rfl, rfl, by decide +kernel, rfl, by decide +kernel, by decide +kernel⟩
abbrev s_is_tuple : Stmt := topS 9
abbrev n_is_tuple : List Str := ["value", "many"]
abbrev p_is_tuple : List Str := ["value", "many"]
theorem sc_is_tuple : FnScope n_is_tuple p_is_tuple (defScope s_is_tuple) := ⟨rfl, rfl, rfl, by decide +kernel, rfl, by decide +kernel, by decide +kernel⟩
abbrev s_are_elements : Stmt := topS 10
abbrev n_are_elements : List Str := ["value", "many", "item"]
abbrev p_are_elements : List Str := ["value", "many"]
theorem sc_are_elements : FnScope n_are_elements p_are_elements (defScope s_are_elements) := ⟨rfl, rfl, rfl, by decide +kernel, rfl, by decide +kernel, by decide +kernel⟩
abbrev s_is_table : Stmt := topS 13
abbrev n_is_table : List Str := ["value", "many", "line"]
abbrev p_is_table : List Str := ["value"]
theorem sc_is_table : FnScope n_is_table p_is_table (defScope s_is_table) := ⟨rfl, rfl, rfl, by decide +kernel, rfl, by decide +kernel, by decide +kernel⟩
abbrev s_is_broken : Stmt := topS 14
abbrev n_is_broken : List Str := ["table", "x", "y", "z"]
abbrev p_is_broken : List Str := ["table", "x", "y", "z"]
theorem sc_is_broken : FnScope n_is_broken p_is_broken (defScope s_is_broken) := ⟨rfl, rfl, rfl, by decide +kernel, rfl, by decide +kernel, by decide +kernel⟩
abbrev s_broken_with : Stmt := topS 15
abbrev n_broken_with : List Str := ["table", "middles", "every", "x", "y", "z"]
abbrev p_broken_with : List Str := ["table", "middles"]
theorem sc_broken_with : FnScope n_broken_with p_broken_with (defScope s_broken_with) := ⟨rfl, rfl, rfl, by decide +kernel, rfl, by decide +kernel, by decide +kernel⟩
abbrev s_is_semigroup : Stmt := topS 16
abbrev n_is_semigroup : List Str := ["value"]
abbrev p_is_semigroup : List Str := ["value"]
theorem sc_is_semigroup : FnScope n_is_semigroup p_is_semigroup (defScope s_is_semigroup) := ⟨rfl, rfl, rfl, by decide +kernel, rfl, by decide +kernel, by decide +kernel⟩
abbrev s_check_semigroup : Stmt := topS 17
abbrev n_check_semigroup : List Str := ["table"]
abbrev p_check_semigroup : List Str := ["table"]
theorem sc_check_semigroup : FnScope n_check_semigroup p_check_semigroup (defScope s_check_semigroup) := ⟨rfl, rfl, rfl, by decide +kernel, rfl, by decide +kernel, by decide +kernel⟩
abbrev s_idempotents_in : Stmt := topS 19
abbrev n_idempotents_in : List Str := ["table", "x"]
abbrev p_idempotents_in : List Str := ["table"]
theorem sc_idempotents_in : FnScope n_idempotents_in p_idempotents_in (defScope s_idempotents_in) := ⟨rfl, rfl, rfl, by decide +kernel, rfl, by decide +kernel, by decide +kernel⟩
abbrev s_idempotents : Stmt := topS 20
abbrev n_idempotents : List Str := ["table"]
abbrev p_idempotents : List Str := ["table"]
theorem sc_idempotents : FnScope n_idempotents p_idempotents (defScope s_idempotents) := ⟨rfl, rfl, rfl, by decide +kernel, rfl, by decide +kernel, by decide +kernel⟩
abbrev s_left_identities : Stmt := topS 21
abbrev n_left_identities : List Str := ["table", "every", "e", "x"]
abbrev p_left_identities : List Str := ["table"]
theorem sc_left_identities : FnScope n_left_identities p_left_identities (defScope s_left_identities) := ⟨rfl, rfl, rfl, by decide +kernel, rfl, by decide +kernel, by decide +kernel⟩
abbrev s_right_identities : Stmt := topS 22
abbrev n_right_identities : List Str := ["table", "every", "e", "x"]
abbrev p_right_identities : List Str := ["table"]
theorem sc_right_identities : FnScope n_right_identities p_right_identities (defScope s_right_identities) := ⟨rfl, rfl, rfl, by decide +kernel, rfl, by decide +kernel, by decide +kernel⟩
abbrev s_left_zeros_of : Stmt := topS 23
abbrev n_left_zeros_of : List Str := ["table", "every", "e", "x"]
abbrev p_left_zeros_of : List Str := ["table"]
theorem sc_left_zeros_of : FnScope n_left_zeros_of p_left_zeros_of (defScope s_left_zeros_of) := ⟨rfl, rfl, rfl, by decide +kernel, rfl, by decide +kernel, by decide +kernel⟩
abbrev s_right_zeros_of : Stmt := topS 24
abbrev n_right_zeros_of : List Str := ["table", "every", "e", "x"]
abbrev p_right_zeros_of : List Str := ["table"]
theorem sc_right_zeros_of : FnScope n_right_zeros_of p_right_zeros_of (defScope s_right_zeros_of) := ⟨rfl, rfl, rfl, by decide +kernel, rfl, by decide +kernel, by decide +kernel⟩
abbrev s_identity_of : Stmt := topS 25
abbrev n_identity_of : List Str := ["table", "every", "found", "e", "x"]
abbrev p_identity_of : List Str := ["table"]
theorem sc_identity_of : FnScope n_identity_of p_identity_of (defScope s_identity_of) := ⟨rfl, rfl, rfl, by decide +kernel, rfl, by decide +kernel, by decide +kernel⟩
abbrev s_zero_of : Stmt := topS 26
abbrev n_zero_of : List Str := ["table", "every", "found", "e", "x"]
abbrev p_zero_of : List Str := ["table"]
theorem sc_zero_of : FnScope n_zero_of p_zero_of (defScope s_zero_of) := ⟨rfl, rfl, rfl, by decide +kernel, rfl, by decide +kernel, by decide +kernel⟩
abbrev s_identity : Stmt := topS 27
abbrev n_identity : List Str := ["table"]
abbrev p_identity : List Str := ["table"]
theorem sc_identity : FnScope n_identity p_identity (defScope s_identity) := ⟨rfl, rfl, rfl, by decide +kernel, rfl, by decide +kernel, by decide +kernel⟩
abbrev s_zero : Stmt := topS 28
abbrev n_zero : List Str := ["table"]
abbrev p_zero : List Str := ["table"]
theorem sc_zero : FnScope n_zero p_zero (defScope s_zero) := ⟨rfl, rfl, rfl, by decide +kernel, rfl, by decide +kernel, by decide +kernel⟩
abbrev s_centre : Stmt := topS 29
abbrev n_centre : List Str := ["table", "every", "x", "y"]
abbrev p_centre : List Str := ["table"]
theorem sc_centre : FnScope n_centre p_centre (defScope s_centre) := ⟨rfl, rfl, rfl, by decide +kernel, rfl, by decide +kernel, by decide +kernel⟩
abbrev s_commuting : Stmt := topS 30
abbrev n_commuting : List Str := ["table", "every", "number", "whole", "shared", "x", "y"]
abbrev p_commuting : List Str := ["table"]
theorem sc_commuting : FnScope n_commuting p_commuting (defScope s_commuting) := ⟨rfl, rfl, rfl, by decide +kernel, rfl, by decide +kernel, by decide +kernel⟩
abbrev s_cancellable : Stmt := topS 31
abbrev n_cancellable : List Str := ["table", "many", "left", "right", "x", "y"]
abbrev p_cancellable : List Str := ["table"]
theorem sc_cancellable : FnScope n_cancellable p_cancellable (defScope s_cancellable) := ⟨rfl, rfl, rfl, by decide +kernel, rfl, by decide +kernel, by decide +kernel⟩
abbrev s_units_in : Stmt := topS 32
abbrev n_units_in : List Str := ["table", "e", "every", "x", "y"]
abbrev p_units_in : List Str := ["table"]
theorem sc_units_in : FnScope n_units_in p_units_in (defScope s_units_in) := ⟨rfl, rfl, rfl, by decide +kernel, rfl, by decide +kernel, by decide +kernel⟩
abbrev s_units : Stmt := topS 33
abbrev n_units : List Str := ["table"]
abbrev p_units : List Str := ["table"]
theorem sc_units : FnScope n_units p_units (defScope s_units) := ⟨rfl, rfl, rfl, by decide +kernel, rfl, by decide +kernel, by decide +kernel⟩
abbrev s_law_cell : Stmt := topS 35
abbrev n_law_cell : List Str := ["script", "k"]
abbrev p_law_cell : List Str := ["script", "k"]
theorem sc_law_cell : FnScope n_law_cell p_law_cell (defScope s_law_cell) := ⟨rfl, rfl, rfl, by decide +kernel, rfl, by decide +kernel, by decide +kernel⟩
abbrev s_law_box : Stmt := topS 36
abbrev n_law_box : List Str := ["great"]
abbrev p_law_box : List Str := ["great"]
theorem sc_law_box : FnScope n_law_box p_law_box (defScope s_law_box) := ⟨rfl, rfl, rfl, by decide +kernel, rfl, by decide +kernel, by decide +kernel⟩
abbrev s_law_take : Stmt := topS 37
abbrev n_law_take : List Str := ["box", "many", "digit", "mixed"]
abbrev p_law_take : List Str := ["box", "many"]
theorem sc_law_take : FnScope n_law_take p_law_take (defScope s_law_take) := ⟨rfl, rfl, rfl, by decide +kernel, rfl, by decide +kernel, by decide +kernel⟩
abbrev s_law_mixed : Stmt := topS 38
abbrev n_law_mixed : List Str := ["box", "items", "left", "found", "turn"]
abbrev p_law_mixed : List Str := ["box", "items"]
theorem sc_law_mixed : FnScope n_law_mixed p_law_mixed (defScope s_law_mixed) := ⟨rfl, rfl, rfl, by decide +kernel, rfl, by decide +kernel, by decide +kernel⟩
abbrev s_law_same : Stmt := topS 39
abbrev n_law_same : List Str := ["given", "due", "key", "k"]
abbrev p_law_same : List Str := ["given", "due"]
theorem sc_law_same : FnScope n_law_same p_law_same (defScope s_law_same) := ⟨rfl, rfl, rfl, by decide +kernel, rfl, by decide +kernel, by decide +kernel⟩
abbrev s_law_followed : Stmt := topS 40
abbrev n_law_followed : List Str := ["one", "other", "point"]
abbrev p_law_followed : List Str := ["one", "other"]
theorem sc_law_followed : FnScope n_law_followed p_law_followed (defScope s_law_followed) := ⟨rfl, rfl, rfl, by decide +kernel, rfl, by decide +kernel, by decide +kernel⟩
abbrev s_law_from_moves : Stmt := topS 41
abbrev n_law_from_moves : List Str := ["moves", "most", "found", "at", "move", "after", "other", "one"]
abbrev p_law_from_moves : List Str := ["moves", "most"]
theorem sc_law_from_moves : FnScope n_law_from_moves p_law_from_moves (defScope s_law_from_moves) := ⟨rfl, rfl, rfl, by decide +kernel, rfl, by decide +kernel, by decide +kernel⟩
abbrev s_law_relabelled : Stmt := topS 42
abbrev n_law_relabelled : List Str := ["table", "names", "back", "k", "y", "x"]
abbrev p_law_relabelled : List Str := ["table", "names"]
theorem sc_law_relabelled : FnScope n_law_relabelled p_law_relabelled (defScope s_law_relabelled) := ⟨rfl, rfl, rfl, by decide +kernel, rfl, by decide +kernel, by decide +kernel⟩
abbrev s_law_plain : Stmt := topS 43
abbrev n_law_plain : List Str := ["box", "most", "many", "way", "index", "period", "steps", "left", "right", "x", "y", "k"]
abbrev p_law_plain : List Str := ["box", "most"]
theorem sc_law_plain : FnScope n_law_plain p_law_plain (defScope s_law_plain) := ⟨rfl, rfl, rfl, by decide +kernel, rfl, by decide +kernel, by decide +kernel⟩
abbrev s_law_drawn : Stmt := topS 44
abbrev n_law_drawn : List Str := ["box", "most", "table", "number", "turn", "points", "moves", "other", "many", "way", "k", "m", "x"]
abbrev p_law_drawn : List Str := ["box", "most"]
theorem sc_law_drawn : FnScope n_law_drawn p_law_drawn (defScope s_law_drawn) := ⟨rfl, rfl, rfl, by decide +kernel, rfl, by decide +kernel, by decide +kernel⟩
abbrev s_law_same_object : Stmt := topS 45
abbrev n_law_same_object : List Str := ["told", "value", "right"]
abbrev p_law_same_object : List Str := ["told", "value"]
theorem sc_law_same_object : FnScope n_law_same_object p_law_same_object (defScope s_law_same_object) := ⟨rfl, rfl, rfl, by decide +kernel, rfl, by decide +kernel, by decide +kernel⟩
abbrev s_law_copy : Stmt := topS 46
abbrev n_law_copy : List Str := ["value"]
abbrev p_law_copy : List Str := ["value"]
theorem sc_law_copy : FnScope n_law_copy p_law_copy (defScope s_law_copy) := ⟨rfl, rfl, rfl, by decide +kernel, rfl, by decide +kernel, by decide +kernel⟩
abbrev s_law_refusals_right : Stmt := topS 47
abbrev n_law_refusals_right : List Str := ["box", "rows", "named", "word", "good", "errors", "wrong", "at", "args", "later", "k", "told"]
abbrev p_law_refusals_right : List Str := ["box", "rows", "named"]
theorem sc_law_refusals_right : FnScope n_law_refusals_right p_law_refusals_right (defScope s_law_refusals_right) := ⟨rfl, rfl, rfl, by decide +kernel, rfl, by decide +kernel, by decide +kernel⟩
abbrev s_law_twice : Stmt := topS 48
abbrev n_law_twice : List Str := ["word", "args", "due", "named", "turn", "told"]
abbrev p_law_twice : List Str := ["word", "args", "due", "named"]
theorem sc_law_twice : FnScope n_law_twice p_law_twice (defScope s_law_twice) := ⟨rfl, rfl, rfl, by decide +kernel, rfl, by decide +kernel, by decide +kernel⟩
abbrev s_law_no_tables : Stmt := topS 49
abbrev n_law_no_tables : List Str := ["table", "many", "rows", "line", "found", "odd", "row"]
abbrev p_law_no_tables : List Str := ["table"]
theorem sc_law_no_tables : FnScope n_law_no_tables p_law_no_tables (defScope s_law_no_tables) := ⟨rfl, rfl, rfl, by decide +kernel, rfl, by decide +kernel, by decide +kernel⟩
abbrev s_law_no_semigroup : Stmt := topS 50
abbrev n_law_no_semigroup : List Str := ["many"]
abbrev p_law_no_semigroup : List Str := ["many"]
theorem sc_law_no_semigroup : FnScope n_law_no_semigroup p_law_no_semigroup (defScope s_law_no_semigroup) := ⟨rfl, rfl, rfl, by decide +kernel, rfl, by decide +kernel, by decide +kernel⟩
abbrev s_law_doors : Stmt := topS 51
abbrev n_law_doors : List Str := []
abbrev p_law_doors : List Str := []
theorem sc_law_doors : FnScope n_law_doors p_law_doors (defScope s_law_doors) := ⟨rfl, rfl, rfl, by decide +kernel, rfl, by decide +kernel, by decide +kernel⟩
abbrev s_law_asked : Stmt := topS 52
abbrev n_law_asked : List Str := ["word", "args", "named", "door", "e"]
abbrev p_law_asked : List Str := ["word", "args", "named"]
theorem sc_law_asked : FnScope n_law_asked p_law_asked (defScope s_law_asked) := ⟨rfl, rfl, rfl, by decide +kernel, rfl, by decide +kernel, by decide +kernel⟩
abbrev s_law_common : Stmt := topS 53
abbrev n_law_common : List Str := ["one", "other"]
abbrev p_law_common : List Str := ["one", "other"]
theorem sc_law_common : FnScope n_law_common p_law_common (defScope s_law_common) := ⟨rfl, rfl, rfl, by decide +kernel, rfl, by decide +kernel, by decide +kernel⟩
abbrev s_law_dues : Stmt := topS 54
abbrev n_law_dues : List Str := ["table", "every", "columns", "same", "left", "right", "low", "high", "one", "none", "middle", "count", "whole", "by", "cancelled", "unit", "x", "y", "e"]
abbrev p_law_dues : List Str := ["table"]
theorem sc_law_dues : FnScope n_law_dues p_law_dues (defScope s_law_dues) := ⟨rfl, rfl, rfl, by decide +kernel, rfl, by decide +kernel, by decide +kernel⟩
abbrev s_law_table_right : Stmt := topS 55
abbrev n_law_table_right : List Str := ["table", "named", "dues", "many", "word", "back", "turned", "y", "x"]
abbrev p_law_table_right : List Str := ["table", "named"]
theorem sc_law_table_right : FnScope n_law_table_right p_law_table_right (defScope s_law_table_right) := ⟨rfl, rfl, rfl, by decide +kernel, rfl, by decide +kernel, by decide +kernel⟩
abbrev s_law : Stmt := topS 56
abbrev n_law : List Str := ["script", "k", "box", "named", "most", "table", "plain", "group", "one", "wrong", "y", "x", "word"]
abbrev p_law : List Str := ["script"]
theorem sc_law : FnScope n_law p_law (defScope s_law) := ⟨rfl, rfl, rfl, by decide +kernel, rfl, by decide +kernel, by decide +kernel⟩
abbrev si_InvalidTable : Stmt := inClass (topS 3) 0
theorem sci_InvalidTable : FnScope ["self", "given"] ["self", "given"] (defScope si_InvalidTable) := ⟨rfl, rfl, rfl, by decide +kernel, rfl, by decide +kernel, by decide +kernel⟩
/-- what the top has left: the defs, the classes, the names -/
structure Tx (K : PySem.W.Frag) (mg : Str → Option Value) where
  f_is_integer : Addr
  d_is_integer : FuncData
  F_is_integer : Fun K "is_integer" "is_integer" s_is_integer f_is_integer d_is_integer
  g_is_integer : mg "is_integer" = some (.ref f_is_integer)
  b_is_integer : Binds K d_is_integer p_is_integer []
  f_is_within : Addr
  d_is_within : FuncData
  F_is_within : Fun K "is_within" "is_within" s_is_within f_is_within d_is_within
  g_is_within : mg "is_within" = some (.ref f_is_within)
  b_is_within : Binds K d_is_within p_is_within []
  f_is_index : Addr
  d_is_index : FuncData
  F_is_index : Fun K "is_index" "is_index" s_is_index f_is_index d_is_index
  g_is_index : mg "is_index" = some (.ref f_is_index)
  b_is_index : Binds K d_is_index p_is_index []
  f_is_list : Addr
  d_is_list : FuncData
  F_is_list : Fun K "is_list" "is_list" s_is_list f_is_list d_is_list
  g_is_list : mg "is_list" = some (.ref f_is_list)
  b_is_list : Binds K d_is_list p_is_list []
  f_is_tuple : Addr
  d_is_tuple : FuncData
  F_is_tuple : Fun K "is_tuple" "is_tuple" s_is_tuple f_is_tuple d_is_tuple
  g_is_tuple : mg "is_tuple" = some (.ref f_is_tuple)
  b_is_tuple : Binds K d_is_tuple p_is_tuple []
  f_are_elements : Addr
  d_are_elements : FuncData
  F_are_elements : Fun K "are_elements" "are_elements" s_are_elements f_are_elements d_are_elements
  g_are_elements : mg "are_elements" = some (.ref f_are_elements)
  b_are_elements : Binds K d_are_elements p_are_elements []
  f_is_table : Addr
  d_is_table : FuncData
  F_is_table : Fun K "is_table" "is_table" s_is_table f_is_table d_is_table
  g_is_table : mg "is_table" = some (.ref f_is_table)
  b_is_table : Binds K d_is_table p_is_table []
  f_is_broken : Addr
  d_is_broken : FuncData
  F_is_broken : Fun K "is_broken" "is_broken" s_is_broken f_is_broken d_is_broken
  g_is_broken : mg "is_broken" = some (.ref f_is_broken)
  b_is_broken : Binds K d_is_broken p_is_broken []
  f_broken_with : Addr
  d_broken_with : FuncData
  F_broken_with : Fun K "broken_with" "broken_with" s_broken_with f_broken_with d_broken_with
  g_broken_with : mg "broken_with" = some (.ref f_broken_with)
  b_broken_with : Binds K d_broken_with p_broken_with []
  f_is_semigroup : Addr
  d_is_semigroup : FuncData
  F_is_semigroup : Fun K "is_semigroup" "is_semigroup" s_is_semigroup f_is_semigroup d_is_semigroup
  g_is_semigroup : mg "is_semigroup" = some (.ref f_is_semigroup)
  b_is_semigroup : Binds K d_is_semigroup p_is_semigroup []
  f_check_semigroup : Addr
  d_check_semigroup : FuncData
  F_check_semigroup : Fun K "check_semigroup" "check_semigroup" s_check_semigroup f_check_semigroup d_check_semigroup
  g_check_semigroup : mg "check_semigroup" = some (.ref f_check_semigroup)
  b_check_semigroup : Binds K d_check_semigroup p_check_semigroup []
  f_idempotents_in : Addr
  d_idempotents_in : FuncData
  F_idempotents_in : Fun K "idempotents_in" "idempotents_in" s_idempotents_in f_idempotents_in d_idempotents_in
  g_idempotents_in : mg "idempotents_in" = some (.ref f_idempotents_in)
  b_idempotents_in : Binds K d_idempotents_in p_idempotents_in []
  f_idempotents : Addr
  d_idempotents : FuncData
  F_idempotents : Fun K "idempotents" "idempotents" s_idempotents f_idempotents d_idempotents
  g_idempotents : mg "idempotents" = some (.ref f_idempotents)
  b_idempotents : Binds K d_idempotents p_idempotents []
  kb_idempotents : KBinds K d_idempotents p_idempotents ["table"] (fun us ws => match us, ws with | [], [a0] => [a0] | _, _ => []) (fun us ws => match us, ws with | [], [a0] => [a0] | _, _ => [])
  f_left_identities : Addr
  d_left_identities : FuncData
  F_left_identities : Fun K "left_identities" "left_identities" s_left_identities f_left_identities d_left_identities
  g_left_identities : mg "left_identities" = some (.ref f_left_identities)
  b_left_identities : Binds K d_left_identities p_left_identities []
  kb_left_identities : KBinds K d_left_identities p_left_identities ["table"] (fun us ws => match us, ws with | [], [a0] => [a0] | _, _ => []) (fun us ws => match us, ws with | [], [a0] => [a0] | _, _ => [])
  f_right_identities : Addr
  d_right_identities : FuncData
  F_right_identities : Fun K "right_identities" "right_identities" s_right_identities f_right_identities d_right_identities
  g_right_identities : mg "right_identities" = some (.ref f_right_identities)
  b_right_identities : Binds K d_right_identities p_right_identities []
  kb_right_identities : KBinds K d_right_identities p_right_identities ["table"] (fun us ws => match us, ws with | [], [a0] => [a0] | _, _ => []) (fun us ws => match us, ws with | [], [a0] => [a0] | _, _ => [])
  f_left_zeros_of : Addr
  d_left_zeros_of : FuncData
  F_left_zeros_of : Fun K "left_zeros_of" "left_zeros_of" s_left_zeros_of f_left_zeros_of d_left_zeros_of
  g_left_zeros_of : mg "left_zeros_of" = some (.ref f_left_zeros_of)
  b_left_zeros_of : Binds K d_left_zeros_of p_left_zeros_of []
  kb_left_zeros_of : KBinds K d_left_zeros_of p_left_zeros_of ["table"] (fun us ws => match us, ws with | [], [a0] => [a0] | _, _ => []) (fun us ws => match us, ws with | [], [a0] => [a0] | _, _ => [])
  f_right_zeros_of : Addr
  d_right_zeros_of : FuncData
  F_right_zeros_of : Fun K "right_zeros_of" "right_zeros_of" s_right_zeros_of f_right_zeros_of d_right_zeros_of
  g_right_zeros_of : mg "right_zeros_of" = some (.ref f_right_zeros_of)
  b_right_zeros_of : Binds K d_right_zeros_of p_right_zeros_of []
  kb_right_zeros_of : KBinds K d_right_zeros_of p_right_zeros_of ["table"] (fun us ws => match us, ws with | [], [a0] => [a0] | _, _ => []) (fun us ws => match us, ws with | [], [a0] => [a0] | _, _ => [])
  f_identity_of : Addr
  d_identity_of : FuncData
  F_identity_of : Fun K "identity_of" "identity_of" s_identity_of f_identity_of d_identity_of
  g_identity_of : mg "identity_of" = some (.ref f_identity_of)
  b_identity_of : Binds K d_identity_of p_identity_of []
  f_zero_of : Addr
  d_zero_of : FuncData
  F_zero_of : Fun K "zero_of" "zero_of" s_zero_of f_zero_of d_zero_of
  g_zero_of : mg "zero_of" = some (.ref f_zero_of)
  b_zero_of : Binds K d_zero_of p_zero_of []
  f_identity : Addr
  d_identity : FuncData
  F_identity : Fun K "identity" "identity" s_identity f_identity d_identity
  g_identity : mg "identity" = some (.ref f_identity)
  b_identity : Binds K d_identity p_identity []
  kb_identity : KBinds K d_identity p_identity ["table"] (fun us ws => match us, ws with | [], [a0] => [a0] | _, _ => []) (fun us ws => match us, ws with | [], [a0] => [a0] | _, _ => [])
  f_zero : Addr
  d_zero : FuncData
  F_zero : Fun K "zero" "zero" s_zero f_zero d_zero
  g_zero : mg "zero" = some (.ref f_zero)
  b_zero : Binds K d_zero p_zero []
  kb_zero : KBinds K d_zero p_zero ["table"] (fun us ws => match us, ws with | [], [a0] => [a0] | _, _ => []) (fun us ws => match us, ws with | [], [a0] => [a0] | _, _ => [])
  f_centre : Addr
  d_centre : FuncData
  F_centre : Fun K "centre" "centre" s_centre f_centre d_centre
  g_centre : mg "centre" = some (.ref f_centre)
  b_centre : Binds K d_centre p_centre []
  kb_centre : KBinds K d_centre p_centre ["table"] (fun us ws => match us, ws with | [], [a0] => [a0] | _, _ => []) (fun us ws => match us, ws with | [], [a0] => [a0] | _, _ => [])
  f_commuting : Addr
  d_commuting : FuncData
  F_commuting : Fun K "commuting" "commuting" s_commuting f_commuting d_commuting
  g_commuting : mg "commuting" = some (.ref f_commuting)
  b_commuting : Binds K d_commuting p_commuting []
  kb_commuting : KBinds K d_commuting p_commuting ["table"] (fun us ws => match us, ws with | [], [a0] => [a0] | _, _ => []) (fun us ws => match us, ws with | [], [a0] => [a0] | _, _ => [])
  f_cancellable : Addr
  d_cancellable : FuncData
  F_cancellable : Fun K "cancellable" "cancellable" s_cancellable f_cancellable d_cancellable
  g_cancellable : mg "cancellable" = some (.ref f_cancellable)
  b_cancellable : Binds K d_cancellable p_cancellable []
  kb_cancellable : KBinds K d_cancellable p_cancellable ["table"] (fun us ws => match us, ws with | [], [a0] => [a0] | _, _ => []) (fun us ws => match us, ws with | [], [a0] => [a0] | _, _ => [])
  f_units_in : Addr
  d_units_in : FuncData
  F_units_in : Fun K "units_in" "units_in" s_units_in f_units_in d_units_in
  g_units_in : mg "units_in" = some (.ref f_units_in)
  b_units_in : Binds K d_units_in p_units_in []
  f_units : Addr
  d_units : FuncData
  F_units : Fun K "units" "units" s_units f_units d_units
  g_units : mg "units" = some (.ref f_units)
  b_units : Binds K d_units p_units []
  kb_units : KBinds K d_units p_units ["table"] (fun us ws => match us, ws with | [], [a0] => [a0] | _, _ => []) (fun us ws => match us, ws with | [], [a0] => [a0] | _, _ => [])
  f_law_cell : Addr
  d_law_cell : FuncData
  F_law_cell : Fun K "_law_cell" "_law_cell" s_law_cell f_law_cell d_law_cell
  g_law_cell : mg "_law_cell" = some (.ref f_law_cell)
  b_law_cell : Binds K d_law_cell p_law_cell []
  f_law_box : Addr
  d_law_box : FuncData
  F_law_box : Fun K "_law_box" "_law_box" s_law_box f_law_box d_law_box
  g_law_box : mg "_law_box" = some (.ref f_law_box)
  b_law_box : Binds K d_law_box p_law_box []
  f_law_take : Addr
  d_law_take : FuncData
  F_law_take : Fun K "_law_take" "_law_take" s_law_take f_law_take d_law_take
  g_law_take : mg "_law_take" = some (.ref f_law_take)
  b_law_take : Binds K d_law_take p_law_take []
  f_law_mixed : Addr
  d_law_mixed : FuncData
  F_law_mixed : Fun K "_law_mixed" "_law_mixed" s_law_mixed f_law_mixed d_law_mixed
  g_law_mixed : mg "_law_mixed" = some (.ref f_law_mixed)
  b_law_mixed : Binds K d_law_mixed p_law_mixed []
  f_law_same : Addr
  d_law_same : FuncData
  F_law_same : Fun K "_law_same" "_law_same" s_law_same f_law_same d_law_same
  g_law_same : mg "_law_same" = some (.ref f_law_same)
  b_law_same : Binds K d_law_same p_law_same []
  f_law_followed : Addr
  d_law_followed : FuncData
  F_law_followed : Fun K "_law_followed" "_law_followed" s_law_followed f_law_followed d_law_followed
  g_law_followed : mg "_law_followed" = some (.ref f_law_followed)
  b_law_followed : Binds K d_law_followed p_law_followed []
  f_law_from_moves : Addr
  d_law_from_moves : FuncData
  F_law_from_moves : Fun K "_law_from_moves" "_law_from_moves" s_law_from_moves f_law_from_moves d_law_from_moves
  g_law_from_moves : mg "_law_from_moves" = some (.ref f_law_from_moves)
  b_law_from_moves : Binds K d_law_from_moves p_law_from_moves []
  f_law_relabelled : Addr
  d_law_relabelled : FuncData
  F_law_relabelled : Fun K "_law_relabelled" "_law_relabelled" s_law_relabelled f_law_relabelled d_law_relabelled
  g_law_relabelled : mg "_law_relabelled" = some (.ref f_law_relabelled)
  b_law_relabelled : Binds K d_law_relabelled p_law_relabelled []
  f_law_plain : Addr
  d_law_plain : FuncData
  F_law_plain : Fun K "_law_plain" "_law_plain" s_law_plain f_law_plain d_law_plain
  g_law_plain : mg "_law_plain" = some (.ref f_law_plain)
  b_law_plain : Binds K d_law_plain p_law_plain []
  f_law_drawn : Addr
  d_law_drawn : FuncData
  F_law_drawn : Fun K "_law_drawn" "_law_drawn" s_law_drawn f_law_drawn d_law_drawn
  g_law_drawn : mg "_law_drawn" = some (.ref f_law_drawn)
  b_law_drawn : Binds K d_law_drawn p_law_drawn []
  f_law_same_object : Addr
  d_law_same_object : FuncData
  F_law_same_object : Fun K "_law_same_object" "_law_same_object" s_law_same_object f_law_same_object d_law_same_object
  g_law_same_object : mg "_law_same_object" = some (.ref f_law_same_object)
  b_law_same_object : Binds K d_law_same_object p_law_same_object []
  f_law_copy : Addr
  d_law_copy : FuncData
  F_law_copy : Fun K "_law_copy" "_law_copy" s_law_copy f_law_copy d_law_copy
  g_law_copy : mg "_law_copy" = some (.ref f_law_copy)
  b_law_copy : Binds K d_law_copy p_law_copy []
  f_law_refusals_right : Addr
  d_law_refusals_right : FuncData
  F_law_refusals_right : Fun K "_law_refusals_right" "_law_refusals_right" s_law_refusals_right f_law_refusals_right d_law_refusals_right
  g_law_refusals_right : mg "_law_refusals_right" = some (.ref f_law_refusals_right)
  b_law_refusals_right : Binds K d_law_refusals_right p_law_refusals_right []
  f_law_twice : Addr
  d_law_twice : FuncData
  F_law_twice : Fun K "_law_twice" "_law_twice" s_law_twice f_law_twice d_law_twice
  g_law_twice : mg "_law_twice" = some (.ref f_law_twice)
  b_law_twice : Binds K d_law_twice p_law_twice []
  f_law_no_tables : Addr
  d_law_no_tables : FuncData
  F_law_no_tables : Fun K "_law_no_tables" "_law_no_tables" s_law_no_tables f_law_no_tables d_law_no_tables
  g_law_no_tables : mg "_law_no_tables" = some (.ref f_law_no_tables)
  b_law_no_tables : Binds K d_law_no_tables p_law_no_tables []
  f_law_no_semigroup : Addr
  d_law_no_semigroup : FuncData
  F_law_no_semigroup : Fun K "_law_no_semigroup" "_law_no_semigroup" s_law_no_semigroup f_law_no_semigroup d_law_no_semigroup
  g_law_no_semigroup : mg "_law_no_semigroup" = some (.ref f_law_no_semigroup)
  b_law_no_semigroup : Binds K d_law_no_semigroup p_law_no_semigroup []
  f_law_doors : Addr
  d_law_doors : FuncData
  F_law_doors : Fun K "_law_doors" "_law_doors" s_law_doors f_law_doors d_law_doors
  g_law_doors : mg "_law_doors" = some (.ref f_law_doors)
  b_law_doors : Binds K d_law_doors p_law_doors []
  f_law_asked : Addr
  d_law_asked : FuncData
  F_law_asked : Fun K "_law_asked" "_law_asked" s_law_asked f_law_asked d_law_asked
  g_law_asked : mg "_law_asked" = some (.ref f_law_asked)
  b_law_asked : Binds K d_law_asked p_law_asked []
  f_law_common : Addr
  d_law_common : FuncData
  F_law_common : Fun K "_law_common" "_law_common" s_law_common f_law_common d_law_common
  g_law_common : mg "_law_common" = some (.ref f_law_common)
  b_law_common : Binds K d_law_common p_law_common []
  f_law_dues : Addr
  d_law_dues : FuncData
  F_law_dues : Fun K "_law_dues" "_law_dues" s_law_dues f_law_dues d_law_dues
  g_law_dues : mg "_law_dues" = some (.ref f_law_dues)
  b_law_dues : Binds K d_law_dues p_law_dues []
  f_law_table_right : Addr
  d_law_table_right : FuncData
  F_law_table_right : Fun K "_law_table_right" "_law_table_right" s_law_table_right f_law_table_right d_law_table_right
  g_law_table_right : mg "_law_table_right" = some (.ref f_law_table_right)
  b_law_table_right : Binds K d_law_table_right p_law_table_right []
  f_law : Addr
  d_law : FuncData
  F_law : Fun K "law" "law" s_law f_law d_law
  g_law : mg "law" = some (.ref f_law)
  b_law : Binds K d_law p_law []
  c_SemigroupError : Addr
  gc_SemigroupError : mg "SemigroupError" = some (.ref c_SemigroupError)
  sem : SemC K mg c_SemigroupError
  c_InvalidTable : Addr
  gc_InvalidTable : mg "InvalidTable" = some (.ref c_InvalidTable)
  i_InvalidTable : Addr
  di_InvalidTable : FuncData
  Fi_InvalidTable : Fun K "__init__" "InvalidTable.__init__" si_InvalidTable i_InvalidTable di_InvalidTable
  bi_InvalidTable : Binds K di_InvalidTable ["self", "given"] []
  e_InvalidTable : ErrC K mg "InvalidTable" "given" c_InvalidTable i_InvalidTable
  x_InvalidTable_SemigroupError : PySem.W.exmOne K (.ref c_InvalidTable) (.ref c_SemigroupError) = some true
  y_InvalidTable : PySem.W.kitOne K (.ref c_InvalidTable) (.ref c_SemigroupError) = some true
  x_InvalidTable_InvalidTable : PySem.W.exmOne K (.ref c_InvalidTable) (.ref c_InvalidTable) = some true
  t_MOST_ELEMENTS : Tok
  gg_MOST_ELEMENTS : mg "MOST_ELEMENTS" = some (.int 10 t_MOST_ELEMENTS)
  gf_gcd : mg "gcd" = some (.builtin "math.gcd")
  m_isinstance : mg "isinstance" = none
  m_len : mg "len" = none
  m_all : mg "all" = none
  m_range : mg "range" = none
  m_tuple : mg "tuple" = none
  m_int : mg "int" = none
  m_str : mg "str" = none
  m_dict : mg "dict" = none
  m_max : mg "max" = none
  m_list : mg "list" = none
  m_sum : mg "sum" = none
  m_abs : mg "abs" = none
  m_bool : mg "bool" = none
  m_min : mg "min" = none
  m_any : mg "any" = none
  m_set : mg "set" = none
section
variable {P : Program} {w : World} {K : PySem.W.Frag} {mg : Str → Option Value} {base : Heap}
theorem ok_init_InvalidTable (T : Tx K mg) : FnOk P w K mg base CX0 1 T.i_InvalidTable T.di_InvalidTable ["self", "given"] (spErr K "given") := by
  refine T.Fi_InvalidTable.ok sci_InvalidTable (fun vs H Q E h => ?_) (fun cdv A outer s H vs Q E hr h => ?_)
  · obtain ⟨_, _, _, rfl, _⟩ := h; rfl
  · obtain ⟨a, C, v, rfl, hT, nf, ha, q⟩ := h
    refine ⟨_, pss_cons (ps_expr (pe_seinit T.sem (by rfl) (pa_cons (pv 0) (pa_cons pe_str pa_nil)))) (pss_one (ps_ost (pv 0) (pv 1))), ?_⟩
    exact ⟨_, rfl, a, C, _, rfl, by decide, hT, ha, _, rfl, _, rfl, a, C, rfl, hT, nf, .inl ⟨ha, fun dx h1 h2 => q dx h1 h2⟩⟩
end
end Kx


set_option Elab.async false
set_option linter.all false
set_option maxRecDepth 100000
set_option maxHeartbeats 2000000
namespace Kx
open PySem PySem.Spec PyProof.Rows L2 DL
section
variable {P : Program} {w : World} {K : PySem.W.Frag} {mg : Str → Option Value} {base : Heap}
/-- data that is an integer and no bool -/
def isIntD (x : D) : Bool := match x.top with
  | .int _ => true
  | _ => false
theorem int_iff {x : D} (h : isIntD x = true) : ∃ i : Int, x.top = .int i := by
  unfold isIntD at h
  cases q : x.top with
  | int i => exact ⟨i, rfl⟩
  | _ => rw [q] at h; cases h
theorem int_inR {x : D} {l h : Int} : (isIntD x && inRg x l h) = inRg x l h := by
  unfold isIntD inRg
  cases x.top <;> simp
theorem ty_int {x : D} {t : String} (e : tyD x = some t) : ∃ b c, kitB t "int" = some b ∧ kitB t "bool" = some c ∧ (b && !c) = isIntD x := by
  rw [← tyD_top] at e
  unfold isIntD
  have nt := top_no (d := x)
  generalize x.top = y at e nt
  cases y with
  | non => cases e; exact ⟨false, false, rfl, rfl, rfl⟩
  | bl _ => cases e; exact ⟨true, true, rfl, rfl, rfl⟩
  | int _ => cases e; exact ⟨true, false, rfl, rfl, rfl⟩
  | str _ => cases e; exact ⟨false, false, rfl, rfl, rfl⟩
  | tup _ => cases e; exact ⟨false, false, rfl, rfl, rfl⟩
  | lst _ => cases e; exact ⟨false, false, rfl, rfl, rfl⟩
  | dct _ => cases e; exact ⟨false, false, rfl, rfl, rfl⟩
  | op _ => cases e
  | rng _ _ => cases e
  | exc _ => cases e
  | set _ _ _ => cases e
  | idn v d => exact absurd rfl (nt v d)
def R_is_integer : List D → D → Prop
  | [x], d => tyD x ≠ none ∧ d = .bl (isIntD x)
  | _, _ => False
theorem ok_is_integer (T : Tx K mg) : FnOk P w K mg base CX0 1 T.f_is_integer T.d_is_integer p_is_integer (spD K R_is_integer) := by
  refine T.F_is_integer.ok sc_is_integer (fun vs H Q E h => ?_) (fun cdv A outer s H vs Q E hr h => ?_)
  · obtain ⟨G, ds, d, e, hd, hR, q⟩ := h
    rw [hd.length]
    match ds, hR with
    | [_], _ => rfl
  · refine ⟨_, (pss_one (ps_ret (pe_and (pe_callB (call_isiK K) (by rfl) T.m_isinstance (by decide +kernel) (pa_cons (pv 0) (pa_cons (pe_bltn (v := .ty "int") (by rfl) T.m_int (by decide +kernel) rfl) pa_nil))) (pe_one (pe_not (pe_callB (call_isiK K) (by rfl) T.m_isinstance (by decide +kernel) (pa_cons (pv 0) (pa_cons (pe_bltn (v := .ty "bool") (by rfl) T.m_bool (by decide +kernel) rfl) pa_nil)))))))), ?_⟩
    obtain ⟨G, ds, d, e, hd, hR, q⟩ := h
    have hl : ∃ x0, ds = [x0] := by
      match ds, hR with
      | [x0], _ => exact ⟨x0, rfl⟩
    obtain ⟨x0, rfl⟩ := hl
    cases hd with
    | @cons v0 vs0 _ _ dv0 hd =>
    cases hd
    refine EX.fin (W := fun _ _ _ _ => False) (good_start e ((.cons dv0 .nil)) n_is_integer) q ?_
    show EX K ⟨G, H, none⟩ _ _ [Sl.val v0 x0] _
    obtain ⟨h1, rfl⟩ := hR
    obtain ⟨t, ht⟩ := Option.ne_none_iff_exists'.mp h1
    obtain ⟨b, c, hb, hc, hbc⟩ := ty_int ht
    refine ex_ret (ev_is (ev_and (ev_cb (ea_cons (ev_var rfl) (ea_cons ev_c ea_nil)) (cb_isi ht hb)) fun _ => ev_not (ev_cb (ea_cons (ev_var rfl) (ea_cons ev_c ea_nil)) (cb_isi ht hc))) (by rw [hbc])) fun v => rfl
def R_is_within : List D → D → Prop
  | [x, l, h], d => ∃ i j : Int, l = .int i ∧ h = .int j ∧ tyD x ≠ none ∧ d = .bl (inRg x i j)
  | _, _ => False
theorem ok_is_within (T : Tx K mg) : FnOk P w K mg base CX0 2 T.f_is_within T.d_is_within p_is_within (spD K R_is_within) := by
  refine T.F_is_within.ok sc_is_within (fun vs H Q E h => ?_) (fun cdv A outer s H vs Q E hr h => ?_)
  · obtain ⟨G, ds, d, e, hd, hR, q⟩ := h
    rw [hd.length]
    match ds, hR with
    | [_, _, _], _ => rfl
  · refine ⟨_, (pss_one (ps_ret (pe_and (pe_call (ok_is_integer T) (hr.mono (by omega)) (by rfl) T.g_is_integer T.F_is_integer.kp T.b_is_integer .nil pass0 (pa_cons (pv 0) pa_nil)) (pe_one (pe_chain op_le op_le (pv 1) (pv 0) (pv 2)))))), ?_⟩
    obtain ⟨G, ds, d, e, hd, hR, q⟩ := h
    have hl : ∃ x0 x1 x2, ds = [x0, x1, x2] := by
      match ds, hR with
      | [x0, x1, x2], _ => exact ⟨x0, x1, x2, rfl⟩
    obtain ⟨x0, x1, x2, rfl⟩ := hl
    cases hd with
    | @cons v0 vs0 _ _ dv0 hd =>
    cases hd with
    | @cons v1 vs1 _ _ dv1 hd =>
    cases hd with
    | @cons v2 vs2 _ _ dv2 hd =>
    cases hd
    refine EX.fin (W := fun _ _ _ _ => False) (good_start e ((.cons dv0 (.cons dv1 (.cons dv2 .nil)))) n_is_within) q ?_
    show EX K ⟨G, H, none⟩ _ _ [Sl.val v0 x0, Sl.val v1 x1, Sl.val v2 x2] _
    obtain ⟨l, h, rfl, rfl, h1, rfl⟩ := hR
    refine ex_ret (ev_is (ev_and (ev_call (ea_cons (ev_var rfl) ea_nil) ⟨h1, rfl⟩) (b := inRg x0 l h) fun hb => ?_) (by rw [int_inR])) fun v => rfl
    obtain ⟨i, hi⟩ := int_iff hb
    refine ev_is (ev_chain (ev_var rfl) (ev_tp (ev_var rfl) hi) op_leI (fun _ => ev_var rfl) (fun _ => op_leI)) ?_
    unfold inRg
    rw [hi]

def R_is_index : List D → D → Prop
  | [x, m], d => ∃ i : Int, m = .int i ∧ tyD x ≠ none ∧ d = .bl (inRg x 0 (i - 1))
  | _, _ => False
theorem ok_is_index (T : Tx K mg) : FnOk P w K mg base CX0 3 T.f_is_index T.d_is_index p_is_index (spD K R_is_index) := by
  refine T.F_is_index.ok sc_is_index (fun vs H Q E h => ?_) (fun cdv A outer s H vs Q E hr h => ?_)
  · obtain ⟨G, ds, d, e, hd, hR, q⟩ := h
    rw [hd.length]
    match ds, hR with
    | [_, _], _ => rfl
  · refine ⟨_, (pss_one (ps_ret (pe_call (ok_is_within T) (hr.mono (by omega)) (by rfl) T.g_is_within T.F_is_within.kp T.b_is_within .nil pass0 (pa_cons (pv 0) (pa_cons pe_int (pa_cons (pe_op op_sub (pv 1) pe_int) pa_nil)))))), ?_⟩
    obtain ⟨G, ds, d, e, hd, hR, q⟩ := h
    have hl : ∃ x0 x1, ds = [x0, x1] := by
      match ds, hR with
      | [x0, x1], _ => exact ⟨x0, x1, rfl⟩
    obtain ⟨x0, x1, rfl⟩ := hl
    cases hd with
    | @cons v0 vs0 _ _ dv0 hd =>
    cases hd with
    | @cons v1 vs1 _ _ dv1 hd =>
    cases hd
    refine EX.fin (W := fun _ _ _ _ => False) (good_start e ((.cons dv0 (.cons dv1 .nil))) n_is_index) q ?_
    show EX K ⟨G, H, none⟩ _ _ [Sl.val v0 x0, Sl.val v1 x1] _
    obtain ⟨i, rfl, h1, rfl⟩ := hR
    exact ex_ret (ev_call (ea_cons (ev_var rfl) (ea_cons ev_int (ea_cons (ev_op (ev_var rfl) ev_int op_subI) ea_nil))) ⟨0, i - 1, rfl, rfl, h1, rfl⟩) fun v => rfl
/-- the items of a list or a tuple -/
def itemsD (x : D) : Option (List D) := match x.top with
  | .lst ds => some ds
  | .tup ds => some ds
  | _ => none
def isSeq (x : D) : Bool := (itemsD x).isSome
theorem ty_seq {x : D} {t : String} (e : tyD x = some t) : ∃ b c, kitB t "list" = some b ∧ kitB t "tuple" = some c ∧ (b || c) = isSeq x := by
  rw [← tyD_top] at e
  unfold isSeq itemsD
  have nt := top_no (d := x)
  generalize x.top = y at e nt
  cases y with
  | non => cases e; exact ⟨false, false, rfl, rfl, rfl⟩
  | bl _ => cases e; exact ⟨false, false, rfl, rfl, rfl⟩
  | int _ => cases e; exact ⟨false, false, rfl, rfl, rfl⟩
  | str _ => cases e; exact ⟨false, false, rfl, rfl, rfl⟩
  | tup _ => cases e; exact ⟨false, true, rfl, rfl, rfl⟩
  | lst _ => cases e; exact ⟨true, false, rfl, rfl, rfl⟩
  | dct _ => cases e; exact ⟨false, false, rfl, rfl, rfl⟩
  | op _ => cases e
  | rng _ _ => cases e
  | exc _ => cases e
  | set _ _ _ => cases e
  | idn v d => exact absurd rfl (nt v d)
def R_is_list : List D → D → Prop
  | [x], d => tyD x ≠ none ∧ d = .bl (isSeq x)
  | _, _ => False
theorem ok_is_list (T : Tx K mg) : FnOk P w K mg base CX0 1 T.f_is_list T.d_is_list p_is_list (spD K R_is_list) := by
  refine T.F_is_list.ok sc_is_list (fun vs H Q E h => ?_) (fun cdv A outer s H vs Q E hr h => ?_)
  · obtain ⟨G, ds, d, e, hd, hR, q⟩ := h
    rw [hd.length]
    match ds, hR with
    | [_], _ => rfl
  · refine ⟨_, (pss_one (ps_ret (pe_callB (call_isiTK K) (by rfl) T.m_isinstance (by decide +kernel) (pa_cons (pv 0) (pa_cons (pe_tup (pa_cons (pe_bltn (v := .ty "list") (by rfl) T.m_list (by decide +kernel) rfl) (pa_cons (pe_bltn (v := .ty "tuple") (by rfl) T.m_tuple (by decide +kernel) rfl) pa_nil))) pa_nil))))), ?_⟩
    obtain ⟨G, ds, d, e, hd, hR, q⟩ := h
    have hl : ∃ x0, ds = [x0] := by
      match ds, hR with
      | [x0], _ => exact ⟨x0, rfl⟩
    obtain ⟨x0, rfl⟩ := hl
    cases hd with
    | @cons v0 vs0 _ _ dv0 hd =>
    cases hd
    refine EX.fin (W := fun _ _ _ _ => False) (good_start e ((.cons dv0 .nil)) n_is_list) q ?_
    show EX K ⟨G, H, none⟩ _ _ [Sl.val v0 x0] _
    obtain ⟨h1, rfl⟩ := hR
    obtain ⟨t, ht⟩ := Option.ne_none_iff_exists'.mp h1
    obtain ⟨b, c, hb, hc, hbc⟩ := ty_seq ht
    exact ex_ret (ev_is (ev_isi2 (ev_var rfl) ht hb hc) (by rw [hbc])) fun v => rfl
/-- the items of a tuple -/
def tupsD (x : D) : Option (List D) := match x.top with
  | .tup ds => some ds
  | _ => none
theorem tupsD_top {x : D} {ds : List D} (h : tupsD x = some ds) : x.top = .tup ds := by
  unfold tupsD at h
  cases q : x.top with
  | tup es => rw [q] at h; cases h; rfl
  | _ => rw [q] at h; cases h
theorem ty_tup {x : D} {t : String} (e : tyD x = some t) : kitB t "tuple" = some (tupsD x).isSome := by
  rw [← tyD_top] at e
  unfold tupsD
  have nt := top_no (d := x)
  generalize x.top = y at e nt
  cases y with
  | non => cases e; rfl
  | bl _ => cases e; rfl
  | int _ => cases e; rfl
  | str _ => cases e; rfl
  | tup _ => cases e; rfl
  | lst _ => cases e; rfl
  | dct _ => cases e; rfl
  | op _ => cases e
  | rng _ _ => cases e
  | exc _ => cases e
  | set _ _ _ => cases e
  | idn v d => exact absurd rfl (nt v d)
def isTupOf (x : D) (i : Int) : Bool := match tupsD x with
  | some ds => decide ((ds.length : Int) = i)
  | none => false
def R_is_tuple : List D → D → Prop
  | [x, m], d => ∃ i : Int, m = .int i ∧ tyD x ≠ none ∧ d = .bl (isTupOf x i)
  | _, _ => False
theorem ok_is_tuple (T : Tx K mg) : FnOk P w K mg base CX0 1 T.f_is_tuple T.d_is_tuple p_is_tuple (spD K R_is_tuple) := by
  refine T.F_is_tuple.ok sc_is_tuple (fun vs H Q E h => ?_) (fun cdv A outer s H vs Q E hr h => ?_)
  · obtain ⟨G, ds, d, e, hd, hR, q⟩ := h
    rw [hd.length]
    match ds, hR with
    | [_, _], _ => rfl
  · refine ⟨_, (pss_one (ps_ret (pe_and (pe_callB (call_isiK K) (by rfl) T.m_isinstance (by decide +kernel) (pa_cons (pv 0) (pa_cons (pe_bltn (v := .ty "tuple") (by rfl) T.m_tuple (by decide +kernel) rfl) pa_nil))) (pe_one (pe_cmpR op_eq (pe_callB (call_lenK K) (by rfl) T.m_len (by decide +kernel) (pa_cons (pv 0) pa_nil)) (pv 1) (nomark _)))))), ?_⟩
    obtain ⟨G, ds, d, e, hd, hR, q⟩ := h
    have hl : ∃ x0 x1, ds = [x0, x1] := by
      match ds, hR with
      | [x0, x1], _ => exact ⟨x0, x1, rfl⟩
    obtain ⟨x0, x1, rfl⟩ := hl
    cases hd with
    | @cons v0 vs0 _ _ dv0 hd =>
    cases hd with
    | @cons v1 vs1 _ _ dv1 hd =>
    cases hd
    refine EX.fin (W := fun _ _ _ _ => False) (good_start e ((.cons dv0 (.cons dv1 .nil))) n_is_tuple) q ?_
    show EX K ⟨G, H, none⟩ _ _ [Sl.val v0 x0, Sl.val v1 x1] _
    obtain ⟨i, rfl, h1, rfl⟩ := hR
    obtain ⟨t, ht⟩ := Option.ne_none_iff_exists'.mp h1
    cases q : tupsD x0 with
    | none =>
      refine ex_ret (ev_is (ev_and (b := true) (ev_cb (ea_cons (ev_var rfl) (ea_cons ev_c ea_nil)) (cb_isi ht (ty_tup ht))) fun h => ?_) ?_) fun v => rfl
      · rw [q] at h; cases h
      · unfold isTupOf; rw [q]; rfl
    | some ds =>
      refine ex_ret (ev_is (ev_and (ev_cb (ea_cons (ev_var rfl) (ea_cons ev_c ea_nil)) (cb_isi ht (ty_tup ht))) fun h => ev_op (ev_cb (ea_cons (ev_tp (ev_var rfl) (tupsD_top q)) ea_nil) cb_lenT) (ev_var rfl) op_eqI) ?_) fun v => rfl
      unfold isTupOf; rw [q]; rfl
/-- a list or tuple of numbers below -/
def areEl (x : D) (m : Int) : Bool := match itemsD x with
  | some ds => ds.all fun y => inRg y 0 (m - 1)
  | none => false
def R_are_elements : List D → D → Prop
  | [x, m], d => ∃ i : Int, m = .int i ∧ tyD x ≠ none ∧ (∀ ds, itemsD x = some ds → ds.length < 10000 ∧ ∀ y ∈ ds, tyD y ≠ none) ∧ d = .bl (areEl x i)
  | _, _ => False
theorem itemsD_top {x : D} {ds : List D} (h : itemsD x = some ds) : x.top = .lst ds ∨ x.top = .tup ds := by
  unfold itemsD at h
  cases q : x.top with
  | tup es => rw [q] at h; cases h; exact .inr rfl
  | lst es => rw [q] at h; cases h; exact .inl rfl
  | _ => rw [q] at h; cases h
theorem ok_are_elements (T : Tx K mg) : FnOk P w K mg base CX0 4 T.f_are_elements T.d_are_elements p_are_elements (spD K R_are_elements) := by
  refine T.F_are_elements.ok sc_are_elements (fun vs H Q E h => ?_) (fun cdv A outer s H vs Q E hr h => ?_)
  · obtain ⟨G, ds, d, e, hd, hR, q⟩ := h
    rw [hd.length]
    match ds, hR with
    | [_, _], _ => rfl
  · refine ⟨_, (pss_one (ps_ret (pe_and (pe_call (ok_is_list T) (hr.mono (by omega)) (by rfl) T.g_is_list T.F_is_list.kp T.b_is_list .nil pass0 (pa_cons (pv 0) pa_nil)) (pe_one (pe_callB (cr_all rfl) (by rfl) T.m_all (by decide +kernel) (pa_cons (pe_lc (own := [("item", 2)]) rfl sc_are_elements.nd (pi_seqK K (pv 0)) (blkOk_by (by rfl)) (fun _ _ _ _ _ => pg_name (i := 2) sc_are_elements.nd rfl (by first | exact .inl rfl | exact .inr rfl)) (fun _ _ _ _ _ => pts_nil) (fun _ _ _ _ _ => (pe_call (ok_is_index T) (hr.mono (by omega)) (by rfl) T.g_is_index T.F_is_index.kp T.b_is_index .nil pass0 (pa_cons (pv 2) (pa_cons (pv 1) pa_nil))))) pa_nil)))))), ?_⟩
    obtain ⟨G, ds, d, e, hd, hR, q⟩ := h
    have hl : ∃ x0 x1, ds = [x0, x1] := by
      match ds, hR with
      | [x0, x1], _ => exact ⟨x0, x1, rfl⟩
    obtain ⟨x0, x1, rfl⟩ := hl
    cases hd with
    | @cons v0 vs0 _ _ dv0 hd =>
    cases hd with
    | @cons v1 vs1 _ _ dv1 hd =>
    cases hd
    refine EX.fin (W := fun _ _ _ _ => False) (good_start e ((.cons dv0 (.cons dv1 .nil))) n_are_elements) q ?_
    show EX K ⟨G, H, none⟩ _ _ [Sl.val v0 x0, Sl.val v1 x1, Sl.un] _
    obtain ⟨i, rfl, h1, h2, rfl⟩ := hR
    refine ex_ret (ev_is (ev_and (b := areEl x0 i) (ev_call (ea_cons (ev_var rfl) ea_nil) ⟨h1, rfl⟩) fun h => ?_) ?_) fun v => rfl
    · obtain ⟨ds, hds⟩ := Option.isSome_iff_exists.mp h
      have hI : EVI K ⟨G, H, none⟩ (iSeq K (tVar 0)) [Sl.val v0 x0, Sl.val v1 (.int i), Sl.un] ds := by
        rcases itemsD_top hds with q | q
        · exact ei_seqL (ev_tp (ev_var rfl) q)
        · exact ei_seqT (ev_tp (ev_var rfl) q)
      obtain ⟨hl, hy⟩ := h2 ds hds
      have hlc := ev_lcS (K := K) (β := ⟨G, H, none⟩) (F := fun y => .bl (inRg y 0 (i - 1))) (te := tCall (spD K R_is_index) [] E0 (tCons (tVar 2) (tCons (tVar 1) tNil))) (vs := [2]) (j := 2) hI (by rw [sizeLine_eq]; omega) (by decide)
        (fun d v hd => ev_call (ea_cons (ev_var rfl) (ea_cons (ev_var rfl) ea_nil)) ⟨i, rfl, hy d hd, rfl⟩)
      rw [show (ds.map fun y => D.bl (inRg y 0 (i - 1))) = (ds.map fun y => inRg y 0 (i - 1)).map D.bl by rw [List.map_map]; rfl] at hlc
      refine ev_is (ev_cb (ea_cons hlc ea_nil) cb_all) ?_
      unfold areEl
      rw [hds, List.all_map]
      rfl
    · unfold areEl isSeq
      cases itemsD x0 with
      | none => rfl
      | some ds => rfl

end
end Kx


set_option Elab.async false
set_option linter.all false
set_option maxRecDepth 100000
set_option maxHeartbeats 2000000
namespace Kx
open PySem PySem.Spec PyProof.Rows L2 DL
section
variable {P : Program} {w : World} {K : PySem.W.Frag} {mg : Str → Option Value} {base : Heap}
/-- tables: tuples of tuples of numbers -/
def isTab (x : D) : Bool := match tupsD x with
  | some ds => decide (1 ≤ ds.length) && decide (ds.length ≤ 10) && ds.all fun l => isTupOf l ds.length && areEl l ds.length
  | none => false
/-- data whose kind is known, down to items of items -/
def Ty3 (x : D) : Prop := tyD x ≠ none ∧ ∀ ds, itemsD x = some ds → ds.length < 10000 ∧ ∀ y ∈ ds, tyD y ≠ none ∧ ∀ es, itemsD y = some es → es.length < 10000 ∧ ∀ z ∈ es, tyD z ≠ none
def R_is_table : List D → D → Prop
  | [x], d => Ty3 x ∧ d = .bl (isTab x)
  | _, _ => False
theorem ok_is_table (T : Tx K mg) : FnOk P w K mg base CX0 5 T.f_is_table T.d_is_table p_is_table (spD K R_is_table) := by
  refine T.F_is_table.ok sc_is_table (fun vs H Q E h => ?_) (fun cdv A outer s H vs Q E hr h => ?_)
  · obtain ⟨G, ds, d, e, hd, hR, q⟩ := h
    rw [hd.length]
    match ds, hR with
    | [_], _ => rfl
  · refine ⟨_, (pss_cons (ps_if (PW.pt (pw_or (pt_not (pt_val (pe_callB (call_isiK K) (by rfl) T.m_isinstance (by decide +kernel) (pa_cons (pv 0) (pa_cons (pe_bltn (v := .ty "tuple") (by rfl) T.m_tuple (by decide +kernel) rfl) pa_nil))))) (pw_or1 (pt_not (pt_chain op_le op_le pe_int (pe_callB (call_lenK K) (by rfl) T.m_len (by decide +kernel) (pa_cons (pv 0) pa_nil)) (pe_glob (v := .int 10) (by rfl) T.gg_MOST_ELEMENTS ⟨_, rfl⟩)))))) (pss_one (ps_ret pe_bl)) pss_nil)
      (pss_cons (ps_set (i := 1) sc_is_table.nd rfl (.inr rfl) (pe_callB (call_lenK K) (by rfl) T.m_len (by decide +kernel) (pa_cons (pv 0) pa_nil)))
      (pss_one (ps_ret (pe_callB (cr_all rfl) (by rfl) T.m_all (by decide +kernel) (pa_cons (pe_lc (own := [("line", 2)]) rfl sc_is_table.nd (pi_seqK K (pv 0)) (blkOk_by (by rfl)) (fun _ _ _ _ _ => pg_name (i := 2) sc_is_table.nd rfl (by first | exact .inl rfl | exact .inr rfl)) (fun _ _ _ _ _ => pts_nil) (fun _ _ _ _ _ => (pe_and (pe_call (ok_is_tuple T) (hr.mono (by omega)) (by rfl) T.g_is_tuple T.F_is_tuple.kp T.b_is_tuple .nil pass0 (pa_cons (pv 2) (pa_cons (pv 1) pa_nil))) (pe_one (pe_call (ok_are_elements T) (hr.mono (by omega)) (by rfl) T.g_are_elements T.F_are_elements.kp T.b_are_elements .nil pass0 (pa_cons (pv 2) (pa_cons (pv 1) pa_nil))))))) pa_nil)))))), ?_⟩
    obtain ⟨G, ds, d, e, hd, hR, q⟩ := h
    have hl : ∃ x0, ds = [x0] := by
      match ds, hR with
      | [x0], _ => exact ⟨x0, rfl⟩
    obtain ⟨x0, rfl⟩ := hl
    cases hd with
    | @cons v0 vs0 _ _ dv0 hd =>
    cases hd
    refine EX.fin (W := fun _ _ _ _ => False) (good_start e ((.cons dv0 .nil)) n_is_table) q ?_
    show EX K ⟨G, H, none⟩ _ _ [Sl.val v0 x0, Sl.un, Sl.un] _
    obtain ⟨hT, rfl⟩ := hR
    obtain ⟨t, ht⟩ := Option.ne_none_iff_exists'.mp hT.1
    cases hq : tupsD x0 with
    | none =>
      have e0 : isTab x0 = false := by unfold isTab; rw [hq]
      rw [e0] at q ⊢
      refine ex_when (b := true) (et_is (et_or (b := true) (et_not (et_B (ev_cb (ea_cons (ev_var rfl) (ea_cons ev_c ea_nil)) (cb_isi ht (ty_tup ht))))) (fun h => ?_)) (by rw [hq]; rfl)) (fun _ => ex_ret ev_bl fun v => rfl) fun h => by cases h
      rw [hq] at h; cases h
    | some ds =>
      have hx := tupsD_top hq
      obtain ⟨hl, hy⟩ := hT.2 ds (by unfold itemsD; rw [hx])
      refine ex_when (b := !(decide (1 ≤ ds.length) && decide (ds.length ≤ 10))) (et_is (et_or (et_not (et_B (ev_cb (ea_cons (ev_var rfl) (ea_cons ev_c ea_nil)) (cb_isi ht (ty_tup ht)))))
        (fun h => et_not (et_test (ev_chain ev_int (ev_cb (ea_cons (ev_tp (ev_var rfl) hx) ea_nil) cb_lenT) op_leI (fun _ => ev_int) (fun _ => op_leI))))) ?_) (fun hb => ?_) fun hb => ?_
      · rw [hq]
        show (false || _) = _
        rw [Bool.false_or]
        congr 2
        · rw [decide_eq_decide]; omega
        · rw [decide_eq_decide]; omega
      · refine ex_ret ev_bl fun v => ?_
        show D.bl false = D.bl (isTab x0)
        unfold isTab
        rw [hq]
        have : (decide (1 ≤ ds.length) && decide (ds.length ≤ 10)) = false := by
          cases z : (decide (1 ≤ ds.length) && decide (ds.length ≤ 10)) with
          | false => rfl
          | true => rw [z] at hb; cases hb
        show D.bl false = D.bl (_ && _)
        rw [this]; rfl
      · have hb' : (decide (1 ≤ ds.length) && decide (ds.length ≤ 10)) = true := by
          cases z : (decide (1 ≤ ds.length) && decide (ds.length ≤ 10)) with
          | true => rfl
          | false => rw [z] at hb; cases hb
        refine ex_let (ev_cb (ea_cons (ev_tp (ev_var rfl) hx) ea_nil) cb_lenT) fun v1 => ?_
        have hlc := ev_lcS (K := K) (β := ⟨G, H, none⟩) (wi := iSeq K (tVar 0)) (env := [Sl.val v0 x0, Sl.val v1 (.int ds.length), Sl.un]) (F := fun y => .bl (isTupOf y ds.length && areEl y ds.length)) (te := tAndV (tCall (spD K R_is_tuple) [] E0 (tCons (tVar 2) (tCons (tVar 1) tNil))) (tCall (spD K R_are_elements) [] E0 (tCons (tVar 2) (tCons (tVar 1) tNil)))) (vs := [2]) (j := 2) (ei_seqT (ev_tp (ev_var rfl) hx)) (by rw [sizeLine_eq]; omega) (by decide)
          (fun d v hd => ev_and (ev_call (ea_cons (ev_var rfl) (ea_cons (ev_var rfl) ea_nil)) ⟨_, rfl, (hy d hd).1, rfl⟩) fun _ => ev_call (ea_cons (ev_var rfl) (ea_cons (ev_var rfl) ea_nil)) ⟨_, rfl, (hy d hd).1, (hy d hd).2, rfl⟩)
        rw [show (ds.map fun y => D.bl (isTupOf y ds.length && areEl y ds.length)) = (ds.map fun y => isTupOf y ds.length && areEl y ds.length).map D.bl by rw [List.map_map]; rfl] at hlc
        refine ex_ret (ev_is (ev_cb (ea_cons hlc ea_nil) cb_all) ?_) fun v => rfl
        unfold isTab
        rw [hq]
        show D.bl _ = D.bl (_ && _)
        rw [hb', List.all_map]
        rfl

end
end Kx


set_option Elab.async false
set_option linter.all false
set_option maxRecDepth 100000
set_option maxHeartbeats 2000000
namespace Kx
open PySem PySem.Spec PyProof.Rows L2 DL
section
variable {P : Program} {w : World} {K : PySem.W.Frag} {mg : Str → Option Value} {base : Heap}
/-- the table that data is -/
def natD (x : D) : Nat := match x.top with
  | .int i => i.toNat
  | _ => 0
def rowsOf (x : D) : List D := (tupsD x).getD []
def tabN (x : D) : Nat := (rowsOf x).length
def tabF (x : D) (a b : Nat) : Nat := natD ((rowsOf ((rowsOf x).getD a .non)).getD b .non)
structure TabOk (n : Nat) (f : Nat → Nat → Nat) : Prop where
  n1 : 1 ≤ n
  n10 : n ≤ 10
  cl : ∀ a b, a < n → b < n → f a b < n
theorem inRg_nat {x : D} {m : Nat} (h : inRg x 0 ((m : Int) - 1) = true) : x.top = .int (natD x : Nat) ∧ natD x < m := by
  obtain ⟨i, hi, h1, h2⟩ := inRg_iff h
  unfold natD
  rw [hi]
  refine ⟨?_, ?_⟩
  · show D.int i = D.int ((i.toNat : Nat) : Int)
    rw [Int.toNat_of_nonneg h1]
  · show i.toNat < m
    omega
theorem Dat.tp' {K : PySem.W.Frag} {G : Hp} {v : V} {x y : D} (h : Dat K G v x) (e : x.top = y) : Dat K G v y := e ▸ h.top
theorem datL_row {K : PySem.W.Frag} {G : Hp} {m : Nat} : ∀ {es : List D} {vs : List V}, DatL K G vs es → (∀ e ∈ es, inRg e 0 ((m : Int) - 1) = true) → DatL K G vs (es.map fun e => D.int (natD e : Nat))
  | [], _, .nil, _ => .nil
  | _ :: _, _, .cons a t, h => .cons (Dat.tp' a (inRg_nat (h _ List.mem_cons_self)).1) (datL_row t fun e he => h e (List.mem_cons_of_mem _ he))
theorem isTab_spec {x : D} (h : isTab x = true) : ∃ ds, x.top = .tup ds ∧ tabN x = ds.length ∧ 1 ≤ ds.length ∧ ds.length ≤ 10 ∧ ∀ a (ha : a < ds.length), ∃ es, ds[a].top = .tup es ∧ es.length = ds.length ∧ (∀ e ∈ es, inRg e 0 ((ds.length : Int) - 1) = true) ∧ ∀ b (hb : b < es.length), tabF x a b = natD es[b] := by
  unfold isTab at h
  cases q : tupsD x with
  | none => rw [q] at h; cases h
  | some ds =>
  rw [q] at h
  simp only [Bool.and_eq_true, decide_eq_true_eq, List.all_eq_true] at h
  obtain ⟨⟨h1, h2⟩, h3⟩ := h
  refine ⟨ds, tupsD_top q, by unfold tabN rowsOf; rw [q]; rfl, h1, h2, fun a ha => ?_⟩
  obtain ⟨h4, h5⟩ := h3 ds[a] (List.getElem_mem ha)
  unfold isTupOf at h4
  cases q2 : tupsD ds[a] with
  | none => rw [q2] at h4; cases h4
  | some es =>
  rw [q2] at h4
  have h4' := of_decide_eq_true h4
  have e2 : itemsD ds[a] = some es := by unfold itemsD; rw [tupsD_top q2]
  unfold areEl at h5
  rw [e2] at h5
  refine ⟨es, tupsD_top q2, by omega, fun e he => List.all_eq_true.mp h5 e he, fun b hb => ?_⟩
  unfold tabF rowsOf
  rw [q]
  simp only [Option.getD_some]
  have g1 : ds.getD a .non = ds[a] := by rw [List.getD_eq_getElem?_getD, List.getElem?_eq_getElem ha]; rfl
  have g2 : es.getD b .non = es[b] := by rw [List.getD_eq_getElem?_getD, List.getElem?_eq_getElem hb]; rfl
  rw [g1, q2]
  show natD (es.getD b .non) = _
  rw [g2]
theorem isTab_ok {x : D} (h : isTab x = true) : TabOk (tabN x) (tabF x) := by
  obtain ⟨ds, _, hn, h1, h2, h3⟩ := isTab_spec h
  rw [hn]
  refine ⟨h1, h2, fun a b ha hb => ?_⟩
  obtain ⟨es, _, hl, he, hf⟩ := h3 a ha
  rw [hf b (by omega)]
  exact (inRg_nat (he _ (List.getElem_mem (by omega)))).2
theorem tblD_of {K : PySem.W.Frag} {G : Hp} {x : D} (h : isTab x = true) {v : V} (hd : Dat K G v x) : Dat K G v (tblD (tabN x) (tabF x)) := by
  obtain ⟨ds, hx, hn, h1, h2, h3⟩ := isTab_spec h
  obtain ⟨p, xs, rfl, hs, hl⟩ := (Dat.tp' hd hx).tupV
  unfold tblD
  rw [hn]
  refine .tup hs ?_
  have key : ∀ (cs : List D) (ys : List V) (k : Nat), DatL K G ys cs → (∀ a (ha : a < cs.length), ∃ es, cs[a].top = .tup es ∧ es.length = ds.length ∧ (∀ e ∈ es, inRg e 0 ((ds.length : Int) - 1) = true) ∧ ∀ b (hb : b < es.length), tabF x (k + a) b = natD es[b]) →
      DatL K G ys ((List.range cs.length).map fun a => rowD ds.length (tabF x (k + a))) := by
    intro cs
    induction cs with
    | nil => intro ys k h _; cases h; exact .nil
    | cons c cs ih =>
      intro ys k h hh
      cases h with
      | cons d t =>
      rw [List.length_cons, List.range_succ_eq_map, List.map_cons, List.map_map]
      refine .cons ?_ ?_
      · obtain ⟨es, e1, e2, e3, e4⟩ := hh 0 (Nat.succ_pos _)
        obtain ⟨p2, zs, rfl, hs2, hl2⟩ := (Dat.tp' d e1).tupV
        unfold rowD
        have := datL_row hl2 e3
        refine .tup hs2 ?_
        have e5 : (List.map (fun y => D.int (tabF x (k + 0) y : Nat)) (List.range ds.length)) = es.map fun e => D.int (natD e : Nat) := by
          apply List.ext_getElem
          · simp [e2]
          · intro i i1 i2
            simp only [List.length_map, List.length_range] at i1
            simp only [List.getElem_map, List.getElem_range]
            rw [e4 i (by omega)]
        rw [e5]
        exact this
      · have := ih _ (k + 1) t (fun a ha => by
          obtain ⟨es, e1, e2, e3, e4⟩ := hh (a + 1) (by simpa using ha)
          exact ⟨es, by simpa using e1, e2, e3, fun b hb => by rw [← e4 b hb]; congr 1; omega⟩)
        have e6 : (List.map ((fun a => rowD ds.length (tabF x (k + a))) ∘ Nat.succ) (List.range cs.length)) = (List.range cs.length).map fun a => rowD ds.length (tabF x (k + 1 + a)) := by
          refine List.map_congr_left fun a _ => ?_
          show rowD ds.length (tabF x (k + (a + 1))) = _
          congr 2
          omega
        rw [e6]
        exact this
  have := key ds xs 0 hl (fun a ha => by
    obtain ⟨es, e1, e2, e3, e4⟩ := h3 a ha
    exact ⟨es, e1, e2, e3, fun b hb => by rw [Nat.zero_add]; exact e4 b hb⟩)
  simpa using this
def brkB (f : Nat → Nat → Nat) (a b c : Nat) : Bool := !decide (f (f a b) c = f a (f b c))
def assocB (n : Nat) (f : Nat → Nat → Nat) : Bool := (List.range n).all fun a => (List.range n).all fun b => (List.range n).all fun c => !brkB f a b c
theorem assocB_iff {n : Nat} {f : Nat → Nat → Nat} : assocB n f = true ↔ ∀ a b c, a < n → b < n → c < n → f (f a b) c = f a (f b c) := by
  unfold assocB brkB
  simp only [List.all_eq_true, List.mem_range, Bool.not_not, decide_eq_true_eq]
  exact ⟨fun h a b c ha hb hc => h a ha b hb c hc, fun h a ha b hb c hc => h a b c ha hb hc⟩
def R_is_broken : List D → D → Prop
  | [t, x, y, z], d => ∃ (n : Nat) (f : Nat → Nat → Nat) (a b c : Nat), t = tblD n f ∧ TabOk n f ∧ x = .int a ∧ y = .int b ∧ z = .int c ∧ a < n ∧ b < n ∧ c < n ∧ d = .bl (brkB f a b c)
  | _, _ => False
theorem ok_is_broken (T : Tx K mg) : FnOk P w K mg base CX0 1 T.f_is_broken T.d_is_broken p_is_broken (spD K R_is_broken) := by
  refine T.F_is_broken.ok sc_is_broken (fun vs H Q E h => ?_) (fun cdv A outer s H vs Q E hr h => ?_)
  · obtain ⟨G, ds, d, e, hd, hR, q⟩ := h
    rw [hd.length]
    match ds, hR with
    | [_, _, _, _], _ => rfl
  · refine ⟨_, (pss_one (ps_ret (pe_cmpR op_ne (pe_ix (ix_seqK K) (pe_ix (ix_seqK K) (pv 0) (pe_ix (ix_seqK K) (pe_ix (ix_seqK K) (pv 0) (pv 1) (fun _ _ => rfl)) (pv 2) (fun _ _ => rfl)) (fun _ _ => rfl)) (pv 3) (fun _ _ => rfl)) (pe_ix (ix_seqK K) (pe_ix (ix_seqK K) (pv 0) (pv 1) (fun _ _ => rfl)) (pe_ix (ix_seqK K) (pe_ix (ix_seqK K) (pv 0) (pv 2) (fun _ _ => rfl)) (pv 3) (fun _ _ => rfl)) (fun _ _ => rfl)) (nomark _)))), ?_⟩
    obtain ⟨G, ds, d, e, hd, hR, q⟩ := h
    have hl : ∃ x0 x1 x2 x3, ds = [x0, x1, x2, x3] := by
      match ds, hR with
      | [x0, x1, x2, x3], _ => exact ⟨x0, x1, x2, x3, rfl⟩
    obtain ⟨x0, x1, x2, x3, rfl⟩ := hl
    cases hd with
    | @cons v0 vs0 _ _ dv0 hd =>
    cases hd with
    | @cons v1 vs1 _ _ dv1 hd =>
    cases hd with
    | @cons v2 vs2 _ _ dv2 hd =>
    cases hd with
    | @cons v3 vs3 _ _ dv3 hd =>
    cases hd
    refine EX.fin (W := fun _ _ _ _ => False) (good_start e ((.cons dv0 (.cons dv1 (.cons dv2 (.cons dv3 .nil))))) n_is_broken) q ?_
    show EX K ⟨G, H, none⟩ _ _ [Sl.val v0 x0, Sl.val v1 x1, Sl.val v2 x2, Sl.val v3 x3] _
    obtain ⟨n, f, a, b, c, rfl, hf, rfl, rfl, rfl, ha, hb, hc, rfl⟩ := hR
    refine ex_ret (ev_is (ev_op (ev_row (ev_tbl (ev_var rfl) (ev_row (ev_tbl (ev_var rfl) (ev_var rfl) ha) (ev_var rfl) hb) (hf.cl _ _ ha hb)) (ev_var rfl) hc)
      (ev_row (ev_tbl (ev_var rfl) (ev_var rfl) ha) (ev_row (ev_tbl (ev_var rfl) (ev_var rfl) hb) (ev_var rfl) hc) (hf.cl _ _ hb hc)) op_neI) ?_) fun v => rfl
    unfold brkB
    rw [decide_eq_decide.mpr (show ((f (f a b) c : Nat) : Int) = ((f a (f b c) : Nat) : Int) ↔ f (f a b) c = f a (f b c) by omega)]
/-- the broken triples with a middle among ms -/
def brkL (n : Nat) (f : Nat → Nat → Nat) (ms : List Nat) : List D := flat (fun x => flat (fun y => flat (fun z => if decide (y ∈ ms) && brkB f x y z then [tupN [x, y, z]] else []) n) n) n
theorem flat_bd {F : Nat → List D} {m : Nat} : ∀ {n : Nat}, (∀ i, i < n → (F i).length ≤ m) → (flat F n).length ≤ n * m
  | 0, _ => by simp [flat]
  | n + 1, h => by
    rw [flat_succ, List.length_append, Nat.succ_mul]
    exact Nat.add_le_add (flat_bd fun i hi => h i (by omega)) (h n (by omega))
theorem flat_all {F : Nat → List D} {n : Nat} : flat F n = [] ↔ ∀ i, i < n → F i = [] := by
  constructor
  · intro h i hi
    unfold flat at h
    exact List.flatten_eq_nil_iff.mp h _ (List.mem_map.mpr ⟨i, List.mem_range.mpr hi, rfl⟩)
  · exact fun h => flat_nil h
def R_broken_with : List D → D → Prop
  | [t, m], d => ∃ (n : Nat) (f : Nat → Nat → Nat) (ms : List Nat), t = tblD n f ∧ TabOk n f ∧ m = .lst (lstN ms) ∧ d = .lst (brkL n f ms)
  | _, _ => False
theorem ok_broken_with (T : Tx K mg) : FnOk P w K mg base CX0 2 T.f_broken_with T.d_broken_with p_broken_with (spD K R_broken_with) := by
  refine T.F_broken_with.ok sc_broken_with (fun vs H Q E h => ?_) (fun cdv A outer s H vs Q E hr h => ?_)
  · obtain ⟨G, ds, d, e, hd, hR, q⟩ := h
    rw [hd.length]
    match ds, hR with
    | [_, _], _ => rfl
  · refine ⟨_, (pss_cons (ps_set (i := 2) sc_broken_with.nd rfl (.inr rfl) (pe_callTy cr_range1 (by rfl) T.m_range (by decide +kernel) (pa_cons (pe_callB (call_lenK K) (by rfl) T.m_len (by decide +kernel) (pa_cons (pv 0) pa_nil)) pa_nil)))
      (pss_one (ps_ret (pe_lcN (own := [("x", 3), ("y", 4), ("z", 5)]) rfl sc_broken_with.nd (pi_rngO (pv 2)) (blkOk_by (by rfl)) (fun _ _ _ _ _ => pg_name (i := 3) sc_broken_with.nd rfl (by first | exact .inl rfl | exact .inr rfl)) (fun _ _ _ _ _ => pts_nil) (fun _ _ _ _ _ => (.cons (vs' := [4, 5]) (pi_rngO (pv 2)) (pg_name (i := 4) sc_broken_with.nd rfl (by first | exact .inl rfl | exact .inr rfl)) pts_nil (by intro _; rfl) (by decide) (.cons (vs' := [5]) (pi_rngO (pv 2)) (pg_name (i := 5) sc_broken_with.nd rfl (by first | exact .inl rfl | exact .inr rfl)) (pts_one (PW.pt (pw_and (pt_cmpR (op_inK K) (pv 4) (pv 1) (by with_unfolding_all rfl)) (pw_and1 (pt_val (pe_call (ok_is_broken T) (hr.mono (by omega)) (by rfl) T.g_is_broken T.F_is_broken.kp T.b_is_broken .nil pass0 (pa_cons (pv 0) (pa_cons (pv 3) (pa_cons (pv 4) (pa_cons (pv 5) pa_nil)))))))))) (by intro _; rfl) (by decide) .nil))) (fun _ _ _ _ _ => (pe_tup (pa_cons (pv 3) (pa_cons (pv 4) (pa_cons (pv 5) pa_nil))))))))), ?_⟩
    obtain ⟨G, ds, d, e, hd, hR, q⟩ := h
    have hl : ∃ x0 x1, ds = [x0, x1] := by
      match ds, hR with
      | [x0, x1], _ => exact ⟨x0, x1, rfl⟩
    obtain ⟨x0, x1, rfl⟩ := hl
    cases hd with
    | @cons v0 vs0 _ _ dv0 hd =>
    cases hd with
    | @cons v1 vs1 _ _ dv1 hd =>
    cases hd
    refine EX.fin (W := fun _ _ _ _ => False) (good_start e ((.cons dv0 (.cons dv1 .nil))) n_broken_with) q ?_
    show EX K ⟨G, H, none⟩ _ _ [Sl.val v0 x0, Sl.val v1 x1, Sl.un, Sl.un, Sl.un, Sl.un] _
    obtain ⟨n, f, ms, rfl, hf, rfl, rfl⟩ := hR
    refine ex_let (ev_cb (ea_cons (ev_cb (ea_cons (ev_var rfl) ea_nil) cb_lenTbl) ea_nil) cb_range1) fun v2 => ?_
    have hn := hf.n10
    have bz : ∀ x y, (flat (fun z => if decide (y ∈ ms) && brkB f x y z then [tupN [x, y, z]] else []) n).length ≤ n * 1 := fun x y => flat_bd fun z _ => by
      show (if decide (y ∈ ms) && brkB f x y z then [tupN [x, y, z]] else []).length ≤ 1
      split <;> simp
    have by' : ∀ x, (flat (fun y => flat (fun z => if decide (y ∈ ms) && brkB f x y z then [tupN [x, y, z]] else []) n) n).length ≤ n * (n * 1) := fun x => flat_bd fun y _ => bz x y
    have bx : (brkL n f ms).length ≤ n * (n * (n * 1)) := flat_bd fun x _ => by' x
    have bb : n * (n * (n * 1)) ≤ 1000 := by
      have h1 : n * 1 ≤ 10 := by omega
      have h2 : n * (n * 1) ≤ 10 * 10 := Nat.mul_le_mul hn h1
      exact Nat.le_trans (Nat.mul_le_mul hn h2) (by decide)
    refine ex_ret (ev_lcMR (f := fun _ => true) (F := fun x => flat (fun y => flat (fun z => if decide (y ∈ ms) && brkB f x y z then [tupN [x, y, z]] else []) n) n) (ev_var rfl) (by omega) (by decide) (fun x vx hx => ⟨et_yes, fun _ => ?_⟩) (fun i hi h => by cases h) (by show (brkL n f ms).length < _; rw [sizeLine_eq]; omega)) fun v => rfl
    refine evin_rngO (f := fun _ => true) (F := fun y => flat (fun z => if decide (y ∈ ms) && brkB f x y z then [tupN [x, y, z]] else []) n) (ev_var rfl) (by omega) (by decide) (fun y vy hy => ⟨et_yes, fun _ => ?_⟩) (fun i hi h => by cases h)
    refine evin_rngO (f := fun z => decide (y ∈ ms) && brkB f x y z) (F := fun z => if decide (y ∈ ms) && brkB f x y z then [tupN [x, y, z]] else []) (ev_var rfl) (by omega) (by decide) (fun z vz hz => ⟨?_, fun h => ?_⟩) (fun i hi h => by rw [if_neg (by rw [h]; exact Bool.false_ne_true)])
    · exact et_and (et_test (ev_op (ev_var rfl) (ev_var rfl) op_inN)) fun _ => et_B (ev_call (ea_cons (ev_var rfl) (ea_cons (ev_var rfl) (ea_cons (ev_var rfl) (ea_cons (ev_var rfl) ea_nil)))) ⟨n, f, x, y, z, rfl, hf, rfl, rfl, rfl, hx, hy, hz, rfl⟩)
    · rw [if_pos h]
      exact evin_nil (ev_tup (ea_cons (ev_var rfl) (ea_cons (ev_var rfl) (ea_cons (ev_var rfl) ea_nil))) (sz 3))

end
end Kx


set_option Elab.async false
set_option linter.all false
set_option maxRecDepth 100000
set_option maxHeartbeats 2000000
namespace Kx
open PySem PySem.Spec PyProof.Rows L2 DL
section
variable {P : Program} {w : World} {K : PySem.W.Frag} {mg : Str → Option Value} {base : Heap}
theorem brk_tn {n : Nat} {f : Nat → Nat → Nat} {ms : List Nat} : ∃ L : List (List Nat), brkL n f ms = L.map tupN := by
  have key : ∀ ds : List D, (∀ d ∈ ds, ∃ l, d = tupN l) → ∃ L : List (List Nat), ds = L.map tupN := by
    intro ds
    induction ds with
    | nil => exact fun _ => ⟨[], rfl⟩
    | cons d ds ih =>
      intro h
      obtain ⟨l, rfl⟩ := h d List.mem_cons_self
      obtain ⟨L, rfl⟩ := ih fun e he => h e (List.mem_cons_of_mem _ he)
      exact ⟨l :: L, rfl⟩
  have mem : ∀ {F : Nat → List D} {m : Nat} {d : D}, d ∈ flat F m → ∃ i, i < m ∧ d ∈ F i := by
    intro F m d h
    unfold flat at h
    obtain ⟨l, hl, hd⟩ := List.mem_flatten.mp h
    obtain ⟨i, hi, rfl⟩ := List.mem_map.mp hl
    exact ⟨i, List.mem_range.mp hi, hd⟩
  refine key _ fun d hd => ?_
  obtain ⟨x, _, h1⟩ := mem hd
  obtain ⟨y, _, h2⟩ := mem h1
  obtain ⟨z, _, h3⟩ := mem h2
  split at h3
  · exact ⟨_, List.mem_singleton.mp h3⟩
  · cases h3
theorem brk_nil {n : Nat} {f : Nat → Nat → Nat} : brkL n f (List.range n) = [] ↔ assocB n f = true := by
  unfold brkL assocB
  rw [flat_all]
  simp only [List.all_eq_true, List.mem_range]
  constructor
  · intro h x hx y hy z hz
    have := flat_all.mp (flat_all.mp (h x hx) y hy) z hz
    cases q : brkB f x y z with
    | false => rfl
    | true =>
      rw [q, decide_eq_true hy] at this
      cases this
  · intro h x hx
    refine flat_all.mpr fun y hy => flat_all.mpr fun z hz => ?_
    have h1 := h x hx y hy z hz
    have : brkB f x y z = false := by
      cases q : brkB f x y z with
      | false => rfl
      | true => rw [q] at h1; cases h1
    rw [this, Bool.and_false, if_neg Bool.false_ne_true]
theorem op_eqTN {K : PySem.W.Frag} {L : List (List Nat)} : OpD K (rEqD K) (.lst (L.map tupN)) (.lst []) (.bl (decide (L = []))) := fun G H v1 v2 e d1 d2 Q q => by
  obtain ⟨a, xs, rfl, ha, hx⟩ := d1.lstV
  cases d2 with
  | lst a2 b2 =>
  cases b2
  refine ⟨_, _, .lst (.inl (.inl (e _ _ ha))) (DatL.tns e hx), Dp.nil (e _ _ a2), tn_shaped L, rfl, ?_⟩
  have e2 : PyData.eqv (.list (L.map tupP)) (.list []) = decide (L = []) := by
    cases L with
    | nil => rfl
    | cons x L => rfl
  rw [e2]
  exact q _ G H (.refl e) (.bl _)
theorem rgD_nat (n : Nat) : rgD 0 n = lstN (List.range n) := by
  unfold rgD lstN
  refine List.map_congr_left fun i _ => ?_
  show D.int (0 + (i : Nat)) = _
  rw [Int.zero_add]

/-- semigroups -/
def isSemi (x : D) : Bool := isTab x && assocB (tabN x) (tabF x)
def R_is_semigroup : List D → D → Prop
  | [x], d => Ty3 x ∧ d = .bl (isSemi x)
  | _, _ => False
theorem ok_is_semigroup (T : Tx K mg) : FnOk P w K mg base CX0 6 T.f_is_semigroup T.d_is_semigroup p_is_semigroup (spD K R_is_semigroup) := by
  refine T.F_is_semigroup.ok sc_is_semigroup (fun vs H Q E h => ?_) (fun cdv A outer s H vs Q E hr h => ?_)
  · obtain ⟨G, ds, d, e, hd, hR, q⟩ := h
    rw [hd.length]
    match ds, hR with
    | [_], _ => rfl
  · refine ⟨_, (pss_one (ps_ret (pe_and (pe_call (ok_is_table T) (hr.mono (by omega)) (by rfl) T.g_is_table T.F_is_table.kp T.b_is_table .nil pass0 (pa_cons (pv 0) pa_nil)) (pe_one (pe_cmpR (op_eqD hr.units) (pe_call (ok_broken_with T) (hr.mono (by omega)) (by rfl) T.g_broken_with T.F_broken_with.kp T.b_broken_with .nil pass0 (pa_cons (pv 0) (pa_cons (pe_listRg rfl (by rfl) T.m_list (prg_1 (by rfl) T.m_range (pe_callB (call_lenK K) (by rfl) T.m_len (by decide +kernel) (pa_cons (pv 0) pa_nil)))) pa_nil))) (pe_lst pa_nil) (nomark _)))))), ?_⟩
    obtain ⟨G, ds, d, e, hd, hR, q⟩ := h
    have hl : ∃ x0, ds = [x0] := by
      match ds, hR with
      | [x0], _ => exact ⟨x0, rfl⟩
    obtain ⟨x0, rfl⟩ := hl
    cases hd with
    | @cons v0 vs0 _ _ dv0 hd =>
    cases hd
    refine EX.fin (W := fun _ _ _ _ => False) (good_start e ((.cons dv0 .nil)) n_is_semigroup) q ?_
    show EX K ⟨G, H, none⟩ _ _ [Sl.val v0 x0] _
    obtain ⟨hT, rfl⟩ := hR
    refine ex_ret (ev_and (ev_call (ea_cons (ev_var rfl) ea_nil) ⟨hT, rfl⟩) fun h => ?_) fun v => rfl
    have hv : EV K ⟨G, H, none⟩ (tVar 0) [Sl.val v0 x0] (tblD (tabN x0) (tabF x0)) := ev_up (ev_var rfl) fun G v hd => tblD_of h hd
    have hok := isTab_ok h
    obtain ⟨L, hL⟩ := brk_tn (n := tabN x0) (f := tabF x0) (ms := List.range (tabN x0))
    have hb : EV K ⟨G, H, none⟩ _ [Sl.val v0 x0] (.lst (brkL (tabN x0) (tabF x0) (List.range (tabN x0)))) := ev_call (K := K) (R := R_broken_with) (E := E0) (ea_cons hv (ea_cons (ev_lstRg1 (ev_cb (ea_cons hv ea_nil) cb_lenTbl) (by have := hok.n10; omega) (by omega)) ea_nil)) ⟨tabN x0, tabF x0, List.range (tabN x0), rfl, hok, by rw [Int.toNat_natCast, rgD_nat], rfl⟩
    rw [hL] at hb
    refine ev_is (ev_op hb (ev_lst ea_nil (sz 0)) op_eqTN) ?_
    congr 1
    rw [Bool.eq_iff_iff, decide_eq_true_eq, ← brk_nil, hL]
    exact (List.map_eq_nil_iff).symm

def R_check_semigroup : List D → D → Prop
  | [x], d => Ty3 x ∧ isSemi x = true ∧ d = .non
  | _, _ => False
def E_check_semigroup (T : Tx K mg) (vs : List V) : List D → Value → Str → V → Prop
  | [x], c, f, u => Ty3 x ∧ isSemi x = false ∧ c = .ref T.c_InvalidTable ∧ f = "given" ∧ vs = [u]
  | _, _, _, _ => False
theorem ok_check_semigroup (T : Tx K mg) : FnOk P w K mg base (L2.CX P w) 7 T.f_check_semigroup T.d_check_semigroup p_check_semigroup (spX K R_check_semigroup (E_check_semigroup T)) := by
  refine T.F_check_semigroup.okX sc_check_semigroup (fun vs H Q E h => ?_) (fun cdv A outer s H vs Q E hr h => ?_)
  · obtain ⟨G, ds, e, hd, hR | hR⟩ := h
    · rw [hd.length]; obtain ⟨d, hR, q⟩ := hR
      match ds, hR with
      | [_], _ => rfl
    · rw [hd.length]; obtain ⟨c, f, v, hR, q⟩ := hR
      match ds, hR with
      | [_], _ => rfl
  · have tk : Takes (cxOf (L2.CX P w) P w K mg base n_check_semigroup "check_semigroup" (defScope s_check_semigroup) T.f_check_semigroup cdv A outer s H E) (fun cls d _ H => E cls d H) := takes_of rfl rfl rfl rfl
    have hpass : PassesOwn _ _ _ (cxOf (L2.CX P w) P w K mg base n_check_semigroup "check_semigroup" (defScope s_check_semigroup) T.f_check_semigroup cdv A outer s H E).xe := passes_of (X := cxOf (L2.CX P w) P w K mg base n_check_semigroup "check_semigroup" (defScope s_check_semigroup) T.f_check_semigroup cdv A outer s H E) rfl
    refine ⟨_, (pss_one (ps_if (pt_not (pt_val (pe_call (ok_is_semigroup T) (hr.mono (by omega)) (by rfl) T.g_is_semigroup T.F_is_semigroup.kp T.b_is_semigroup .nil pass0 (pa_cons (pv 0) pa_nil)))) (pss_one (ps_raise rfl tk (pmk_oex T.e_InvalidTable.oe T.e_InvalidTable.iC T.e_InvalidTable.tI (ok_init_InvalidTable T) (hr.mono (by omega)) T.bi_InvalidTable .nil pass0 (by rfl) T.e_InvalidTable.gC (pa_cons (pv 0) pa_nil)))) pss_nil)), ?_⟩
    obtain ⟨G, ds, e, hd, hh⟩ := h
    have hl : ∃ x0, ds = [x0] := by
      rcases hh with ⟨d, hR, _⟩ | ⟨c, f, v, hR, _⟩
      · match ds, hR with
        | [x0], _ => exact ⟨x0, rfl⟩
      · match ds, hR with
        | [x0], _ => exact ⟨x0, rfl⟩
    obtain ⟨x0, rfl⟩ := hl
    cases hd with
    | @cons v0 vs0 _ _ dv0 hd =>
    cases hd
    refine EX.finX (good_start e ((.cons dv0 .nil)) n_check_semigroup) (hh.imp (fun ⟨d, hR, q⟩ => ⟨d, q, ?_⟩) fun ⟨cls, f, v, hE, q⟩ => ⟨cls, f, v, q, ?_⟩) <;> show EX K ⟨G, H, none⟩ _ _ [Sl.val v0 x0] _
    · obtain ⟨h1, h2, rfl⟩ := hR
      exact ex_if (b := false) (et_is (et_not (et_B (ev_call (ea_cons (ev_var rfl) ea_nil) ⟨h1, rfl⟩))) (by rw [h2]; rfl)) (fun h => by cases h) fun _ => ex_next rfl
    · obtain ⟨h1, h2, rfl, rfl, hv⟩ := hE
      cases hv
      refine ex_if (b := true) (et_is (et_not (et_B (ev_call (ea_cons (ev_var rfl) ea_nil) ⟨h1, rfl⟩))) (by rw [h2]; rfl)) (fun _ => ?_) fun h => by cases h
      exact ex_raise (eav_cons (evv_var rfl) eav_nil) T.e_InvalidTable.oe T.e_InvalidTable.nf ⟨rfl, rfl, rfl⟩

def SgOk (n : Nat) (f : Nat → Nat → Nat) : Prop := TabOk n f ∧ MP.Semi n f
theorem SgOk.of {n : Nat} {f : Nat → Nat → Nat} (h : MP.Semi n f) (h1 : 1 ≤ n) (h2 : n ≤ 10) : SgOk n f := ⟨⟨h1, h2, h.cl⟩, h⟩
def rowL (n : Nat) (f : Nat → Nat) : List D := (List.range n).map fun y => .int (f y : Nat)
def rowsT (n : Nat) (f : Nat → Nat → Nat) : List D := (List.range n).map fun x => rowD n (f x)
def rowsL (n : Nat) (f : Nat → Nat → Nat) : List D := (List.range n).map fun x => .lst (rowL n (f x))
theorem rowL_len {n : Nat} {f : Nat → Nat} : (rowL n f).length = n := by unfold rowL; simp
theorem rowsT_len {n : Nat} {f : Nat → Nat → Nat} : (rowsT n f).length = n := by unfold rowsT; simp
theorem rowsL_len {n : Nat} {f : Nat → Nat → Nat} : (rowsL n f).length = n := by unfold rowsL; simp
theorem isTab_tbl {n : Nat} {f : Nat → Nat → Nat} (hf : TabOk n f) : isTab (tblD n f) = true ∧ tabN (tblD n f) = n ∧ ∀ a b, a < n → b < n → tabF (tblD n f) a b = f a b := by
  have l := rowsT_len (n := n) (f := f)
  refine ⟨?_, rowsT_len, fun a b ha hb => ?_⟩
  · show (decide (1 ≤ (rowsT n f).length) && decide ((rowsT n f).length ≤ 10) && (rowsT n f).all fun l => isTupOf l (rowsT n f).length && areEl l (rowsT n f).length) = true
    rw [l, decide_eq_true hf.n1, decide_eq_true hf.n10, Bool.true_and, Bool.true_and, List.all_eq_true]
    intro y hy
    unfold rowsT at hy
    obtain ⟨i, hi, rfl⟩ := List.mem_map.mp hy
    have hi := List.mem_range.mp hi
    rw [Bool.and_eq_true]
    refine ⟨?_, ?_⟩
    · show decide (((rowL n (f i)).length : Int) = (n : Int)) = true
      rw [rowL_len]; exact decide_eq_true rfl
    · show ((rowL n (f i)).all fun y => inRg y 0 ((n : Int) - 1)) = true
      rw [List.all_eq_true]
      intro z hz
      unfold rowL at hz
      obtain ⟨j, hj, rfl⟩ := List.mem_map.mp hz
      have := hf.cl i j hi (List.mem_range.mp hj)
      show (decide ((0 : Int) ≤ (f i j : Int)) && decide ((f i j : Int) ≤ (n : Int) - 1)) = true
      rw [decide_eq_true (by omega), decide_eq_true (by omega)]
      rfl
  · unfold tabF rowsOf
    show natD (((tupsD ((rowsT n f).getD a .non)).getD []).getD b .non) = f a b
    have e1 : (rowsT n f).getD a .non = rowD n (f a) := by
      unfold rowsT
      rw [List.getD_eq_getElem?_getD, List.getElem?_map, List.getElem?_range ha]
      rfl
    rw [e1]
    show natD ((rowL n (f a)).getD b .non) = f a b
    unfold rowL
    rw [List.getD_eq_getElem?_getD, List.getElem?_map, List.getElem?_range hb]
    show ((f a b : Nat) : Int).toNat = f a b
    rw [Int.toNat_natCast]
theorem isSemi_tbl {n : Nat} {f : Nat → Nat → Nat} (h : SgOk n f) : isSemi (tblD n f) = true := by
  obtain ⟨h1, h2, h3⟩ := isTab_tbl h.1
  unfold isSemi
  rw [h1, h2, Bool.true_and, assocB_iff]
  intro a b c ha hb hc
  have hab := h.1.cl a b ha hb
  have hbc := h.1.cl b c hb hc
  rw [h3 a b ha hb, h3 b c hb hc, h3 _ _ hab hc, h3 _ _ ha hbc]
  exact h.2.as a b c ha hb hc
theorem ty3_tbl {n : Nat} {f : Nat → Nat → Nat} (h : n ≤ 10) : Ty3 (tblD n f) := by
  refine ⟨(fun z => nomatch z), fun ds hd => ?_⟩
  cases hd
  refine ⟨by rw [List.length_map, List.length_range]; omega, fun y hy => ?_⟩
  obtain ⟨i, _, rfl⟩ := List.mem_map.mp hy
  refine ⟨(fun z => nomatch z), fun es he => ?_⟩
  cases he
  refine ⟨by rw [List.length_map, List.length_range]; omega, fun z hz => ?_⟩
  obtain ⟨j, _, rfl⟩ := List.mem_map.mp hz
  exact fun z => nomatch z
theorem inRg_int {x n : Nat} (h : x < n) : inRg (.int (x : Nat)) 0 ((n : Int) - 1) = true := by
  show (decide ((0 : Int) ≤ (x : Int)) && decide ((x : Int) ≤ (n : Int) - 1)) = true
  rw [decide_eq_true (by omega), decide_eq_true (by omega)]
  rfl

theorem okc_semi {n : Nat} {f : Nat → Nat → Nat} (h : SgOk n f) : R_check_semigroup [tblD n f] .non := ⟨ty3_tbl h.1.n10, isSemi_tbl h, rfl⟩

end
end Kx


set_option Elab.async false
set_option linter.all false
set_option maxRecDepth 100000
set_option maxHeartbeats 2000000
namespace Kx
open PySem PySem.Spec PyProof.Rows L2 DL
section
variable {P : Program} {w : World} {K : PySem.W.Frag} {mg : Str → Option Value} {base : Heap}
def eN (a b : Nat) : Bool := decide (a = b)
def R_dr (res : Nat → (Nat → Nat → Nat) → D) : List D → D → Prop
  | [t], d => ∃ n f, SgOk n f ∧ t = tblD n f ∧ d = res n f
  | _, _ => False
def R_dt (res : Nat → (Nat → Nat → Nat) → D) : List D → D → Prop
  | [t], d => ∃ n f, TabOk n f ∧ t = tblD n f ∧ d = res n f
  | _, _ => False
abbrev Tab := Nat → Nat → Nat
def idemL (n : Nat) (f : Tab) : List Nat := fltN n fun x => decide (f x x = x)
def lidL (n : Nat) (f : Tab) : List Nat := fltN n fun e => allN n fun x => decide (f e x = x)
def ridL (n : Nat) (f : Tab) : List Nat := fltN n fun e => allN n fun x => decide (f x e = x)
def lzeL (n : Nat) (f : Tab) : List Nat := fltN n fun e => allN n fun x => decide (f e x = e)
def rzeL (n : Nat) (f : Tab) : List Nat := fltN n fun e => allN n fun x => decide (f x e = e)
def oneL (n : Nat) (f : Tab) : List Nat := fltN n fun e => allN n fun x => decide (f e x = x) && decide (x = f x e)
def zerL (n : Nat) (f : Tab) : List Nat := fltN n fun e => allN n fun x => decide (f e x = e) && decide (e = f x e)
def cenL (n : Nat) (f : Tab) : List Nat := fltN n fun x => allN n fun y => decide (f x y = f y x)
def cntN (n : Nat) (f : Tab) : Nat := ((List.range n).map fun x => (fltN n fun y => decide (f x y = f y x)).length).sum
def rowI (n : Nat) (f : Tab) (x : Nat) : List Int := (List.range n).map fun y => ((f x y : Nat) : Int)
def colI (n : Nat) (f : Tab) (x : Nat) : List Int := (List.range n).map fun y => ((f y x : Nat) : Int)
def lcaL (n : Nat) (f : Tab) : List Nat := fltN n fun x => decide (dcount (rowI n f x) = n)
def rcaL (n : Nat) (f : Tab) : List Nat := fltN n fun x => decide (dcount (colI n f x) = n)
def uniL (n : Nat) (f : Tab) : List Nat := match oneL n f with
  | [] => []
  | e :: _ => fltN n fun x => anyN n fun y => decide (f x y = e) && decide (e = f y x)
def commD (n : Nat) (f : Tab) : D := .tup [.int ((cntN n f / Nat.gcd (cntN n f) (n * n) : Nat) : Int), .int ((n * n / Nat.gcd (cntN n f) (n * n) : Nat) : Int)]
def cancD (n : Nat) (f : Tab) : D := .tup [tupN (lcaL n f), tupN (rcaL n f)]
/-- what the doors answer, one after another -/
def resD (n : Nat) (f : Tab) : List D := [tupN (idemL n f), tupN (lidL n f), tupN (ridL n f), tupN (lzeL n f), tupN (rzeL n f), hdD (oneL n f), hdD (zerL n f), tupN (cenL n f), commD n f, cancD n f, tupN (uniL n f)]
theorem op_isNI {i : Int} : OpD K rIsN (.int i) .non (.bl false) := fun G H v1 v2 e d1 d2 Q q => by
  cases d2
  rw [d1.intV]
  exact ⟨rfl, q _ G H (.refl e) (.bl _)⟩
theorem flat_len {F : Nat → List D} : ∀ n : Nat, (flat F n).length = ((List.range n).map fun i => (F i).length).sum
  | 0 => rfl
  | n + 1 => by
    rw [flat_succ, List.length_append, flat_len n, List.range_succ, List.map_append, List.sum_append]
    simp
theorem flat_if {p : Nat → Bool} {d : D} : ∀ n : Nat, (flat (fun y => if p y = true then [d] else []) n).length = (fltN n p).length
  | 0 => rfl
  | n + 1 => by
    rw [flat_succ, List.length_append, flat_if n]
    unfold fltN
    rw [List.range_succ, List.filter_append, List.length_append]
    congr 1
    cases h : p n with
    | true => simp [h]
    | false => simp [h]
theorem sum_le {g : Nat → Nat} {m : Nat} : ∀ n : Nat, (∀ i, i < n → g i ≤ m) → ((List.range n).map g).sum ≤ n * m
  | 0, _ => by simp
  | n + 1, h => by
    rw [List.range_succ, List.map_append, List.sum_append, Nat.succ_mul]
    have h1 := sum_le (g := g) (m := m) n fun i hi => h i (by omega)
    have h2 := h n (by omega)
    simp
    omega
theorem cnt_le {n : Nat} {f : Tab} : cntN n f ≤ n * n := sum_le n fun i _ => fltN_len
theorem int_quo (a b : Nat) : ((a : Int) / (b : Int)) = ((a / b : Nat) : Int) := rfl
theorem ok_idempotents_in (T : Tx K mg) : FnOk P w K mg base CX0 1 T.f_idempotents_in T.d_idempotents_in p_idempotents_in (spD K (R_dt fun n f => tupN (idemL n f))) := by
  refine T.F_idempotents_in.ok sc_idempotents_in (fun vs H Q E h => ?_) (fun cdv A outer s H vs Q E hr h => ?_)
  · obtain ⟨G, ds, d, e, hd, hR, q⟩ := h
    rw [hd.length]
    match ds, hR with
    | [_], _ => rfl
  · refine ⟨_, (pss_one (ps_ret (pe_tupleOfK K (by rfl) T.m_tuple (pe_lc (own := [("x", 1)]) rfl sc_idempotents_in.nd (pi_range1 (by rfl) T.m_range (pa_cons (pe_callB (call_lenK K) (by rfl) T.m_len (by decide +kernel) (pa_cons (pv 0) pa_nil)) pa_nil)) (blkOk_by (by rfl)) (fun _ _ _ _ _ => pg_name (i := 1) sc_idempotents_in.nd rfl (by first | exact .inl rfl | exact .inr rfl)) (fun _ _ _ _ _ => (pts_one (pt_cmpR op_eq (pe_ix (ix_seqK K) (pe_ix (ix_seqK K) (pv 0) (pv 1) (fun _ _ => rfl)) (pv 1) (fun _ _ => rfl)) (pv 1) (nomark _)))) (fun _ _ _ _ _ => (pv 1)))))), ?_⟩
    obtain ⟨G, ds, d, e, hd, hR, q⟩ := h
    have hl : ∃ x0, ds = [x0] := by
      match ds, hR with
      | [x0], _ => exact ⟨x0, rfl⟩
    obtain ⟨x0, rfl⟩ := hl
    cases hd with
    | @cons v0 vs0 _ _ dv0 hd =>
    cases hd
    refine EX.fin (W := fun _ _ _ _ => False) (good_start e ((.cons dv0 .nil)) n_idempotents_in) q ?_
    show EX K ⟨G, H, none⟩ _ _ [Sl.val v0 x0, Sl.un] _
    obtain ⟨n, f, hf, rfl, rfl⟩ := hR
    have hn := hf.n10
    have hl : n < 1000000 := by omega
    exact ex_ret (ev_then (ev_fltI (p := fun x => decide (f x x = x)) (ei_rng1N (ev_cb (ea_cons (ev_var rfl) ea_nil) cb_lenTbl) hl) hl (by decide) (fun e v he => et_test (ev_op (ev_row (ev_tbl (ev_var rfl) (ev_var rfl) he) (ev_var rfl) he) (ev_var rfl) op_eqN)) fun e v he => ev_var rfl) un_tupN) fun v => rfl
theorem ok_idempotents (T : Tx K mg) : FnOk P w K mg base (L2.CX P w) 9 T.f_idempotents T.d_idempotents p_idempotents (spX K (R_dr fun n f => tupN (idemL n f)) (E_check_semigroup T)) := by
  refine T.F_idempotents.okX sc_idempotents (fun vs H Q E h => ?_) (fun cdv A outer s H vs Q E hr h => ?_)
  · obtain ⟨G, ds, e, hd, hR | hR⟩ := h
    · rw [hd.length]; obtain ⟨d, hR, q⟩ := hR
      match ds, hR with
      | [_], _ => rfl
    · rw [hd.length]; obtain ⟨c, f, v, hR, q⟩ := hR
      match ds, hR with
      | [_], _ => rfl
  · have tk : Takes (cxOf (L2.CX P w) P w K mg base n_idempotents "idempotents" (defScope s_idempotents) T.f_idempotents cdv A outer s H E) (fun cls d _ H => E cls d H) := takes_of rfl rfl rfl rfl
    have hpass : PassesOwn _ _ _ (cxOf (L2.CX P w) P w K mg base n_idempotents "idempotents" (defScope s_idempotents) T.f_idempotents cdv A outer s H E).xe := passes_of (X := cxOf (L2.CX P w) P w K mg base n_idempotents "idempotents" (defScope s_idempotents) T.f_idempotents cdv A outer s H E) rfl
    refine ⟨_, (pss_cons (ps_expr (pe_callS (ok_check_semigroup T) (hr.mono (by omega)) (by rfl) T.g_check_semigroup T.F_check_semigroup.kp T.b_check_semigroup (fun σ => passAt tk σ) (pa_cons (pv 0) pa_nil)))
      (pss_one (ps_ret (pe_call (ok_idempotents_in T) (hr.mono (by omega)) (by rfl) T.g_idempotents_in T.F_idempotents_in.kp T.b_idempotents_in .nil pass0 (pa_cons (pv 0) pa_nil))))), ?_⟩
    obtain ⟨G, ds, e, hd, hh⟩ := h
    have hl : ∃ x0, ds = [x0] := by
      rcases hh with ⟨d, hR, _⟩ | ⟨c, f, v, hR, _⟩
      · match ds, hR with
        | [x0], _ => exact ⟨x0, rfl⟩
      · match ds, hR with
        | [x0], _ => exact ⟨x0, rfl⟩
    obtain ⟨x0, rfl⟩ := hl
    cases hd with
    | @cons v0 vs0 _ _ dv0 hd =>
    cases hd
    refine EX.finX (good_start e ((.cons dv0 .nil)) n_idempotents) (hh.imp (fun ⟨d, hR, q⟩ => ⟨d, q, ?_⟩) fun ⟨cls, f, v, hE, q⟩ => ⟨cls, f, v, q, ?_⟩) <;> show EX K ⟨G, H, none⟩ _ _ [Sl.val v0 x0] _
    · obtain ⟨n, f, hs, rfl, rfl⟩ := hR
      have hn := hs.1.n10
      have hl : n < 1000000 := by omega
      refine ex_cons (ex_drop (ev_callX (ea_cons (ev_var rfl) ea_nil) (okc_semi hs)) rfl) ?_
      exact ex_ret (ev_call (ea_cons (ev_var rfl) ea_nil) ⟨n, f, hs.1, rfl, rfl⟩) fun v => rfl
    · obtain ⟨h1, h2, rfl, rfl, hv⟩ := hE
      cases hv
      exact ex_rsDrop (rs_call (eav_cons (evv_var rfl) eav_nil) ⟨h1, h2, rfl, rfl, rfl⟩) ⟨rfl, rfl, rfl⟩
theorem ok_left_identities (T : Tx K mg) : FnOk P w K mg base (L2.CX P w) 9 T.f_left_identities T.d_left_identities p_left_identities (spX K (R_dr fun n f => tupN (lidL n f)) (E_check_semigroup T)) := by
  refine T.F_left_identities.okX sc_left_identities (fun vs H Q E h => ?_) (fun cdv A outer s H vs Q E hr h => ?_)
  · obtain ⟨G, ds, e, hd, hR | hR⟩ := h
    · rw [hd.length]; obtain ⟨d, hR, q⟩ := hR
      match ds, hR with
      | [_], _ => rfl
    · rw [hd.length]; obtain ⟨c, f, v, hR, q⟩ := hR
      match ds, hR with
      | [_], _ => rfl
  · have tk : Takes (cxOf (L2.CX P w) P w K mg base n_left_identities "left_identities" (defScope s_left_identities) T.f_left_identities cdv A outer s H E) (fun cls d _ H => E cls d H) := takes_of rfl rfl rfl rfl
    have hpass : PassesOwn _ _ _ (cxOf (L2.CX P w) P w K mg base n_left_identities "left_identities" (defScope s_left_identities) T.f_left_identities cdv A outer s H E).xe := passes_of (X := cxOf (L2.CX P w) P w K mg base n_left_identities "left_identities" (defScope s_left_identities) T.f_left_identities cdv A outer s H E) rfl
    refine ⟨_, (pss_cons (ps_expr (pe_callS (ok_check_semigroup T) (hr.mono (by omega)) (by rfl) T.g_check_semigroup T.F_check_semigroup.kp T.b_check_semigroup (fun σ => passAt tk σ) (pa_cons (pv 0) pa_nil)))
      (pss_cons (ps_set (i := 1) sc_left_identities.nd rfl (.inr rfl) (pe_callTy cr_range1 (by rfl) T.m_range (by decide +kernel) (pa_cons (pe_callB (call_lenK K) (by rfl) T.m_len (by decide +kernel) (pa_cons (pv 0) pa_nil)) pa_nil)))
      (pss_one (ps_ret (pe_tupleOfK K (by rfl) T.m_tuple (pe_lc (own := [("e", 2)]) rfl sc_left_identities.nd (pi_rngO (pv 1)) (blkOk_by (by rfl)) (fun _ _ _ _ _ => pg_name (i := 2) sc_left_identities.nd rfl (by first | exact .inl rfl | exact .inr rfl)) (fun _ _ _ _ _ => (pts_one (pt_val (pe_callB (cr_allK K) (by rfl) T.m_all (by decide +kernel) (pa_cons (pe_lc (own := [("x", 3)]) rfl sc_left_identities.nd (pi_rngO (pv 1)) (blkOk_by (by rfl)) (fun _ _ _ _ _ => pg_name (i := 3) sc_left_identities.nd rfl (by first | exact .inl rfl | exact .inr rfl)) (fun _ _ _ _ _ => pts_nil) (fun _ _ _ _ _ => (pe_cmpR op_eq (pe_ix (ix_seqK K) (pe_ix (ix_seqK K) (pv 0) (pv 2) (fun _ _ => rfl)) (pv 3) (fun _ _ => rfl)) (pv 3) (nomark _)))) pa_nil))))) (fun _ _ _ _ _ => (pv 2)))))))), ?_⟩
    obtain ⟨G, ds, e, hd, hh⟩ := h
    have hl : ∃ x0, ds = [x0] := by
      rcases hh with ⟨d, hR, _⟩ | ⟨c, f, v, hR, _⟩
      · match ds, hR with
        | [x0], _ => exact ⟨x0, rfl⟩
      · match ds, hR with
        | [x0], _ => exact ⟨x0, rfl⟩
    obtain ⟨x0, rfl⟩ := hl
    cases hd with
    | @cons v0 vs0 _ _ dv0 hd =>
    cases hd
    refine EX.finX (good_start e ((.cons dv0 .nil)) n_left_identities) (hh.imp (fun ⟨d, hR, q⟩ => ⟨d, q, ?_⟩) fun ⟨cls, f, v, hE, q⟩ => ⟨cls, f, v, q, ?_⟩) <;> show EX K ⟨G, H, none⟩ _ _ [Sl.val v0 x0, Sl.un, Sl.un, Sl.un] _
    · obtain ⟨n, f, hs, rfl, rfl⟩ := hR
      have hn := hs.1.n10
      have hl : n < 1000000 := by omega
      refine ex_cons (ex_drop (ev_callX (ea_cons (ev_var rfl) ea_nil) (okc_semi hs)) rfl) ?_
      refine ex_let (ev_cb (ea_cons (ev_cb (ea_cons (ev_var rfl) ea_nil) cb_lenTbl) ea_nil) cb_range1) fun v1 => ?_
      exact ex_ret (ev_then (ev_fltI (p := fun e => allN n fun x => decide (f e x = x)) (ei_rngN (ev_var rfl) hl) hl (by decide) (fun e v he => et_B (ev_allI (q := fun x => decide (f e x = x)) (ei_rngN (ev_var rfl) hl) hl (by decide) fun x u hx => ev_op (ev_row (ev_tbl (ev_var rfl) (ev_var rfl) he) (ev_var rfl) hx) (ev_var rfl) op_eqN)) fun e v he => ev_var rfl) un_tupN) fun v => rfl
    · obtain ⟨h1, h2, rfl, rfl, hv⟩ := hE
      cases hv
      exact ex_rsDrop (rs_call (eav_cons (evv_var rfl) eav_nil) ⟨h1, h2, rfl, rfl, rfl⟩) ⟨rfl, rfl, rfl⟩
theorem ok_right_identities (T : Tx K mg) : FnOk P w K mg base (L2.CX P w) 9 T.f_right_identities T.d_right_identities p_right_identities (spX K (R_dr fun n f => tupN (ridL n f)) (E_check_semigroup T)) := by
  refine T.F_right_identities.okX sc_right_identities (fun vs H Q E h => ?_) (fun cdv A outer s H vs Q E hr h => ?_)
  · obtain ⟨G, ds, e, hd, hR | hR⟩ := h
    · rw [hd.length]; obtain ⟨d, hR, q⟩ := hR
      match ds, hR with
      | [_], _ => rfl
    · rw [hd.length]; obtain ⟨c, f, v, hR, q⟩ := hR
      match ds, hR with
      | [_], _ => rfl
  · have tk : Takes (cxOf (L2.CX P w) P w K mg base n_right_identities "right_identities" (defScope s_right_identities) T.f_right_identities cdv A outer s H E) (fun cls d _ H => E cls d H) := takes_of rfl rfl rfl rfl
    have hpass : PassesOwn _ _ _ (cxOf (L2.CX P w) P w K mg base n_right_identities "right_identities" (defScope s_right_identities) T.f_right_identities cdv A outer s H E).xe := passes_of (X := cxOf (L2.CX P w) P w K mg base n_right_identities "right_identities" (defScope s_right_identities) T.f_right_identities cdv A outer s H E) rfl
    refine ⟨_, (pss_cons (ps_expr (pe_callS (ok_check_semigroup T) (hr.mono (by omega)) (by rfl) T.g_check_semigroup T.F_check_semigroup.kp T.b_check_semigroup (fun σ => passAt tk σ) (pa_cons (pv 0) pa_nil)))
      (pss_cons (ps_set (i := 1) sc_right_identities.nd rfl (.inr rfl) (pe_callTy cr_range1 (by rfl) T.m_range (by decide +kernel) (pa_cons (pe_callB (call_lenK K) (by rfl) T.m_len (by decide +kernel) (pa_cons (pv 0) pa_nil)) pa_nil)))
      (pss_one (ps_ret (pe_tupleOfK K (by rfl) T.m_tuple (pe_lc (own := [("e", 2)]) rfl sc_right_identities.nd (pi_rngO (pv 1)) (blkOk_by (by rfl)) (fun _ _ _ _ _ => pg_name (i := 2) sc_right_identities.nd rfl (by first | exact .inl rfl | exact .inr rfl)) (fun _ _ _ _ _ => (pts_one (pt_val (pe_callB (cr_allK K) (by rfl) T.m_all (by decide +kernel) (pa_cons (pe_lc (own := [("x", 3)]) rfl sc_right_identities.nd (pi_rngO (pv 1)) (blkOk_by (by rfl)) (fun _ _ _ _ _ => pg_name (i := 3) sc_right_identities.nd rfl (by first | exact .inl rfl | exact .inr rfl)) (fun _ _ _ _ _ => pts_nil) (fun _ _ _ _ _ => (pe_cmpR op_eq (pe_ix (ix_seqK K) (pe_ix (ix_seqK K) (pv 0) (pv 3) (fun _ _ => rfl)) (pv 2) (fun _ _ => rfl)) (pv 3) (nomark _)))) pa_nil))))) (fun _ _ _ _ _ => (pv 2)))))))), ?_⟩
    obtain ⟨G, ds, e, hd, hh⟩ := h
    have hl : ∃ x0, ds = [x0] := by
      rcases hh with ⟨d, hR, _⟩ | ⟨c, f, v, hR, _⟩
      · match ds, hR with
        | [x0], _ => exact ⟨x0, rfl⟩
      · match ds, hR with
        | [x0], _ => exact ⟨x0, rfl⟩
    obtain ⟨x0, rfl⟩ := hl
    cases hd with
    | @cons v0 vs0 _ _ dv0 hd =>
    cases hd
    refine EX.finX (good_start e ((.cons dv0 .nil)) n_right_identities) (hh.imp (fun ⟨d, hR, q⟩ => ⟨d, q, ?_⟩) fun ⟨cls, f, v, hE, q⟩ => ⟨cls, f, v, q, ?_⟩) <;> show EX K ⟨G, H, none⟩ _ _ [Sl.val v0 x0, Sl.un, Sl.un, Sl.un] _
    · obtain ⟨n, f, hs, rfl, rfl⟩ := hR
      have hn := hs.1.n10
      have hl : n < 1000000 := by omega
      refine ex_cons (ex_drop (ev_callX (ea_cons (ev_var rfl) ea_nil) (okc_semi hs)) rfl) ?_
      refine ex_let (ev_cb (ea_cons (ev_cb (ea_cons (ev_var rfl) ea_nil) cb_lenTbl) ea_nil) cb_range1) fun v1 => ?_
      exact ex_ret (ev_then (ev_fltI (p := fun e => allN n fun x => decide (f x e = x)) (ei_rngN (ev_var rfl) hl) hl (by decide) (fun e v he => et_B (ev_allI (q := fun x => decide (f x e = x)) (ei_rngN (ev_var rfl) hl) hl (by decide) fun x u hx => ev_op (ev_row (ev_tbl (ev_var rfl) (ev_var rfl) hx) (ev_var rfl) he) (ev_var rfl) op_eqN)) fun e v he => ev_var rfl) un_tupN) fun v => rfl
    · obtain ⟨h1, h2, rfl, rfl, hv⟩ := hE
      cases hv
      exact ex_rsDrop (rs_call (eav_cons (evv_var rfl) eav_nil) ⟨h1, h2, rfl, rfl, rfl⟩) ⟨rfl, rfl, rfl⟩
theorem ok_left_zeros_of (T : Tx K mg) : FnOk P w K mg base (L2.CX P w) 9 T.f_left_zeros_of T.d_left_zeros_of p_left_zeros_of (spX K (R_dr fun n f => tupN (lzeL n f)) (E_check_semigroup T)) := by
  refine T.F_left_zeros_of.okX sc_left_zeros_of (fun vs H Q E h => ?_) (fun cdv A outer s H vs Q E hr h => ?_)
  · obtain ⟨G, ds, e, hd, hR | hR⟩ := h
    · rw [hd.length]; obtain ⟨d, hR, q⟩ := hR
      match ds, hR with
      | [_], _ => rfl
    · rw [hd.length]; obtain ⟨c, f, v, hR, q⟩ := hR
      match ds, hR with
      | [_], _ => rfl
  · have tk : Takes (cxOf (L2.CX P w) P w K mg base n_left_zeros_of "left_zeros_of" (defScope s_left_zeros_of) T.f_left_zeros_of cdv A outer s H E) (fun cls d _ H => E cls d H) := takes_of rfl rfl rfl rfl
    have hpass : PassesOwn _ _ _ (cxOf (L2.CX P w) P w K mg base n_left_zeros_of "left_zeros_of" (defScope s_left_zeros_of) T.f_left_zeros_of cdv A outer s H E).xe := passes_of (X := cxOf (L2.CX P w) P w K mg base n_left_zeros_of "left_zeros_of" (defScope s_left_zeros_of) T.f_left_zeros_of cdv A outer s H E) rfl
    refine ⟨_, (pss_cons (ps_expr (pe_callS (ok_check_semigroup T) (hr.mono (by omega)) (by rfl) T.g_check_semigroup T.F_check_semigroup.kp T.b_check_semigroup (fun σ => passAt tk σ) (pa_cons (pv 0) pa_nil)))
      (pss_cons (ps_set (i := 1) sc_left_zeros_of.nd rfl (.inr rfl) (pe_callTy cr_range1 (by rfl) T.m_range (by decide +kernel) (pa_cons (pe_callB (call_lenK K) (by rfl) T.m_len (by decide +kernel) (pa_cons (pv 0) pa_nil)) pa_nil)))
      (pss_one (ps_ret (pe_tupleOfK K (by rfl) T.m_tuple (pe_lc (own := [("e", 2)]) rfl sc_left_zeros_of.nd (pi_rngO (pv 1)) (blkOk_by (by rfl)) (fun _ _ _ _ _ => pg_name (i := 2) sc_left_zeros_of.nd rfl (by first | exact .inl rfl | exact .inr rfl)) (fun _ _ _ _ _ => (pts_one (pt_val (pe_callB (cr_allK K) (by rfl) T.m_all (by decide +kernel) (pa_cons (pe_lc (own := [("x", 3)]) rfl sc_left_zeros_of.nd (pi_rngO (pv 1)) (blkOk_by (by rfl)) (fun _ _ _ _ _ => pg_name (i := 3) sc_left_zeros_of.nd rfl (by first | exact .inl rfl | exact .inr rfl)) (fun _ _ _ _ _ => pts_nil) (fun _ _ _ _ _ => (pe_cmpR op_eq (pe_ix (ix_seqK K) (pe_ix (ix_seqK K) (pv 0) (pv 2) (fun _ _ => rfl)) (pv 3) (fun _ _ => rfl)) (pv 2) (nomark _)))) pa_nil))))) (fun _ _ _ _ _ => (pv 2)))))))), ?_⟩
    obtain ⟨G, ds, e, hd, hh⟩ := h
    have hl : ∃ x0, ds = [x0] := by
      rcases hh with ⟨d, hR, _⟩ | ⟨c, f, v, hR, _⟩
      · match ds, hR with
        | [x0], _ => exact ⟨x0, rfl⟩
      · match ds, hR with
        | [x0], _ => exact ⟨x0, rfl⟩
    obtain ⟨x0, rfl⟩ := hl
    cases hd with
    | @cons v0 vs0 _ _ dv0 hd =>
    cases hd
    refine EX.finX (good_start e ((.cons dv0 .nil)) n_left_zeros_of) (hh.imp (fun ⟨d, hR, q⟩ => ⟨d, q, ?_⟩) fun ⟨cls, f, v, hE, q⟩ => ⟨cls, f, v, q, ?_⟩) <;> show EX K ⟨G, H, none⟩ _ _ [Sl.val v0 x0, Sl.un, Sl.un, Sl.un] _
    · obtain ⟨n, f, hs, rfl, rfl⟩ := hR
      have hn := hs.1.n10
      have hl : n < 1000000 := by omega
      refine ex_cons (ex_drop (ev_callX (ea_cons (ev_var rfl) ea_nil) (okc_semi hs)) rfl) ?_
      refine ex_let (ev_cb (ea_cons (ev_cb (ea_cons (ev_var rfl) ea_nil) cb_lenTbl) ea_nil) cb_range1) fun v1 => ?_
      exact ex_ret (ev_then (ev_fltI (p := fun e => allN n fun x => decide (f e x = e)) (ei_rngN (ev_var rfl) hl) hl (by decide) (fun e v he => et_B (ev_allI (q := fun x => decide (f e x = e)) (ei_rngN (ev_var rfl) hl) hl (by decide) fun x u hx => ev_op (ev_row (ev_tbl (ev_var rfl) (ev_var rfl) he) (ev_var rfl) hx) (ev_var rfl) op_eqN)) fun e v he => ev_var rfl) un_tupN) fun v => rfl
    · obtain ⟨h1, h2, rfl, rfl, hv⟩ := hE
      cases hv
      exact ex_rsDrop (rs_call (eav_cons (evv_var rfl) eav_nil) ⟨h1, h2, rfl, rfl, rfl⟩) ⟨rfl, rfl, rfl⟩
theorem ok_right_zeros_of (T : Tx K mg) : FnOk P w K mg base (L2.CX P w) 9 T.f_right_zeros_of T.d_right_zeros_of p_right_zeros_of (spX K (R_dr fun n f => tupN (rzeL n f)) (E_check_semigroup T)) := by
  refine T.F_right_zeros_of.okX sc_right_zeros_of (fun vs H Q E h => ?_) (fun cdv A outer s H vs Q E hr h => ?_)
  · obtain ⟨G, ds, e, hd, hR | hR⟩ := h
    · rw [hd.length]; obtain ⟨d, hR, q⟩ := hR
      match ds, hR with
      | [_], _ => rfl
    · rw [hd.length]; obtain ⟨c, f, v, hR, q⟩ := hR
      match ds, hR with
      | [_], _ => rfl
  · have tk : Takes (cxOf (L2.CX P w) P w K mg base n_right_zeros_of "right_zeros_of" (defScope s_right_zeros_of) T.f_right_zeros_of cdv A outer s H E) (fun cls d _ H => E cls d H) := takes_of rfl rfl rfl rfl
    have hpass : PassesOwn _ _ _ (cxOf (L2.CX P w) P w K mg base n_right_zeros_of "right_zeros_of" (defScope s_right_zeros_of) T.f_right_zeros_of cdv A outer s H E).xe := passes_of (X := cxOf (L2.CX P w) P w K mg base n_right_zeros_of "right_zeros_of" (defScope s_right_zeros_of) T.f_right_zeros_of cdv A outer s H E) rfl
    refine ⟨_, (pss_cons (ps_expr (pe_callS (ok_check_semigroup T) (hr.mono (by omega)) (by rfl) T.g_check_semigroup T.F_check_semigroup.kp T.b_check_semigroup (fun σ => passAt tk σ) (pa_cons (pv 0) pa_nil)))
      (pss_cons (ps_set (i := 1) sc_right_zeros_of.nd rfl (.inr rfl) (pe_callTy cr_range1 (by rfl) T.m_range (by decide +kernel) (pa_cons (pe_callB (call_lenK K) (by rfl) T.m_len (by decide +kernel) (pa_cons (pv 0) pa_nil)) pa_nil)))
      (pss_one (ps_ret (pe_tupleOfK K (by rfl) T.m_tuple (pe_lc (own := [("e", 2)]) rfl sc_right_zeros_of.nd (pi_rngO (pv 1)) (blkOk_by (by rfl)) (fun _ _ _ _ _ => pg_name (i := 2) sc_right_zeros_of.nd rfl (by first | exact .inl rfl | exact .inr rfl)) (fun _ _ _ _ _ => (pts_one (pt_val (pe_callB (cr_allK K) (by rfl) T.m_all (by decide +kernel) (pa_cons (pe_lc (own := [("x", 3)]) rfl sc_right_zeros_of.nd (pi_rngO (pv 1)) (blkOk_by (by rfl)) (fun _ _ _ _ _ => pg_name (i := 3) sc_right_zeros_of.nd rfl (by first | exact .inl rfl | exact .inr rfl)) (fun _ _ _ _ _ => pts_nil) (fun _ _ _ _ _ => (pe_cmpR op_eq (pe_ix (ix_seqK K) (pe_ix (ix_seqK K) (pv 0) (pv 3) (fun _ _ => rfl)) (pv 2) (fun _ _ => rfl)) (pv 2) (nomark _)))) pa_nil))))) (fun _ _ _ _ _ => (pv 2)))))))), ?_⟩
    obtain ⟨G, ds, e, hd, hh⟩ := h
    have hl : ∃ x0, ds = [x0] := by
      rcases hh with ⟨d, hR, _⟩ | ⟨c, f, v, hR, _⟩
      · match ds, hR with
        | [x0], _ => exact ⟨x0, rfl⟩
      · match ds, hR with
        | [x0], _ => exact ⟨x0, rfl⟩
    obtain ⟨x0, rfl⟩ := hl
    cases hd with
    | @cons v0 vs0 _ _ dv0 hd =>
    cases hd
    refine EX.finX (good_start e ((.cons dv0 .nil)) n_right_zeros_of) (hh.imp (fun ⟨d, hR, q⟩ => ⟨d, q, ?_⟩) fun ⟨cls, f, v, hE, q⟩ => ⟨cls, f, v, q, ?_⟩) <;> show EX K ⟨G, H, none⟩ _ _ [Sl.val v0 x0, Sl.un, Sl.un, Sl.un] _
    · obtain ⟨n, f, hs, rfl, rfl⟩ := hR
      have hn := hs.1.n10
      have hl : n < 1000000 := by omega
      refine ex_cons (ex_drop (ev_callX (ea_cons (ev_var rfl) ea_nil) (okc_semi hs)) rfl) ?_
      refine ex_let (ev_cb (ea_cons (ev_cb (ea_cons (ev_var rfl) ea_nil) cb_lenTbl) ea_nil) cb_range1) fun v1 => ?_
      exact ex_ret (ev_then (ev_fltI (p := fun e => allN n fun x => decide (f x e = e)) (ei_rngN (ev_var rfl) hl) hl (by decide) (fun e v he => et_B (ev_allI (q := fun x => decide (f x e = e)) (ei_rngN (ev_var rfl) hl) hl (by decide) fun x u hx => ev_op (ev_row (ev_tbl (ev_var rfl) (ev_var rfl) hx) (ev_var rfl) he) (ev_var rfl) op_eqN)) fun e v he => ev_var rfl) un_tupN) fun v => rfl
    · obtain ⟨h1, h2, rfl, rfl, hv⟩ := hE
      cases hv
      exact ex_rsDrop (rs_call (eav_cons (evv_var rfl) eav_nil) ⟨h1, h2, rfl, rfl, rfl⟩) ⟨rfl, rfl, rfl⟩
theorem ok_identity_of (T : Tx K mg) : FnOk P w K mg base CX0 1 T.f_identity_of T.d_identity_of p_identity_of (spD K (R_dt fun n f => hdD (oneL n f))) := by
  refine T.F_identity_of.ok sc_identity_of (fun vs H Q E h => ?_) (fun cdv A outer s H vs Q E hr h => ?_)
  · obtain ⟨G, ds, d, e, hd, hR, q⟩ := h
    rw [hd.length]
    match ds, hR with
    | [_], _ => rfl
  · refine ⟨_, (pss_cons (ps_set (i := 1) sc_identity_of.nd rfl (.inr rfl) (pe_callTy cr_range1 (by rfl) T.m_range (by decide +kernel) (pa_cons (pe_callB (call_lenK K) (by rfl) T.m_len (by decide +kernel) (pa_cons (pv 0) pa_nil)) pa_nil)))
      (pss_cons (ps_setLc (i := 2) (own := [("e", 3)]) rfl sc_identity_of.nd rfl rfl (sw_true rfl rfl rfl (by decide +kernel)) (pi_rngO (pv 1)) (blkOk_by (by rfl)) (fun _ _ _ _ _ => pg_name (i := 3) sc_identity_of.nd rfl (by first | exact .inl rfl | exact .inr rfl)) (fun _ _ _ _ _ => (pts_one (pt_val (pe_callB (cr_allK K) (by rfl) T.m_all (by decide +kernel) (pa_cons (pe_lc (own := [("x", 4)]) rfl sc_identity_of.nd (pi_rngO (pv 1)) (blkOk_by (by rfl)) (fun _ _ _ _ _ => pg_name (i := 4) sc_identity_of.nd rfl (by first | exact .inl rfl | exact .inr rfl)) (fun _ _ _ _ _ => pts_nil) (fun _ _ _ _ _ => (pe_chain op_eq op_eq (pe_ix (ix_seqK K) (pe_ix (ix_seqK K) (pv 0) (pv 3) (fun _ _ => rfl)) (pv 4) (fun _ _ => rfl)) (pv 4) (pe_ix (ix_seqK K) (pe_ix (ix_seqK K) (pv 0) (pv 4) (fun _ _ => rfl)) (pv 3) (fun _ _ => rfl))))) pa_nil))))) (fun _ _ _ _ _ => (pv 3)))
      (pss_one (ps_ret (pe_ifExp (pt_cmpR (op_neD hr.units) (pv 2) (pe_lst pa_nil) (nomark _)) (pe_ix (ix_seqK K) (pv 2) pe_int (fun _ _ => rfl)) pe_non))))), ?_⟩
    obtain ⟨G, ds, d, e, hd, hR, q⟩ := h
    have hl : ∃ x0, ds = [x0] := by
      match ds, hR with
      | [x0], _ => exact ⟨x0, rfl⟩
    obtain ⟨x0, rfl⟩ := hl
    cases hd with
    | @cons v0 vs0 _ _ dv0 hd =>
    cases hd
    refine EX.fin (W := fun _ _ _ _ => False) (good_start e ((.cons dv0 .nil)) n_identity_of) q ?_
    show EX K ⟨G, H, none⟩ _ _ [Sl.val v0 x0, Sl.un, Sl.un, Sl.un, Sl.un] _
    obtain ⟨n, f, hf, rfl, rfl⟩ := hR
    have hn := hf.n10
    have hl : n < 1000000 := by omega
    refine ex_let (ev_cb (ea_cons (ev_cb (ea_cons (ev_var rfl) ea_nil) cb_lenTbl) ea_nil) cb_range1) fun v1 => ?_
    refine ex_let (d := .lst (lstN (oneL n f))) (ev_fltI (p := fun e => allN n fun x => decide (f e x = x) && decide (x = f x e)) (ei_rngN (ev_var rfl) hl) hl (by decide) (fun e v he => et_B (ev_allI (q := fun x => decide (f e x = x) && decide (x = f x e)) (ei_rngN (ev_var rfl) hl) hl (by decide) fun x u hx => ev_chain (ev_row (ev_tbl (ev_var rfl) (ev_var rfl) he) (ev_var rfl) hx) (ev_var rfl) op_eqN (fun _ => (ev_row (ev_tbl (ev_var rfl) (ev_var rfl) hx) (ev_var rfl) he)) (fun _ => op_eqN))) fun e v he => ev_var rfl) fun v2 => ?_
    exact ex_ret (ev_hdI (ev_var rfl) (et_test (ev_op (ev_var rfl) (ev_lst ea_nil (sz 0)) op_neLN))) fun v => rfl
theorem ok_zero_of (T : Tx K mg) : FnOk P w K mg base CX0 1 T.f_zero_of T.d_zero_of p_zero_of (spD K (R_dt fun n f => hdD (zerL n f))) := by
  refine T.F_zero_of.ok sc_zero_of (fun vs H Q E h => ?_) (fun cdv A outer s H vs Q E hr h => ?_)
  · obtain ⟨G, ds, d, e, hd, hR, q⟩ := h
    rw [hd.length]
    match ds, hR with
    | [_], _ => rfl
  · refine ⟨_, (pss_cons (ps_set (i := 1) sc_zero_of.nd rfl (.inr rfl) (pe_callTy cr_range1 (by rfl) T.m_range (by decide +kernel) (pa_cons (pe_callB (call_lenK K) (by rfl) T.m_len (by decide +kernel) (pa_cons (pv 0) pa_nil)) pa_nil)))
      (pss_cons (ps_setLc (i := 2) (own := [("e", 3)]) rfl sc_zero_of.nd rfl rfl (sw_true rfl rfl rfl (by decide +kernel)) (pi_rngO (pv 1)) (blkOk_by (by rfl)) (fun _ _ _ _ _ => pg_name (i := 3) sc_zero_of.nd rfl (by first | exact .inl rfl | exact .inr rfl)) (fun _ _ _ _ _ => (pts_one (pt_val (pe_callB (cr_allK K) (by rfl) T.m_all (by decide +kernel) (pa_cons (pe_lc (own := [("x", 4)]) rfl sc_zero_of.nd (pi_rngO (pv 1)) (blkOk_by (by rfl)) (fun _ _ _ _ _ => pg_name (i := 4) sc_zero_of.nd rfl (by first | exact .inl rfl | exact .inr rfl)) (fun _ _ _ _ _ => pts_nil) (fun _ _ _ _ _ => (pe_chain op_eq op_eq (pe_ix (ix_seqK K) (pe_ix (ix_seqK K) (pv 0) (pv 3) (fun _ _ => rfl)) (pv 4) (fun _ _ => rfl)) (pv 3) (pe_ix (ix_seqK K) (pe_ix (ix_seqK K) (pv 0) (pv 4) (fun _ _ => rfl)) (pv 3) (fun _ _ => rfl))))) pa_nil))))) (fun _ _ _ _ _ => (pv 3)))
      (pss_one (ps_ret (pe_ifExp (pt_cmpR (op_neD hr.units) (pv 2) (pe_lst pa_nil) (nomark _)) (pe_ix (ix_seqK K) (pv 2) pe_int (fun _ _ => rfl)) pe_non))))), ?_⟩
    obtain ⟨G, ds, d, e, hd, hR, q⟩ := h
    have hl : ∃ x0, ds = [x0] := by
      match ds, hR with
      | [x0], _ => exact ⟨x0, rfl⟩
    obtain ⟨x0, rfl⟩ := hl
    cases hd with
    | @cons v0 vs0 _ _ dv0 hd =>
    cases hd
    refine EX.fin (W := fun _ _ _ _ => False) (good_start e ((.cons dv0 .nil)) n_zero_of) q ?_
    show EX K ⟨G, H, none⟩ _ _ [Sl.val v0 x0, Sl.un, Sl.un, Sl.un, Sl.un] _
    obtain ⟨n, f, hf, rfl, rfl⟩ := hR
    have hn := hf.n10
    have hl : n < 1000000 := by omega
    refine ex_let (ev_cb (ea_cons (ev_cb (ea_cons (ev_var rfl) ea_nil) cb_lenTbl) ea_nil) cb_range1) fun v1 => ?_
    refine ex_let (d := .lst (lstN (zerL n f))) (ev_fltI (p := fun e => allN n fun x => decide (f e x = e) && decide (e = f x e)) (ei_rngN (ev_var rfl) hl) hl (by decide) (fun e v he => et_B (ev_allI (q := fun x => decide (f e x = e) && decide (e = f x e)) (ei_rngN (ev_var rfl) hl) hl (by decide) fun x u hx => ev_chain (ev_row (ev_tbl (ev_var rfl) (ev_var rfl) he) (ev_var rfl) hx) (ev_var rfl) op_eqN (fun _ => (ev_row (ev_tbl (ev_var rfl) (ev_var rfl) hx) (ev_var rfl) he)) (fun _ => op_eqN))) fun e v he => ev_var rfl) fun v2 => ?_
    exact ex_ret (ev_hdI (ev_var rfl) (et_test (ev_op (ev_var rfl) (ev_lst ea_nil (sz 0)) op_neLN))) fun v => rfl
theorem ok_identity (T : Tx K mg) : FnOk P w K mg base (L2.CX P w) 9 T.f_identity T.d_identity p_identity (spX K (R_dr fun n f => hdD (oneL n f)) (E_check_semigroup T)) := by
  refine T.F_identity.okX sc_identity (fun vs H Q E h => ?_) (fun cdv A outer s H vs Q E hr h => ?_)
  · obtain ⟨G, ds, e, hd, hR | hR⟩ := h
    · rw [hd.length]; obtain ⟨d, hR, q⟩ := hR
      match ds, hR with
      | [_], _ => rfl
    · rw [hd.length]; obtain ⟨c, f, v, hR, q⟩ := hR
      match ds, hR with
      | [_], _ => rfl
  · have tk : Takes (cxOf (L2.CX P w) P w K mg base n_identity "identity" (defScope s_identity) T.f_identity cdv A outer s H E) (fun cls d _ H => E cls d H) := takes_of rfl rfl rfl rfl
    have hpass : PassesOwn _ _ _ (cxOf (L2.CX P w) P w K mg base n_identity "identity" (defScope s_identity) T.f_identity cdv A outer s H E).xe := passes_of (X := cxOf (L2.CX P w) P w K mg base n_identity "identity" (defScope s_identity) T.f_identity cdv A outer s H E) rfl
    refine ⟨_, (pss_cons (ps_expr (pe_callS (ok_check_semigroup T) (hr.mono (by omega)) (by rfl) T.g_check_semigroup T.F_check_semigroup.kp T.b_check_semigroup (fun σ => passAt tk σ) (pa_cons (pv 0) pa_nil)))
      (pss_one (ps_ret (pe_call (ok_identity_of T) (hr.mono (by omega)) (by rfl) T.g_identity_of T.F_identity_of.kp T.b_identity_of .nil pass0 (pa_cons (pv 0) pa_nil))))), ?_⟩
    obtain ⟨G, ds, e, hd, hh⟩ := h
    have hl : ∃ x0, ds = [x0] := by
      rcases hh with ⟨d, hR, _⟩ | ⟨c, f, v, hR, _⟩
      · match ds, hR with
        | [x0], _ => exact ⟨x0, rfl⟩
      · match ds, hR with
        | [x0], _ => exact ⟨x0, rfl⟩
    obtain ⟨x0, rfl⟩ := hl
    cases hd with
    | @cons v0 vs0 _ _ dv0 hd =>
    cases hd
    refine EX.finX (good_start e ((.cons dv0 .nil)) n_identity) (hh.imp (fun ⟨d, hR, q⟩ => ⟨d, q, ?_⟩) fun ⟨cls, f, v, hE, q⟩ => ⟨cls, f, v, q, ?_⟩) <;> show EX K ⟨G, H, none⟩ _ _ [Sl.val v0 x0] _
    · obtain ⟨n, f, hs, rfl, rfl⟩ := hR
      have hn := hs.1.n10
      have hl : n < 1000000 := by omega
      refine ex_cons (ex_drop (ev_callX (ea_cons (ev_var rfl) ea_nil) (okc_semi hs)) rfl) ?_
      exact ex_ret (ev_call (ea_cons (ev_var rfl) ea_nil) ⟨n, f, hs.1, rfl, rfl⟩) fun v => rfl
    · obtain ⟨h1, h2, rfl, rfl, hv⟩ := hE
      cases hv
      exact ex_rsDrop (rs_call (eav_cons (evv_var rfl) eav_nil) ⟨h1, h2, rfl, rfl, rfl⟩) ⟨rfl, rfl, rfl⟩
theorem ok_zero (T : Tx K mg) : FnOk P w K mg base (L2.CX P w) 9 T.f_zero T.d_zero p_zero (spX K (R_dr fun n f => hdD (zerL n f)) (E_check_semigroup T)) := by
  refine T.F_zero.okX sc_zero (fun vs H Q E h => ?_) (fun cdv A outer s H vs Q E hr h => ?_)
  · obtain ⟨G, ds, e, hd, hR | hR⟩ := h
    · rw [hd.length]; obtain ⟨d, hR, q⟩ := hR
      match ds, hR with
      | [_], _ => rfl
    · rw [hd.length]; obtain ⟨c, f, v, hR, q⟩ := hR
      match ds, hR with
      | [_], _ => rfl
  · have tk : Takes (cxOf (L2.CX P w) P w K mg base n_zero "zero" (defScope s_zero) T.f_zero cdv A outer s H E) (fun cls d _ H => E cls d H) := takes_of rfl rfl rfl rfl
    have hpass : PassesOwn _ _ _ (cxOf (L2.CX P w) P w K mg base n_zero "zero" (defScope s_zero) T.f_zero cdv A outer s H E).xe := passes_of (X := cxOf (L2.CX P w) P w K mg base n_zero "zero" (defScope s_zero) T.f_zero cdv A outer s H E) rfl
    refine ⟨_, (pss_cons (ps_expr (pe_callS (ok_check_semigroup T) (hr.mono (by omega)) (by rfl) T.g_check_semigroup T.F_check_semigroup.kp T.b_check_semigroup (fun σ => passAt tk σ) (pa_cons (pv 0) pa_nil)))
      (pss_one (ps_ret (pe_call (ok_zero_of T) (hr.mono (by omega)) (by rfl) T.g_zero_of T.F_zero_of.kp T.b_zero_of .nil pass0 (pa_cons (pv 0) pa_nil))))), ?_⟩
    obtain ⟨G, ds, e, hd, hh⟩ := h
    have hl : ∃ x0, ds = [x0] := by
      rcases hh with ⟨d, hR, _⟩ | ⟨c, f, v, hR, _⟩
      · match ds, hR with
        | [x0], _ => exact ⟨x0, rfl⟩
      · match ds, hR with
        | [x0], _ => exact ⟨x0, rfl⟩
    obtain ⟨x0, rfl⟩ := hl
    cases hd with
    | @cons v0 vs0 _ _ dv0 hd =>
    cases hd
    refine EX.finX (good_start e ((.cons dv0 .nil)) n_zero) (hh.imp (fun ⟨d, hR, q⟩ => ⟨d, q, ?_⟩) fun ⟨cls, f, v, hE, q⟩ => ⟨cls, f, v, q, ?_⟩) <;> show EX K ⟨G, H, none⟩ _ _ [Sl.val v0 x0] _
    · obtain ⟨n, f, hs, rfl, rfl⟩ := hR
      have hn := hs.1.n10
      have hl : n < 1000000 := by omega
      refine ex_cons (ex_drop (ev_callX (ea_cons (ev_var rfl) ea_nil) (okc_semi hs)) rfl) ?_
      exact ex_ret (ev_call (ea_cons (ev_var rfl) ea_nil) ⟨n, f, hs.1, rfl, rfl⟩) fun v => rfl
    · obtain ⟨h1, h2, rfl, rfl, hv⟩ := hE
      cases hv
      exact ex_rsDrop (rs_call (eav_cons (evv_var rfl) eav_nil) ⟨h1, h2, rfl, rfl, rfl⟩) ⟨rfl, rfl, rfl⟩
theorem ok_centre (T : Tx K mg) : FnOk P w K mg base (L2.CX P w) 9 T.f_centre T.d_centre p_centre (spX K (R_dr fun n f => tupN (cenL n f)) (E_check_semigroup T)) := by
  refine T.F_centre.okX sc_centre (fun vs H Q E h => ?_) (fun cdv A outer s H vs Q E hr h => ?_)
  · obtain ⟨G, ds, e, hd, hR | hR⟩ := h
    · rw [hd.length]; obtain ⟨d, hR, q⟩ := hR
      match ds, hR with
      | [_], _ => rfl
    · rw [hd.length]; obtain ⟨c, f, v, hR, q⟩ := hR
      match ds, hR with
      | [_], _ => rfl
  · have tk : Takes (cxOf (L2.CX P w) P w K mg base n_centre "centre" (defScope s_centre) T.f_centre cdv A outer s H E) (fun cls d _ H => E cls d H) := takes_of rfl rfl rfl rfl
    have hpass : PassesOwn _ _ _ (cxOf (L2.CX P w) P w K mg base n_centre "centre" (defScope s_centre) T.f_centre cdv A outer s H E).xe := passes_of (X := cxOf (L2.CX P w) P w K mg base n_centre "centre" (defScope s_centre) T.f_centre cdv A outer s H E) rfl
    refine ⟨_, (pss_cons (ps_expr (pe_callS (ok_check_semigroup T) (hr.mono (by omega)) (by rfl) T.g_check_semigroup T.F_check_semigroup.kp T.b_check_semigroup (fun σ => passAt tk σ) (pa_cons (pv 0) pa_nil)))
      (pss_cons (ps_set (i := 1) sc_centre.nd rfl (.inr rfl) (pe_callTy cr_range1 (by rfl) T.m_range (by decide +kernel) (pa_cons (pe_callB (call_lenK K) (by rfl) T.m_len (by decide +kernel) (pa_cons (pv 0) pa_nil)) pa_nil)))
      (pss_one (ps_ret (pe_tupleOfK K (by rfl) T.m_tuple (pe_lc (own := [("x", 2)]) rfl sc_centre.nd (pi_rngO (pv 1)) (blkOk_by (by rfl)) (fun _ _ _ _ _ => pg_name (i := 2) sc_centre.nd rfl (by first | exact .inl rfl | exact .inr rfl)) (fun _ _ _ _ _ => (pts_one (pt_val (pe_callB (cr_allK K) (by rfl) T.m_all (by decide +kernel) (pa_cons (pe_lc (own := [("y", 3)]) rfl sc_centre.nd (pi_rngO (pv 1)) (blkOk_by (by rfl)) (fun _ _ _ _ _ => pg_name (i := 3) sc_centre.nd rfl (by first | exact .inl rfl | exact .inr rfl)) (fun _ _ _ _ _ => pts_nil) (fun _ _ _ _ _ => (pe_cmpR op_eq (pe_ix (ix_seqK K) (pe_ix (ix_seqK K) (pv 0) (pv 2) (fun _ _ => rfl)) (pv 3) (fun _ _ => rfl)) (pe_ix (ix_seqK K) (pe_ix (ix_seqK K) (pv 0) (pv 3) (fun _ _ => rfl)) (pv 2) (fun _ _ => rfl)) (nomark _)))) pa_nil))))) (fun _ _ _ _ _ => (pv 2)))))))), ?_⟩
    obtain ⟨G, ds, e, hd, hh⟩ := h
    have hl : ∃ x0, ds = [x0] := by
      rcases hh with ⟨d, hR, _⟩ | ⟨c, f, v, hR, _⟩
      · match ds, hR with
        | [x0], _ => exact ⟨x0, rfl⟩
      · match ds, hR with
        | [x0], _ => exact ⟨x0, rfl⟩
    obtain ⟨x0, rfl⟩ := hl
    cases hd with
    | @cons v0 vs0 _ _ dv0 hd =>
    cases hd
    refine EX.finX (good_start e ((.cons dv0 .nil)) n_centre) (hh.imp (fun ⟨d, hR, q⟩ => ⟨d, q, ?_⟩) fun ⟨cls, f, v, hE, q⟩ => ⟨cls, f, v, q, ?_⟩) <;> show EX K ⟨G, H, none⟩ _ _ [Sl.val v0 x0, Sl.un, Sl.un, Sl.un] _
    · obtain ⟨n, f, hs, rfl, rfl⟩ := hR
      have hn := hs.1.n10
      have hl : n < 1000000 := by omega
      refine ex_cons (ex_drop (ev_callX (ea_cons (ev_var rfl) ea_nil) (okc_semi hs)) rfl) ?_
      refine ex_let (ev_cb (ea_cons (ev_cb (ea_cons (ev_var rfl) ea_nil) cb_lenTbl) ea_nil) cb_range1) fun v1 => ?_
      exact ex_ret (ev_then (ev_fltI (p := fun x => allN n fun y => decide (f x y = f y x)) (ei_rngN (ev_var rfl) hl) hl (by decide) (fun e v he => et_B (ev_allI (q := fun y => decide (f e y = f y e)) (ei_rngN (ev_var rfl) hl) hl (by decide) fun x u hx => ev_op (ev_row (ev_tbl (ev_var rfl) (ev_var rfl) he) (ev_var rfl) hx) (ev_row (ev_tbl (ev_var rfl) (ev_var rfl) hx) (ev_var rfl) he) op_eqN)) fun e v he => ev_var rfl) un_tupN) fun v => rfl
    · obtain ⟨h1, h2, rfl, rfl, hv⟩ := hE
      cases hv
      exact ex_rsDrop (rs_call (eav_cons (evv_var rfl) eav_nil) ⟨h1, h2, rfl, rfl, rfl⟩) ⟨rfl, rfl, rfl⟩
theorem ok_commuting (T : Tx K mg) : FnOk P w K mg base (L2.CX P w) 9 T.f_commuting T.d_commuting p_commuting (spX K (R_dr commD) (E_check_semigroup T)) := by
  refine T.F_commuting.okX sc_commuting (fun vs H Q E h => ?_) (fun cdv A outer s H vs Q E hr h => ?_)
  · obtain ⟨G, ds, e, hd, hR | hR⟩ := h
    · rw [hd.length]; obtain ⟨d, hR, q⟩ := hR
      match ds, hR with
      | [_], _ => rfl
    · rw [hd.length]; obtain ⟨c, f, v, hR, q⟩ := hR
      match ds, hR with
      | [_], _ => rfl
  · have tk : Takes (cxOf (L2.CX P w) P w K mg base n_commuting "commuting" (defScope s_commuting) T.f_commuting cdv A outer s H E) (fun cls d _ H => E cls d H) := takes_of rfl rfl rfl rfl
    have hpass : PassesOwn _ _ _ (cxOf (L2.CX P w) P w K mg base n_commuting "commuting" (defScope s_commuting) T.f_commuting cdv A outer s H E).xe := passes_of (X := cxOf (L2.CX P w) P w K mg base n_commuting "commuting" (defScope s_commuting) T.f_commuting cdv A outer s H E) rfl
    refine ⟨_, (pss_cons (ps_expr (pe_callS (ok_check_semigroup T) (hr.mono (by omega)) (by rfl) T.g_check_semigroup T.F_check_semigroup.kp T.b_check_semigroup (fun σ => passAt tk σ) (pa_cons (pv 0) pa_nil)))
      (pss_cons (ps_set (i := 1) sc_commuting.nd rfl (.inr rfl) (pe_callTy cr_range1 (by rfl) T.m_range (by decide +kernel) (pa_cons (pe_callB (call_lenK K) (by rfl) T.m_len (by decide +kernel) (pa_cons (pv 0) pa_nil)) pa_nil)))
      (pss_cons (ps_set (i := 2) sc_commuting.nd rfl (.inl rfl) (pe_callB (call_lenK K) (by rfl) T.m_len (by decide +kernel) (pa_cons (pe_lcN (own := [("x", 5), ("y", 6)]) rfl sc_commuting.nd (pi_rngO (pv 1)) (blkOk_by (by rfl)) (fun _ _ _ _ _ => pg_name (i := 5) sc_commuting.nd rfl (by first | exact .inl rfl | exact .inr rfl)) (fun _ _ _ _ _ => pts_nil) (fun _ _ _ _ _ => (.cons (vs' := [6]) (pi_rngO (pv 1)) (pg_name (i := 6) sc_commuting.nd rfl (by first | exact .inl rfl | exact .inr rfl)) (pts_one (pt_cmpR op_eq (pe_ix (ix_seqK K) (pe_ix (ix_seqK K) (pv 0) (pv 5) (fun _ _ => rfl)) (pv 6) (fun _ _ => rfl)) (pe_ix (ix_seqK K) (pe_ix (ix_seqK K) (pv 0) (pv 6) (fun _ _ => rfl)) (pv 5) (fun _ _ => rfl)) (nomark _))) (by intro _; rfl) (by decide) .nil)) (fun _ _ _ _ _ => pe_int)) pa_nil)))
      (pss_cons (ps_set (i := 3) sc_commuting.nd rfl (.inl rfl) (pe_op op_mul (pe_callB (call_lenK K) (by rfl) T.m_len (by decide +kernel) (pa_cons (pv 0) pa_nil)) (pe_callB (call_lenK K) (by rfl) T.m_len (by decide +kernel) (pa_cons (pv 0) pa_nil))))
      (pss_cons (ps_set (i := 4) sc_commuting.nd rfl (.inl rfl) (pe_callBfun cr_gcd (by rfl) T.gf_gcd (pa_cons (pv 2) (pa_cons (pv 3) pa_nil))))
      (pss_one (ps_ret (pe_tup (pa_cons (pe_op op_fdiv (pv 2) (pv 4)) (pa_cons (pe_op op_fdiv (pv 3) (pv 4)) pa_nil)))))))))), ?_⟩
    obtain ⟨G, ds, e, hd, hh⟩ := h
    have hl : ∃ x0, ds = [x0] := by
      rcases hh with ⟨d, hR, _⟩ | ⟨c, f, v, hR, _⟩
      · match ds, hR with
        | [x0], _ => exact ⟨x0, rfl⟩
      · match ds, hR with
        | [x0], _ => exact ⟨x0, rfl⟩
    obtain ⟨x0, rfl⟩ := hl
    cases hd with
    | @cons v0 vs0 _ _ dv0 hd =>
    cases hd
    refine EX.finX (good_start e ((.cons dv0 .nil)) n_commuting) (hh.imp (fun ⟨d, hR, q⟩ => ⟨d, q, ?_⟩) fun ⟨cls, f, v, hE, q⟩ => ⟨cls, f, v, q, ?_⟩) <;> show EX K ⟨G, H, none⟩ _ _ [Sl.val v0 x0, Sl.un, Sl.un, Sl.un, Sl.un, Sl.un, Sl.un] _
    · obtain ⟨n, f, hs, rfl, rfl⟩ := hR
      have hn := hs.1.n10
      have hl : n < 1000000 := by omega
      refine ex_cons (ex_drop (ev_callX (ea_cons (ev_var rfl) ea_nil) (okc_semi hs)) rfl) ?_
      have hn1 := hs.1.n1
      refine ex_let (ev_cb (ea_cons (ev_cb (ea_cons (ev_var rfl) ea_nil) cb_lenTbl) ea_nil) cb_range1) fun v1 => ?_
      have hc : (flat (fun x => flat (fun y => if decide (f x y = f y x) = true then [D.int 1] else []) n) n).length = cntN n f := by
        rw [flat_len]
        unfold cntN
        congr 1
        exact List.map_congr_left fun x _ => flat_if n
      have hle := cnt_le (n := n) (f := f)
      have hnn : n * n ≤ 100 := Nat.mul_le_mul hn hn
      have hpos : 0 < n * n := Nat.mul_pos hn1 hn1
      have hg0 : 0 < Nat.gcd (cntN n f) (n * n) := Nat.gcd_pos_of_pos_right _ hpos
      have hg1 : Nat.gcd (cntN n f) (n * n) ≤ n * n := Nat.gcd_le_right _ hpos
      refine ex_let (d := .int (cntN n f : Nat)) (ev_is (ev_cb (ea_cons (ev_lcMR (f := fun _ => true) (F := fun x => flat (fun y => if decide (f x y = f y x) = true then [D.int 1] else []) n) (ev_var rfl) (by omega) (by decide) (fun x vx hx => ⟨et_yes, fun _ => ?_⟩) (fun i hi h => nomatch h) (by rw [hc, sizeLine_eq]; omega)) ea_nil) cb_lenL) (by rw [hc])) fun v2 => ?_
      · refine evin_rngO (f := fun y => decide (f x y = f y x)) (F := fun y => if decide (f x y = f y x) = true then [D.int 1] else []) (ev_var rfl) (by omega) (by decide) (fun y vy hy => ⟨et_test (ev_op (ev_row (ev_tbl (ev_var rfl) (ev_var rfl) hx) (ev_var rfl) hy) (ev_row (ev_tbl (ev_var rfl) (ev_var rfl) hy) (ev_var rfl) hx) op_eqN), fun h => ?_⟩) (fun i hi h => by rw [if_neg (by rw [h]; exact Bool.false_ne_true)])
        rw [if_pos h]
        exact evin_nil ev_int
      refine ex_let (d := .int ((n * n : Nat) : Int)) (ev_is (ev_op (ev_cb (ea_cons (ev_var rfl) ea_nil) cb_lenTbl) (ev_cb (ea_cons (ev_var rfl) ea_nil) cb_lenTbl) (op_mulI (.inl ⟨by omega, by omega⟩))) rfl) fun v3 => ?_
      refine ex_let (d := .int ((Nat.gcd (cntN n f) (n * n) : Nat) : Int)) (ev_cb (ea_cons (ev_var rfl) (ea_cons (ev_var rfl) ea_nil)) cb_gcd) fun v4 => ?_
      exact ex_ret (ev_tup (ea_cons (ev_op (ev_var rfl) (ev_var rfl) (op_fdivI (by omega))) (ea_cons (ev_op (ev_var rfl) (ev_var rfl) (op_fdivI (by omega))) ea_nil)) (sz 2)) fun v => rfl
    · obtain ⟨h1, h2, rfl, rfl, hv⟩ := hE
      cases hv
      exact ex_rsDrop (rs_call (eav_cons (evv_var rfl) eav_nil) ⟨h1, h2, rfl, rfl, rfl⟩) ⟨rfl, rfl, rfl⟩
theorem ok_cancellable (T : Tx K mg) : FnOk P w K mg base (L2.CX P w) 9 T.f_cancellable T.d_cancellable p_cancellable (spX K (R_dr cancD) (E_check_semigroup T)) := by
  refine T.F_cancellable.okX sc_cancellable (fun vs H Q E h => ?_) (fun cdv A outer s H vs Q E hr h => ?_)
  · obtain ⟨G, ds, e, hd, hR | hR⟩ := h
    · rw [hd.length]; obtain ⟨d, hR, q⟩ := hR
      match ds, hR with
      | [_], _ => rfl
    · rw [hd.length]; obtain ⟨c, f, v, hR, q⟩ := hR
      match ds, hR with
      | [_], _ => rfl
  · have tk : Takes (cxOf (L2.CX P w) P w K mg base n_cancellable "cancellable" (defScope s_cancellable) T.f_cancellable cdv A outer s H E) (fun cls d _ H => E cls d H) := takes_of rfl rfl rfl rfl
    have hpass : PassesOwn _ _ _ (cxOf (L2.CX P w) P w K mg base n_cancellable "cancellable" (defScope s_cancellable) T.f_cancellable cdv A outer s H E).xe := passes_of (X := cxOf (L2.CX P w) P w K mg base n_cancellable "cancellable" (defScope s_cancellable) T.f_cancellable cdv A outer s H E) rfl
    refine ⟨_, (pss_cons (ps_expr (pe_callS (ok_check_semigroup T) (hr.mono (by omega)) (by rfl) T.g_check_semigroup T.F_check_semigroup.kp T.b_check_semigroup (fun σ => passAt tk σ) (pa_cons (pv 0) pa_nil)))
      (pss_cons (ps_set (i := 1) sc_cancellable.nd rfl (.inr rfl) (pe_callB (call_lenK K) (by rfl) T.m_len (by decide +kernel) (pa_cons (pv 0) pa_nil)))
      (pss_cons (ps_setLc (i := 2) (own := [("x", 4)]) rfl sc_cancellable.nd rfl rfl (sw_true rfl rfl rfl (by decide +kernel)) (pi_range1 (by rfl) T.m_range (pa_cons (pv 1) pa_nil)) (blkOk_by (by rfl)) (fun _ _ _ _ _ => pg_name (i := 4) sc_cancellable.nd rfl (by first | exact .inl rfl | exact .inr rfl)) (fun _ _ _ _ _ => (pts_one (pt_cmpR op_eq (pe_callB (call_lenS w) (by rfl) T.m_len (by decide +kernel) (pa_cons (pe_callTy (call_setOfK K w) (by rfl) T.m_set (by decide +kernel) (pa_cons (pe_ix (ix_seqK K) (pv 0) (pv 4) (fun _ _ => rfl)) pa_nil)) pa_nil)) (pv 1) (nomark _)))) (fun _ _ _ _ _ => (pv 4)))
      (pss_cons (ps_setLc (i := 3) (own := [("x", 4)]) rfl sc_cancellable.nd rfl rfl (sw_true rfl rfl rfl (by decide +kernel)) (pi_range1 (by rfl) T.m_range (pa_cons (pv 1) pa_nil)) (blkOk_by (by rfl)) (fun _ _ _ _ _ => pg_name (i := 4) sc_cancellable.nd rfl (by first | exact .inl rfl | exact .inr rfl)) (fun _ _ _ _ _ => (pts_one (pt_cmpR op_eq (pe_callB (call_lenS w) (by rfl) T.m_len (by decide +kernel) (pa_cons (pe_scIK w (hc := rfl) (own := [("y", 5)]) sc_cancellable.nd (pi_range1 (by rfl) T.m_range (pa_cons (pv 1) pa_nil)) (blkOk_by (by rfl)) (fun _ _ _ _ _ => pg_name (i := 5) sc_cancellable.nd rfl (by first | exact .inl rfl | exact .inr rfl)) (fun _ _ _ _ _ => pts_nil) (fun _ _ _ _ _ => (pe_ix (ix_seqK K) (pe_ix (ix_seqK K) (pv 0) (pv 5) (fun _ _ => rfl)) (pv 4) (fun _ _ => rfl)))) pa_nil)) (pv 1) (nomark _)))) (fun _ _ _ _ _ => (pv 4)))
      (pss_one (ps_ret (pe_tup (pa_cons (pe_tupleOfK K (by rfl) T.m_tuple (pv 2)) (pa_cons (pe_tupleOfK K (by rfl) T.m_tuple (pv 3)) pa_nil))))))))), ?_⟩
    obtain ⟨G, ds, e, hd, hh⟩ := h
    have hl : ∃ x0, ds = [x0] := by
      rcases hh with ⟨d, hR, _⟩ | ⟨c, f, v, hR, _⟩
      · match ds, hR with
        | [x0], _ => exact ⟨x0, rfl⟩
      · match ds, hR with
        | [x0], _ => exact ⟨x0, rfl⟩
    obtain ⟨x0, rfl⟩ := hl
    cases hd with
    | @cons v0 vs0 _ _ dv0 hd =>
    cases hd
    refine EX.finX (good_start e ((.cons dv0 .nil)) n_cancellable) (hh.imp (fun ⟨d, hR, q⟩ => ⟨d, q, ?_⟩) fun ⟨cls, f, v, hE, q⟩ => ⟨cls, f, v, q, ?_⟩) <;> show EX K ⟨G, H, none⟩ _ _ [Sl.val v0 x0, Sl.un, Sl.un, Sl.un, Sl.un, Sl.un] _
    · obtain ⟨n, f, hs, rfl, rfl⟩ := hR
      have hn := hs.1.n10
      have hl : n < 1000000 := by omega
      refine ex_cons (ex_drop (ev_callX (ea_cons (ev_var rfl) ea_nil) (okc_semi hs)) rfl) ?_
      refine ex_let (d := .int (n : Nat)) (ev_cb (ea_cons (ev_var rfl) ea_nil) cb_lenTbl) fun v1 => ?_
      refine ex_let (d := .lst (lstN (lcaL n f))) (ev_fltI (p := fun x => decide (dcount (rowI n f x) = n)) (ei_rng1N (ev_var rfl) hl) hl (by decide) (fun x v hx => et_test (ev_op (ev_cb (ea_cons (ev_cb (ea_cons (ev_tbl (ev_var rfl) (ev_var rfl) hx) ea_nil) (cb_setRow (by omega))) ea_nil) cb_lenS) (ev_var rfl) op_eqN)) fun x v hx => ev_var rfl) fun v2 => ?_
      refine ex_let (d := .lst (lstN (rcaL n f))) (ev_fltI (p := fun x => decide (dcount (colI n f x) = n)) (ei_rng1N (ev_var rfl) hl) hl (by decide) (fun x v hx => et_test (ev_op (ev_cb (ds := [setW w (colI n f x)]) (ea_cons ?_ ea_nil) (cb_lenS (S := fun j => decide (j ∈ colI n f x)) (n := dcount (colI n f x)))) (ev_var rfl) op_eqN)) fun x v hx => ev_var rfl) fun v3 => ?_
      · have h := ev_scN (K := K) (β := ⟨G, H, none⟩) (w := w) (wi := iRng1 (tCons (tVar 1) tNil)) (j := 5) (vs := [5]) (f := fun _ => true) (F := fun y => ((f y x : Nat) : Int)) (tt := tYes) (te := tOp (rIx K) (tOp (rIx K) (tVar 0) (tVar 5)) (tVar 4)) (env := [Sl.val v0 (tblD n f), Sl.val v1 (.int (n : Nat)), Sl.val v2 (.lst (lstN (lcaL n f))), Sl.un, Sl.val v (.int (x : Nat)), Sl.un]) (ei_rng1N (n := n) (ev_var rfl) hl) (by rw [lstR_len]; unfold scanBound; omega) (by decide) (fun i u d hd => by
          obtain ⟨hi, rfl⟩ := lstR_get hd
          exact ⟨et_yes, fun _ => (ev_row (ev_tbl (ev_var rfl) (ev_var rfl) hi) (ev_var rfl) hx)⟩)
        rw [lstR_len, keepI_all] at h
        exact h
      exact ex_ret (ev_tup (ea_cons (ev_then (ev_var rfl) un_tupN) (ea_cons (ev_then (ev_var rfl) un_tupN) ea_nil)) (sz 2)) fun v => rfl
    · obtain ⟨h1, h2, rfl, rfl, hv⟩ := hE
      cases hv
      exact ex_rsDrop (rs_call (eav_cons (evv_var rfl) eav_nil) ⟨h1, h2, rfl, rfl, rfl⟩) ⟨rfl, rfl, rfl⟩
theorem ok_units_in (T : Tx K mg) : FnOk P w K mg base CX0 2 T.f_units_in T.d_units_in p_units_in (spD K (R_dt fun n f => tupN (uniL n f))) := by
  refine T.F_units_in.ok sc_units_in (fun vs H Q E h => ?_) (fun cdv A outer s H vs Q E hr h => ?_)
  · obtain ⟨G, ds, d, e, hd, hR, q⟩ := h
    rw [hd.length]
    match ds, hR with
    | [_], _ => rfl
  · refine ⟨_, (pss_cons (ps_set (i := 1) sc_units_in.nd rfl (.inr rfl) (pe_call (ok_identity_of T) (hr.mono (by omega)) (by rfl) T.g_identity_of T.F_identity_of.kp T.b_identity_of .nil pass0 (pa_cons (pv 0) pa_nil)))
      (pss_cons (ps_set (i := 2) sc_units_in.nd rfl (.inr rfl) (pe_callTy cr_range1 (by rfl) T.m_range (by decide +kernel) (pa_cons (pe_callB (call_lenK K) (by rfl) T.m_len (by decide +kernel) (pa_cons (pv 0) pa_nil)) pa_nil)))
      (pss_cons (ps_if (pt_cmpR op_isN1 (pv 1) pe_non (nomark _)) (pss_one (ps_ret (pe_tup pa_nil))) pss_nil)
      (pss_one (ps_ret (pe_tupleOfK K (by rfl) T.m_tuple (pe_lc (own := [("x", 3)]) rfl sc_units_in.nd (pi_rngO (pv 2)) (blkOk_by (by rfl)) (fun _ _ _ _ _ => pg_name (i := 3) sc_units_in.nd rfl (by first | exact .inl rfl | exact .inr rfl)) (fun _ _ _ _ _ => (pts_one (pt_val (pe_callB (cr_anyK K) (by rfl) T.m_any (by decide +kernel) (pa_cons (pe_lc (own := [("y", 4)]) rfl sc_units_in.nd (pi_rngO (pv 2)) (blkOk_by (by rfl)) (fun _ _ _ _ _ => pg_name (i := 4) sc_units_in.nd rfl (by first | exact .inl rfl | exact .inr rfl)) (fun _ _ _ _ _ => pts_nil) (fun _ _ _ _ _ => (pe_chain op_eq op_eq (pe_ix (ix_seqK K) (pe_ix (ix_seqK K) (pv 0) (pv 3) (fun _ _ => rfl)) (pv 4) (fun _ _ => rfl)) (pv 1) (pe_ix (ix_seqK K) (pe_ix (ix_seqK K) (pv 0) (pv 4) (fun _ _ => rfl)) (pv 3) (fun _ _ => rfl))))) pa_nil))))) (fun _ _ _ _ _ => (pv 3))))))))), ?_⟩
    obtain ⟨G, ds, d, e, hd, hR, q⟩ := h
    have hl : ∃ x0, ds = [x0] := by
      match ds, hR with
      | [x0], _ => exact ⟨x0, rfl⟩
    obtain ⟨x0, rfl⟩ := hl
    cases hd with
    | @cons v0 vs0 _ _ dv0 hd =>
    cases hd
    refine EX.fin (W := fun _ _ _ _ => False) (good_start e ((.cons dv0 .nil)) n_units_in) q ?_
    show EX K ⟨G, H, none⟩ _ _ [Sl.val v0 x0, Sl.un, Sl.un, Sl.un, Sl.un] _
    obtain ⟨n, f, hf, rfl, rfl⟩ := hR
    have hn := hf.n10
    have hl : n < 1000000 := by omega
    refine ex_let (ev_call (ea_cons (ev_var rfl) ea_nil) ⟨n, f, hf, rfl, rfl⟩) fun v1 => ?_
    refine ex_let (ev_cb (ea_cons (ev_cb (ea_cons (ev_var rfl) ea_nil) cb_lenTbl) ea_nil) cb_range1) fun v2 => ?_
    cases q0 : oneL n f with
    | nil =>
      refine ex_when (b := true) (et_test (ev_op (x := .non) (ev_is (ev_var rfl) (by show hdD (oneL n f) = D.non; rw [q0]; rfl)) ev_non op_isNN)) (fun _ => ex_ret (ev_tup ea_nil (sz 0)) fun v => ?_) fun h => nomatch h
      show D.tup [] = tupN (uniL n f)
      unfold uniL
      rw [q0]
      rfl
    | cons e0 l =>
      refine ex_when (b := false) (et_test (ev_op (x := .int (e0 : Nat)) (ev_is (ev_var rfl) (by show hdD (oneL n f) = D.int (e0 : Nat); rw [q0]; rfl)) ev_non op_isNI)) (fun h => nomatch h) fun _ => ?_
      refine ex_ret (ev_is (ev_then (ev_fltI (p := fun x => anyN n fun y => decide (f x y = e0) && decide (e0 = f y x)) (ei_rngN (ev_var rfl) hl) hl (by decide) (fun x v hx => et_B (ev_anyI (q := fun y => decide (f x y = e0) && decide (e0 = f y x)) (ei_rngN (ev_var rfl) hl) hl (by decide) fun y u hy => ev_chain (ev_row (ev_tbl (ev_var rfl) (ev_var rfl) hx) (ev_var rfl) hy) (ev_is (ev_var rfl) (by show hdD (oneL n f) = D.int (e0 : Nat); rw [q0]; rfl)) op_eqN (fun _ => (ev_row (ev_tbl (ev_var rfl) (ev_var rfl) hy) (ev_var rfl) hx)) (fun _ => op_eqN))) fun x v hx => ev_var rfl) un_tupN) ?_) fun v => rfl
      show _ = tupN (uniL n f)
      unfold uniL
      rw [q0]
theorem ok_units (T : Tx K mg) : FnOk P w K mg base (L2.CX P w) 9 T.f_units T.d_units p_units (spX K (R_dr fun n f => tupN (uniL n f)) (E_check_semigroup T)) := by
  refine T.F_units.okX sc_units (fun vs H Q E h => ?_) (fun cdv A outer s H vs Q E hr h => ?_)
  · obtain ⟨G, ds, e, hd, hR | hR⟩ := h
    · rw [hd.length]; obtain ⟨d, hR, q⟩ := hR
      match ds, hR with
      | [_], _ => rfl
    · rw [hd.length]; obtain ⟨c, f, v, hR, q⟩ := hR
      match ds, hR with
      | [_], _ => rfl
  · have tk : Takes (cxOf (L2.CX P w) P w K mg base n_units "units" (defScope s_units) T.f_units cdv A outer s H E) (fun cls d _ H => E cls d H) := takes_of rfl rfl rfl rfl
    have hpass : PassesOwn _ _ _ (cxOf (L2.CX P w) P w K mg base n_units "units" (defScope s_units) T.f_units cdv A outer s H E).xe := passes_of (X := cxOf (L2.CX P w) P w K mg base n_units "units" (defScope s_units) T.f_units cdv A outer s H E) rfl
    refine ⟨_, (pss_cons (ps_expr (pe_callS (ok_check_semigroup T) (hr.mono (by omega)) (by rfl) T.g_check_semigroup T.F_check_semigroup.kp T.b_check_semigroup (fun σ => passAt tk σ) (pa_cons (pv 0) pa_nil)))
      (pss_one (ps_ret (pe_call (ok_units_in T) (hr.mono (by omega)) (by rfl) T.g_units_in T.F_units_in.kp T.b_units_in .nil pass0 (pa_cons (pv 0) pa_nil))))), ?_⟩
    obtain ⟨G, ds, e, hd, hh⟩ := h
    have hl : ∃ x0, ds = [x0] := by
      rcases hh with ⟨d, hR, _⟩ | ⟨c, f, v, hR, _⟩
      · match ds, hR with
        | [x0], _ => exact ⟨x0, rfl⟩
      · match ds, hR with
        | [x0], _ => exact ⟨x0, rfl⟩
    obtain ⟨x0, rfl⟩ := hl
    cases hd with
    | @cons v0 vs0 _ _ dv0 hd =>
    cases hd
    refine EX.finX (good_start e ((.cons dv0 .nil)) n_units) (hh.imp (fun ⟨d, hR, q⟩ => ⟨d, q, ?_⟩) fun ⟨cls, f, v, hE, q⟩ => ⟨cls, f, v, q, ?_⟩) <;> show EX K ⟨G, H, none⟩ _ _ [Sl.val v0 x0] _
    · obtain ⟨n, f, hs, rfl, rfl⟩ := hR
      have hn := hs.1.n10
      have hl : n < 1000000 := by omega
      refine ex_cons (ex_drop (ev_callX (ea_cons (ev_var rfl) ea_nil) (okc_semi hs)) rfl) ?_
      exact ex_ret (ev_call (ea_cons (ev_var rfl) ea_nil) ⟨n, f, hs.1, rfl, rfl⟩) fun v => rfl
    · obtain ⟨h1, h2, rfl, rfl, hv⟩ := hE
      cases hv
      exact ex_rsDrop (rs_call (eav_cons (evv_var rfl) eav_nil) ⟨h1, h2, rfl, rfl, rfl⟩) ⟨rfl, rfl, rfl⟩

end
end Kx


set_option Elab.async false
set_option linter.all false
set_option maxRecDepth 100000
set_option maxHeartbeats 2000000
namespace Kx
open PySem PySem.Spec PyProof.Rows L2 DL
section
variable {P : Program} {w : World} {K : PySem.W.Frag} {mg : Str → Option Value} {base : Heap}
def cellF (ns : List Int) (k : Nat) : Int := if h : k < ns.length then ns[k] else 6113 * k + (ns.take 1).sum % 1000033
def spCellL (K : PySem.W.Frag) : Sp := fun vs H Q _ => ∃ (a : Addr) (ns : List Int) (k : Nat), vs = [.ref a, .int k] ∧ SqL K H a (ns.map V.int) ∧ ∀ H', Ex H H' → Q (.int (cellF ns k)) H'
theorem ok_law_cell (T : Tx K mg) : FnOk P w K mg base CX0 1 T.f_law_cell T.d_law_cell p_law_cell (spCellL K) := by
  refine T.F_law_cell.ok sc_law_cell (fun vs H Q E h => ?_) (fun cdv A outer s H vs Q E hr h => ?_)
  · obtain ⟨_, _, _, rfl, _⟩ := h; rfl
  · refine ⟨_, (pss_one (ps_ret (pe_ifExp (pt_cmpR op_lt (pv 1) (pe_callB (call_lenK K) (by rfl) T.m_len (by decide +kernel) (pa_cons (pv 0) pa_nil)) (nomark _)) (pe_ix (ix_seqK K) (pv 0) (pv 1) (fun _ _ => rfl)) (pe_op op_add (pe_op op_mul pe_int (pv 1)) (pe_op op_mod (pe_callTy call_int1 (by rfl) T.m_int (by decide +kernel) (pa_cons (pe_callB (cr_sum rfl) (by rfl) T.m_sum (by decide +kernel) (pa_cons (pe_slice (sl_listK K) (pv 0) po_none (po_some pe_int)) pa_nil)) pa_nil)) pe_int))))), ?_⟩
    obtain ⟨a, ns, k, rfl, hS, q⟩ := h
    refine ⟨_, rfl, _, rfl, .ref a, (ns.map V.int).length, rfl, .inl ⟨_, hS, rfl⟩, k, ((ns.map V.int).length : Nat), rfl, rfl, _, rfl, ?_⟩
    show if decide ((k : Int) < (((ns.map V.int).length : Nat) : Int)) = true then _ else _
    by_cases hk : k < ns.length
    · rw [if_pos (decide_eq_true (by rw [List.length_map]; omega))]
      refine ⟨_, rfl, _, rfl, .inl ⟨a, _, _, _, rfl, rfl, hS, atI_nat (v := .int ns[k]) (by rw [List.getElem?_map, List.getElem?_eq_getElem hk]; rfl), ?_⟩⟩
      have := q H (.refl H)
      unfold cellF at this
      rw [dif_pos hk] at this
      exact this
    · rw [if_neg (fun z => by have := of_decide_eq_true z; rw [List.length_map] at this; omega)]
      refine ⟨.int k, rfl, 6113, k, rfl, rfl, .inl ⟨by decide, by decide⟩, .ref a, rfl, ?_⟩
      refine ⟨1, rfl, a, _, rfl, hS, fun p hp => ⟨p, ns.take 1, rfl, .inl (.inl ?_), .inl ⟨_, rfl, _, _, rfl, rfl, (show (0 : Int) < 1000033 by decide), _, _, rfl, rfl, ?_⟩⟩⟩
      · rw [upd_same]
        have hc : cutV (ns.map V.int) none (some 1) = (ns.take 1).map V.int := by
          cases ns with
          | nil => rfl
          | cons x r => simp [cutV, HT.sIx]
        rw [hc]
      · have := q (upd H p (.lst (cutV (ns.map V.int) none (some 1)))) (.new hp)
        unfold cellF at this
        rw [dif_neg hk] at this
        exact this
def R_law_box : List D → List D → Prop
  | [x], es => ∃ g : Int, x = .int g ∧ es = [.int (if g < 0 then -g else g), .bl (decide ((10 : Int) ^ 18 ≤ if g < 0 then -g else g)), .int ((if g < 0 then -g else g) % 2147483629), .int 0]
  | _, _ => False
theorem ok_law_box (T : Tx K mg) : FnOk P w K mg base CX0 1 T.f_law_box T.d_law_box p_law_box (spN K R_law_box) := by
  refine T.F_law_box.ok sc_law_box (fun vs H Q E h => ?_) (fun cdv A outer s H vs Q E hr h => ?_)
  · obtain ⟨G, ds, d, e, hd, hR, q⟩ := h
    rw [hd.length]
    match ds, hR with
    | [_], _ => rfl
  · refine ⟨_, (pss_one (ps_ret (pe_lst (pa_cons (pe_callB call_abs (by rfl) T.m_abs (by decide +kernel) (pa_cons (pv 0) pa_nil)) (pa_cons (pe_cmpR op_ge (pe_callB call_abs (by rfl) T.m_abs (by decide +kernel) (pa_cons (pv 0) pa_nil)) (pe_op op_pow pe_int pe_int) (nomark _)) (pa_cons (pe_op op_mod (pe_callTy call_int1 (by rfl) T.m_int (by decide +kernel) (pa_cons (pe_callB call_abs (by rfl) T.m_abs (by decide +kernel) (pa_cons (pv 0) pa_nil)) pa_nil)) pe_int) (pa_cons pe_int pa_nil))))))), ?_⟩
    obtain ⟨G, ds, es, e, hd, hR, q⟩ := h
    have hl : ∃ x0, ds = [x0] := by
      match ds, hR with
      | [x0], _ => exact ⟨x0, rfl⟩
    obtain ⟨x0, rfl⟩ := hl
    cases hd with
    | @cons v0 vs0 _ _ dv0 hd =>
    cases hd
    have g0 : Good K ⟨G, H, none⟩ _ [Sl.val v0 x0] G H := good_start e ((.cons dv0 .nil)) n_law_box
    obtain ⟨g, rfl, rfl⟩ := hR
    exact ret_new g0 (ea_cons (ev_cb (ea_cons (ev_var rfl) ea_nil) cb_abs) (ea_cons (ev_op (ev_cb (ea_cons (ev_var rfl) ea_nil) cb_abs) (ev_op ev_int ev_int (op_powI ⟨by decide, by decide, by decide⟩)) op_geI) (ea_cons (ev_op (ev_cb (ea_cons (ev_cb (ea_cons (ev_var rfl) ea_nil) cb_abs) ea_nil) cb_int) ev_int (op_modI (by decide))) (ea_cons ev_int ea_nil)))) (sz 4) rfl q
def R_law_take : List D → (D → Prop) → Prop
  | [x], Pd => ∃ m : Nat, x = .int m ∧ 1 ≤ m ∧ m < 1073741824 ∧ ∀ i : Nat, i < m → Pd (.int i)
  | _, _ => False
theorem ok_law_take (T : Tx K mg) : FnOk P w K mg base CX0 1 T.f_law_take T.d_law_take p_law_take (spB K 1 R_law_take) := by
  refine T.F_law_take.ok sc_law_take (fun vs H Q E h => ?_) (fun cdv A outer s H vs Q E hr h => ?_)
  · obtain ⟨G, b, n, xs, bs, ws, ds, Pd, rfl, hG, hH, hx, hbx, hn, e, hd, hR, q⟩ := h
    rw [List.length_cons, hd.length]
    match ds, hR with
    | [_], _ => rfl
  · refine ⟨_, (pss_cons (ps_if (PW.pt (pw_and (pt_val (pe_ix (ix_listK K) (pv 0) pe_int (fun _ _ => rfl))) (pw_and1 (pt_cmpR op_gt (pe_ix (ix_listK K) (pv 0) pe_int (fun _ _ => rfl)) pe_int (nomark _))))) (pss_cons (ps_set (i := 2) sc_law_take.nd rfl (.inl rfl) (pe_op op_mod (pe_callTy call_int1 (by rfl) T.m_int (by decide +kernel) (pa_cons (pe_ix (ix_listK K) (pv 0) pe_int (fun _ _ => rfl)) pa_nil)) (pv 1)))
      (pss_cons (ps_asg (pe_op op_fdiv (pe_ix (ix_listK K) (pv 0) pe_int (fun _ _ => rfl)) (pv 1)) (pg_sub (pv 0) pe_int set_list))
      (pss_one (ps_ret (pv 2))))) pss_nil)
      (pss_cons (ps_asg (pe_op op_add (pe_ix (ix_listK K) (pv 0) pe_int (fun _ _ => rfl)) pe_int) (pg_sub (pv 0) pe_int set_list))
      (pss_cons (ps_set (i := 3) sc_law_take.nd rfl (.inl rfl) (pe_op op_mod (pe_callTy call_int1 (by rfl) T.m_int (by decide +kernel) (pa_cons (pe_op op_pow (pe_op op_add (pe_op op_add (pe_ix (ix_listK K) (pv 0) pe_int (fun _ _ => rfl)) (pe_op op_mul pe_int (pe_ix (ix_listK K) (pv 0) pe_int (fun _ _ => rfl)))) pe_int) pe_int) pa_nil)) pe_int))
      (pss_one (ps_ret (pe_op op_mod (pe_callTy call_int1 (by rfl) T.m_int (by decide +kernel) (pa_cons (pe_op op_fdiv (pe_op op_mod (pe_callTy call_int1 (by rfl) T.m_int (by decide +kernel) (pa_cons (pe_op op_pow (pe_op op_add (pe_op op_mul (pv 3) pe_int) (pe_op op_mul pe_int (pe_ix (ix_listK K) (pv 0) pe_int (fun _ _ => rfl)))) pe_int) pa_nil)) pe_int) pe_int) pa_nil)) (pv 1))))))), ?_⟩
    obtain ⟨G, b, n, xs, bs, ws, ds, Pd, rfl, hG, hH, hx, hbx, hn, e, hd, hR, q⟩ := h
    have hl : ∃ x1, ds = [x1] := by
      match ds, hR with
      | [x1], _ => exact ⟨x1, rfl⟩
    obtain ⟨x1, rfl⟩ := hl
    cases hd with
    | @cons v1 vs0 _ _ dv1 hd =>
    cases hd
    refine EX.finB (W := fun _ _ _ _ => False) (k := 1) (n := n) (env := [Sl.own b bs, Sl.val v1 x1, Sl.un, Sl.un]) rfl (good_box e hG hH hx ((.cons dv1 .nil)) n_law_take) q ?_
    obtain ⟨m, rfl, m1, m2, hP⟩ := hR
    obtain ⟨g, f, s, c, rfl, g0, s0, s1, c0, c1⟩ := hbx
    have tst : EVT K ⟨G, H, some b⟩ (tAnd (tB (tOp (rIxL K) (tVar 0) (tC (.int 1)))) (tTest (tOp (rI0 fun i j => .bl (decide (j < i))) (tOp (rIxL K) (tVar 0) (tC (.int 0))) (tC (.int 0))))) [Sl.own b [.int g, .bl f, .int s, .int c], Sl.val v1 (.int m), Sl.un, Sl.un] (f && decide (0 < g)) :=
      et_and (et_B (ev_ixOwn rfl ev_int rfl)) fun _ => et_test (ev_op (ev_ixOwn rfl ev_int rfl) ev_int op_gtI)
    refine ex_when tst (fun h => ?_) fun _ => ?_
    · obtain ⟨hf, hg⟩ := Bool.and_eq_true_iff.mp h
      have hg' := of_decide_eq_true hg
      refine ex_let (ev_op (ev_cb (ea_cons (ev_ixOwn rfl ev_int rfl) ea_nil) cb_int) (ev_var rfl) (op_modI (by omega))) fun u => ?_
      refine ex_cons (ex_setOwn (kk := 0) (j := 0) rfl (ev_op (ev_ixOwn rfl ev_int rfl) (ev_var rfl) (op_fdivI (by omega))) ev_int rfl rfl) ?_
      refine ex_ret (ev_var rfl) fun v => ⟨?_, _, ⟨g / m, f, s, c, rfl, Int.ediv_nonneg g0 (by omega), s0, s1, c0, by omega⟩, rfl⟩
      have h1 := Int.emod_nonneg g (show (m : Int) ≠ 0 by omega)
      have h2 := Int.emod_lt_of_pos g (show (0 : Int) < m by omega)
      rw [show g % (m : Int) = ((g % (m : Int)).toNat : Int) by omega]
      exact hP _ (by omega)
    · refine ex_cons (ex_setOwn (kk := 3) (j := 3) rfl (ev_op (ev_ixOwn rfl ev_int rfl) ev_int op_addI) ev_int rfl rfl) ?_
      refine ex_let (ev_op (ev_cb (ea_cons (ev_op (ev_op (ev_op (ev_ixOwn rfl ev_int rfl) (ev_op ev_int (ev_ixOwn rfl ev_int rfl) (op_mulI (.inl ⟨by decide, by decide⟩))) op_addI) ev_int op_addI) ev_int (op_powI ⟨by decide, by decide, by omega⟩)) ea_nil) cb_int) ev_int (op_modI (by decide))) fun u => ?_
      have r1 := Int.emod_nonneg ((s + 15485917 * (c + 1) + 179424691) ^ (5 : Int).toNat) (show (2147483647 : Int) ≠ 0 by decide)
      have r2 := Int.emod_lt_of_pos ((s + 15485917 * (c + 1) + 179424691) ^ (5 : Int).toNat) (show (0 : Int) < 2147483647 by decide)
      generalize (s + 15485917 * (c + 1) + 179424691) ^ (5 : Int).toNat % 2147483647 = r at r1 r2
      refine ex_ret (ev_op (ev_cb (ea_cons (ev_op (ev_op (ev_cb (ea_cons (ev_op (ev_op (ev_op (ev_var rfl) ev_int (op_mulI (.inr ⟨by decide, by decide⟩))) (ev_op ev_int (ev_ixOwn rfl ev_int rfl) (op_mulI (.inl ⟨by decide, by decide⟩))) op_addI) ev_int (op_powI ⟨by decide, by decide, by omega⟩)) ea_nil) cb_int) ev_int (op_modI (by decide))) ev_int (op_fdivI (by decide))) ea_nil) cb_int) (ev_var rfl) (op_modI (by omega))) fun v => ⟨?_, _, ⟨g, f, s, c + 1, rfl, g0, s0, s1, by omega, by omega⟩, rfl⟩
      generalize ((r * 48271 + 104761 * (c + 1)) ^ (3 : Int).toNat % 2147483587 / 64) = t
      have h1 := Int.emod_nonneg t (show (m : Int) ≠ 0 by omega)
      have h2 := Int.emod_lt_of_pos t (show (0 : Int) < m by omega)
      rw [show t % (m : Int) = ((t % (m : Int)).toNat : Int) by omega]
      exact hP _ (by omega)

theorem take_ok {m : Nat} (h1 : 1 ≤ m) (h2 : m < 1073741824) : R_law_take [.int m] (fun d => ∃ t : Nat, t < m ∧ d = .int t) := ⟨m, rfl, h1, h2, fun i hi => ⟨i, hi, rfl⟩⟩
theorem ne_box {K : PySem.W.Frag} {G H : Hp} {b a : Addr} {bs ds : List D} {env : Env'} {i : Nat} (h0 : env[0]? = some (.own b bs)) (hi : env[i + 1]? = some (.own a ds)) : ∀ σ G' H', Good K ⟨G, H, some b⟩ σ env G' H' → (⟨G, H, some b⟩ : Bas).bx ≠ some a := fun σ G' H' g z => by
  have hbp : b = a := Option.some.inj z
  cases env with
  | nil => cases h0
  | cons s env =>
    have e : s = .own b bs := Option.some.inj h0
    subst e
    have nd : (b :: owns env).Nodup := g.nd
    exact (List.nodup_cons.mp nd).1 (by rw [hbp]; exact owns_own (env := env) (i := i) hi)
theorem perm_erase : ∀ (l : List Nat) (t : Nat) (h : t < l.length), (l[t] :: l.eraseIdx t).Perm l
  | [], _, h => absurd h (Nat.not_lt_zero _)
  | a :: l, 0, _ => .refl _
  | a :: l, t + 1, h => by
    have h' : t < l.length := Nat.lt_of_succ_lt_succ h
    have := perm_erase l t h'
    exact (List.Perm.swap a l[t] (l.eraseIdx t)).trans (.cons a this)
theorem lstN_erase : ∀ (l : List Nat) (t : Nat), (lstN l).eraseIdx t = lstN (l.eraseIdx t)
  | [], _ => rfl
  | _ :: _, 0 => rfl
  | a :: l, t + 1 => by
    show D.int (a : Nat) :: (lstN l).eraseIdx t = D.int (a : Nat) :: lstN (l.eraseIdx t)
    rw [lstN_erase l t]
def R_law_mixed : List D → (D → Prop) → Prop
  | [items], Pd => ∃ ms : List Nat, items = .lst (lstN ms) ∧ ms.length ≤ 10 ∧ ∀ ns : List Nat, ns.Perm ms → Pd (.lst (lstN ns))
  | _, _ => False
theorem ok_law_mixed (T : Tx K mg) : FnOk P w K mg base CX0 2 T.f_law_mixed T.d_law_mixed p_law_mixed (spB K 10 R_law_mixed) := by
  refine T.F_law_mixed.ok sc_law_mixed (fun vs H Q E h => ?_) (fun cdv A outer s H vs Q E hr h => ?_)
  · obtain ⟨G, b, n, xs, bs, ws, ds, Pd, rfl, hG, hH, hx, hbx, hn, e, hd, hR, q⟩ := h
    rw [List.length_cons, hd.length]
    match ds, hR with
    | [_], _ => rfl
  · refine ⟨_, (pss_cons (ps_par (i := 2) (j := 3) rfl sc_law_mixed.nd rfl rfl (by decide) rfl rfl (pa_cons (pe_callTy (call_list_ofK K) (by rfl) T.m_list (by decide +kernel) (pa_cons (pv 1) pa_nil)) (pa_cons (pe_lst pa_nil) pa_nil)) (by rfl))
      (pss_cons (ps_for PassesOwn.never rfl (pi_range1 (by rfl) T.m_range (pa_cons (pe_callB (call_lenK K) (by rfl) T.m_len (by decide +kernel) (pa_cons (pv 1) pa_nil)) pa_nil)) (pg_name (i := 4) sc_law_mixed.nd rfl (.inl rfl))
      (pss_one (ps_expr (pe_bmK K PySem.F.plainAttrs_list PySem.F.slot_list_append PySem.F.type_list_append mt_append (pv 3) (pa_cons (pe_bmK K PySem.F.plainAttrs_list PySem.F.slot_list_pop PySem.F.type_list_pop mt_popAt (pv 2) (pa_cons (pe_call (ok_law_take T) (hr.mono (by omega)) (by rfl) T.g_law_take T.F_law_take.kp T.b_law_take .nil pass0 (pa_cons (pv 0) (pa_cons (pe_callB (call_lenK K) (by rfl) T.m_len (by decide +kernel) (pa_cons (pv 2) pa_nil)) pa_nil))) pa_nil)) pa_nil)))))
      (pss_one (ps_ret (pv 3))))), ?_⟩
    obtain ⟨G, b, n, xs, bs, ws, ds, Pd, rfl, hG, hH, hx, hbx, hn, e, hd, hR, q⟩ := h
    have hl : ∃ x1, ds = [x1] := by
      match ds, hR with
      | [x1], _ => exact ⟨x1, rfl⟩
    obtain ⟨x1, rfl⟩ := hl
    cases hd with
    | @cons v1 vs0 _ _ dv1 hd =>
    cases hd
    refine EX.finB (W := fun _ _ _ _ => False) (k := 10) (n := n) (env := [Sl.own b bs, Sl.val v1 x1, Sl.un, Sl.un, Sl.un]) rfl (good_box e hG hH hx ((.cons dv1 .nil)) n_law_mixed) q ?_
    obtain ⟨ms, rfl, h10, hP⟩ := hR
    refine ex_seq (N := fun e => ∃ p r, e = [Sl.own b bs, Sl.val v1 (.lst (lstN ms)), Sl.own p (lstN ms), Sl.own r [], Sl.un]) (ex_parNew2 (by decide) (ev_var rfl) fun p r => ⟨p, r, rfl⟩) fun env' ⟨p, r, he⟩ => ?_
    subst he
    refine ex_forRS (n := ms.length) (fun i e => ∃ bs' l fd s, BoxD (n + i) bs' ∧ l.length + i = ms.length ∧ (fd ++ l).Perm ms ∧ e = [Sl.own b bs', Sl.val v1 (.lst (lstN ms)), Sl.own p (lstN l), Sl.own r (lstN fd), s])
      (ev_is (ev_cb (ea_cons (ev_var rfl) ea_nil) cb_lenL) (by rw [lstN_len])) (by omega) ⟨bs, ms, [], _, hbx, rfl, .refl _, rfl⟩ ?_ ?_
    · rintro i env' vt hi ⟨bs', l, fd, s, hB, hl, hp, rfl⟩
      refine ex_appX (P1 := fun v d e => ∃ bs2 l2 y, BoxD (n + (i + 1)) bs2 ∧ l2.length + (i + 1) = ms.length ∧ (fd ++ [y] ++ l2).Perm ms ∧ d = .int (y : Nat) ∧ e = [Sl.own b bs2, Sl.val v1 (.lst (lstN ms)), Sl.own p (lstN l2), Sl.own r (lstN fd), Sl.val vt (.int i)]) ⟨r, lstN fd, rfl⟩ ?_ ?_
      · refine xe_popAt ⟨p, lstN l, rfl⟩ (xe_callB rfl hB (by omega) (ea_cons (ev_lenOwn rfl) ea_nil) (take_ok (m := (lstN l).length) (by rw [lstN_len]; omega) (by rw [lstN_len]; omega))) fun v d e h => ?_
        obtain ⟨⟨t, ht, rfl⟩, bs2, hB2, rfl⟩ := h
        rw [lstN_len] at ht
        refine ⟨p, lstN l, t, .int (l[t] : Nat), rfl, rfl, lstN_get (List.getElem?_eq_getElem ht), by omega, fun u => ⟨bs2, l.eraseIdx t, l[t], by rw [← Nat.add_assoc]; exact hB2, by rw [List.length_eraseIdx_of_lt ht]; omega, ?_, rfl, ?_⟩⟩
        · refine List.Perm.trans ?_ hp
          rw [List.append_assoc]
          exact List.Perm.append_left fd (perm_erase l t ht)
        · rw [lstN_erase]
          rfl
      · rintro v d e ⟨bs2, l2, y, hB2, hl2, hp2, rfl, rfl⟩
        refine ⟨r, lstN fd, rfl, ?_, bs2, l2, fd ++ [y], _, hB2, hl2, hp2, by rw [lstN_app]; rfl⟩
        have := hp2.length_eq
        simp only [List.length_append, List.length_cons, List.length_nil] at this
        rw [lstN_len, sizeLine_eq]
        omega
    · rintro env' ⟨bs', l, fd, s, hB, hl, hp, rfl⟩
      have : l = [] := List.eq_nil_of_length_eq_zero (by omega)
      subst this
      rw [List.append_nil] at hp
      refine ex_retOwn (i := 3) rfl (ne_box (i := 2) rfl rfl) fun v => ⟨hP _ hp, bs', hB.mono (by omega), rfl⟩

end
end Kx


set_option Elab.async false
set_option linter.all false
set_option maxRecDepth 100000
set_option maxHeartbeats 2000000
namespace Kx
open PySem PySem.Spec PyProof.Rows L2 DL
section
variable {P : Program} {w : World} {K : PySem.W.Frag} {mg : Str → Option Value} {base : Heap}
def R_law_followed : List D → D → Prop
  | [o, q], d => ∃ a b : List Nat, o = tupN a ∧ q = tupN b ∧ (∀ i ∈ a, i < b.length) ∧ a.length ≤ 1000 ∧ d = tupN (MP.comp a b)
  | _, _ => False
theorem tupN_get {b : List Nat} {i : Nat} (h : i < b.length) : (b.map fun (i : Nat) => D.int (i : Nat))[i]? = some (.int (b.getD i 0 : Nat)) := by
  rw [List.getElem?_map, List.getElem?_eq_getElem h, List.getD_eq_getElem?_getD, List.getElem?_eq_getElem h]
  rfl
theorem ok_law_followed (T : Tx K mg) : FnOk P w K mg base CX0 1 T.f_law_followed T.d_law_followed p_law_followed (spD K R_law_followed) := by
  refine T.F_law_followed.ok sc_law_followed (fun vs H Q E h => ?_) (fun cdv A outer s H vs Q E hr h => ?_)
  · obtain ⟨G, ds, d, e, hd, hR, q⟩ := h
    rw [hd.length]
    match ds, hR with
    | [_, _], _ => rfl
  · refine ⟨_, (pss_one (ps_ret (pe_tupleOfK K (by rfl) T.m_tuple (pe_lc (own := [("point", 2)]) rfl sc_law_followed.nd (pi_tupK K (pv 0)) (blkOk_by (by rfl)) (fun _ _ _ _ _ => pg_name (i := 2) sc_law_followed.nd rfl (by first | exact .inl rfl | exact .inr rfl)) (fun _ _ _ _ _ => pts_nil) (fun _ _ _ _ _ => (pe_ix (ix_seqK K) (pv 1) (pv 2) (fun _ _ => rfl))))))), ?_⟩
    obtain ⟨G, ds, d, e, hd, hR, q⟩ := h
    have hl : ∃ x0 x1, ds = [x0, x1] := by
      match ds, hR with
      | [x0, x1], _ => exact ⟨x0, x1, rfl⟩
    obtain ⟨x0, x1, rfl⟩ := hl
    cases hd with
    | @cons v0 vs0 _ _ dv0 hd =>
    cases hd with
    | @cons v1 vs1 _ _ dv1 hd =>
    cases hd
    refine EX.fin (W := fun _ _ _ _ => False) (good_start e ((.cons dv0 (.cons dv1 .nil))) n_law_followed) q ?_
    show EX K ⟨G, H, none⟩ _ _ [Sl.val v0 x0, Sl.val v1 x1, Sl.un] _
    obtain ⟨a, b, rfl, rfl, h1, h2, rfl⟩ := hR
    have hlc := ev_lcS (K := K) (β := ⟨G, H, none⟩) (wi := iTup K (tVar 0)) (env := [Sl.val v0 (tupN a), Sl.val v1 (tupN b), Sl.un]) (ds := a.map fun (i : Nat) => D.int (i : Nat)) (F := fun d => .int (b.getD (natD d) 0 : Nat)) (te := tOp (rIx K) (tVar 1) (tVar 2)) (vs := [2]) (j := 2) (ei_tup (ev_var rfl)) (by rw [List.length_map, sizeLine_eq]; omega) (by decide)
      (fun d v hd => by
        obtain ⟨i, hi, rfl⟩ := List.mem_map.mp hd
        exact ev_op (ev_var rfl) (ev_var rfl) (op_ix (.inl rfl) (atI_natD (tupN_get (h1 i hi)))))
    refine ex_ret (ev_is (ev_then hlc un_tupL) ?_) fun v => rfl
    unfold tupN MP.comp
    rw [List.map_map, List.map_map]
    rfl
theorem idxOf_first : ∀ (L : List (List Nat)) (a : List Nat) (m : Nat), m < L.idxOf a → L[m]? ≠ some a
  | [], a, m, h => by simp at h
  | b :: L, a, m, h => by
    by_cases e : b = a
    · subst e; rw [List.idxOf_cons_self] at h; exact absurd h (Nat.not_lt_zero _)
    · rw [List.idxOf_cons, show (b == a) = false from beq_eq_false_iff_ne.mpr e] at h
      have h : m < L.idxOf a + 1 := h
      cases m with
      | zero => intro z; exact e (Option.some.inj z)
      | succ m => exact idxOf_first L a m (Nat.lt_of_succ_lt_succ h)
theorem dd_mem {α : Type} [DecidableEq α] : ∀ (ms acc : List α) (y : α), y ∈ dd acc ms ↔ y ∈ acc ∨ y ∈ ms
  | [], acc, y => by simp [dd]
  | m :: ms, acc, y => by
    unfold dd
    rw [dd_mem ms]
    by_cases h : m ∈ acc
    · rw [if_pos h]
      constructor
      · rintro (q | q)
        · exact .inl q
        · exact .inr (List.mem_cons_of_mem _ q)
      · rintro (q | q)
        · exact .inl q
        · rcases List.mem_cons.mp q with rfl | q
          · exact .inl h
          · exact .inr q
    · rw [if_neg h]
      simp only [List.mem_append, List.mem_cons, List.not_mem_nil, or_false]
      constructor
      · rintro ((q | q) | q)
        · exact .inl q
        · exact .inr (.inl q)
        · exact .inr (.inr q)
      · rintro (q | q | q)
        · exact .inl (.inl q)
        · exact .inl (.inr q)
        · exact .inr q
theorem dd_len {α : Type} [DecidableEq α] : ∀ (ms acc : List α), (dd acc ms).length ≤ acc.length + ms.length
  | [], acc => Nat.le_refl _
  | m :: ms, acc => by
    unfold dd
    refine Nat.le_trans (dd_len ms _) ?_
    split
    · simp only [List.length_cons]; omega
    · simp only [List.length_append, List.length_cons, List.length_nil]; omega
theorem inv0 {p : Nat} {ms : List (List Nat)} (hm : ∀ m ∈ ms, MP.Mv p m) : MP.Inv p ms (dd [] ms) 0 :=
  ⟨hm, fun m h => (dd_mem ms [] m).mpr (.inr h), fun y h => .base (((dd_mem ms [] y).mp h).resolve_left fun z => nomatch z), fun i _ h => absurd h (Nat.not_lt_zero _)⟩
theorem dd_ne {ms : List (List Nat)} (h : ms ≠ []) : dd [] ms ≠ [] := fun e => by
  cases ms with
  | nil => exact h rfl
  | cons m ms =>
    have := (dd_mem (m :: ms) [] m).mpr (.inr List.mem_cons_self)
    rw [e] at this
    cases this
theorem stepL_take {ms found : List (List Nat)} {x m : List Nat} {j : Nat} (h : ms[j]? = some m) : MP.stepL (ms.take (j + 1)) x found = MP.addL (MP.stepL (ms.take j) x found) (MP.comp x m) := by
  unfold MP.stepL
  rw [List.take_add_one, h, List.foldl_append]
  rfl
theorem stepL_le {x : List Nat} : ∀ (ms found : List (List Nat)), (MP.stepL ms x found).length ≤ found.length + ms.length
  | [], found => Nat.le_refl _
  | m :: ms, found => by
    show (MP.stepL ms x (MP.addL found (MP.comp x m))).length ≤ _
    refine Nat.le_trans (stepL_le ms _) ?_
    unfold MP.addL
    split
    · simp only [List.length_cons]; omega
    · simp only [List.length_append, List.length_cons, List.length_nil]; omega
theorem mapT_get {L : List (List Nat)} {i : Nat} {x : List Nat} (h : L[i]? = some x) : atI (L.map tupN) (i : Nat) = some (tupN x) := atI_natD (by rw [List.getElem?_map, h]; rfl)
/-- the table of a lot of transformations, or nothing -/
def fmD (ms : List (List Nat)) (most : Nat) : D := match MP.fmL ms most (most + 2) (dd [] ms) 0 with
  | some L => tblD L.length (MP.idxT L)
  | none => .non
def R_law_from_moves : List D → D → Prop
  | [mv, mo], d => ∃ (ms : List (List Nat)) (p most : Nat), mv = .lst (ms.map tupN) ∧ mo = .int (most : Nat) ∧ (∀ m ∈ ms, MP.Mv p m) ∧ ms ≠ [] ∧ ms.length ≤ 10 ∧ p ≤ 10 ∧ most ≤ 100 ∧ d = fmD ms most
  | _, _ => False
theorem ok_law_from_moves (T : Tx K mg) : FnOk P w K mg base CX0 2 T.f_law_from_moves T.d_law_from_moves p_law_from_moves (spD K R_law_from_moves) := by
  refine T.F_law_from_moves.ok sc_law_from_moves (fun vs H Q E h => ?_) (fun cdv A outer s H vs Q E hr h => ?_)
  · obtain ⟨G, ds, d, e, hd, hR, q⟩ := h
    rw [hd.length]
    match ds, hR with
    | [_, _], _ => rfl
  · refine ⟨_, (pss_cons (ps_asg (pe_tup (pa_cons (pe_callTy (call_listDic rfl) (by rfl) T.m_list (by decide +kernel) (pa_cons (pe_callTy (call_dictPTK K rfl (hu65 hr)) (by rfl) T.m_dict (by decide +kernel) (pa_cons (pe_lc (own := [("move", 4)]) rfl sc_law_from_moves.nd (pi_listK K (pv 0)) (blkOk_by (by rfl)) (fun _ _ _ _ _ => pg_name (i := 4) sc_law_from_moves.nd rfl (by first | exact .inl rfl | exact .inr rfl)) (fun _ _ _ _ _ => pts_nil) (fun _ _ _ _ _ => (pe_tup (pa_cons (pv 4) (pa_cons pe_bl pa_nil))))) pa_nil)) pa_nil)) (pa_cons pe_int pa_nil))) (pg_tupK K rfl (pgs_cons (pg_name (i := 2) sc_law_from_moves.nd rfl (.inr rfl)) (pgs_cons (pg_name (i := 3) sc_law_from_moves.nd rfl (.inl rfl)) pgs_nil))))
      (pss_cons (ps_while PassesOwn.never (pt_cmpR op_lt (pv 3) (pe_callB (call_lenK K) (by rfl) T.m_len (by decide +kernel) (pa_cons (pv 2) pa_nil)) (nomark _)) (pss_cons (ps_for PassesOwn.never rfl (pi_listK K (pv 0)) (pg_name (i := 4) sc_law_from_moves.nd rfl (.inl rfl))
      (pss_cons (ps_set (i := 5) sc_law_from_moves.nd rfl (.inl rfl) (pe_call (ok_law_followed T) (hr.mono (by omega)) (by rfl) T.g_law_followed T.F_law_followed.kp T.b_law_followed .nil pass0 (pa_cons (pe_ix (ix_listK K) (pv 2) (pv 3) (fun _ _ => rfl)) (pa_cons (pv 4) pa_nil))))
      (pss_one (ps_if (pt_cmpR (op_notInDK K (hu65 hr)) (pv 5) (pv 2) (by with_unfolding_all rfl)) (pss_one (ps_expr (pe_bmK K PySem.F.plainAttrs_list PySem.F.slot_list_append PySem.F.type_list_append mt_append (pv 2) (pa_cons (pv 5) pa_nil)))) pss_nil))))
      (pss_cons (ps_if (pt_cmpR op_gt (pe_callB (call_lenK K) (by rfl) T.m_len (by decide +kernel) (pa_cons (pv 2) pa_nil)) (pv 1) (nomark _)) (pss_one (ps_ret pe_non)) pss_nil)
      (pss_one (ps_set (i := 3) sc_law_from_moves.nd rfl (.inl rfl) (pe_op op_add (pv 3) pe_int))))))
      (pss_one (ps_ret (pe_tupleOfK K (by rfl) T.m_tuple (pe_lc (own := [("one", 7)]) rfl sc_law_from_moves.nd (pi_listK K (pv 2)) (blkOk_by (by rfl)) (fun _ _ _ _ _ => pg_name (i := 7) sc_law_from_moves.nd rfl (by first | exact .inl rfl | exact .inr rfl)) (fun _ _ _ _ _ => pts_nil) (fun _ _ _ _ _ => (pe_tupleOfK K (by rfl) T.m_tuple (pe_lc (own := [("other", 6)]) rfl sc_law_from_moves.nd (pi_listK K (pv 2)) (blkOk_by (by rfl)) (fun _ _ _ _ _ => pg_name (i := 6) sc_law_from_moves.nd rfl (by first | exact .inl rfl | exact .inr rfl)) (fun _ _ _ _ _ => pts_nil) (fun _ _ _ _ _ => (pe_bmK K PySem.F.plainAttrs_list PySem.F.slot_list_index PySem.F.type_list_index (mt_indexDK K (hu65 hr)) (pv 2) (pa_cons (pe_call (ok_law_followed T) (hr.mono (by omega)) (by rfl) T.g_law_followed T.F_law_followed.kp T.b_law_followed .nil pass0 (pa_cons (pv 7) (pa_cons (pv 6) pa_nil))) pa_nil)))))))))))), ?_⟩
    obtain ⟨G, ds, d, e, hd, hR, q⟩ := h
    have hl : ∃ x0 x1, ds = [x0, x1] := by
      match ds, hR with
      | [x0, x1], _ => exact ⟨x0, x1, rfl⟩
    obtain ⟨x0, x1, rfl⟩ := hl
    cases hd with
    | @cons v0 vs0 _ _ dv0 hd =>
    cases hd with
    | @cons v1 vs1 _ _ dv1 hd =>
    cases hd
    refine EX.fin (W := fun _ _ _ _ => False) (good_start e ((.cons dv0 (.cons dv1 .nil))) n_law_from_moves) q ?_
    show EX K ⟨G, H, none⟩ _ _ [Sl.val v0 x0, Sl.val v1 x1, Sl.un, Sl.un, Sl.un, Sl.un, Sl.un, Sl.un] _
    obtain ⟨ms, p, most, rfl, rfl, hm, hne, hl, hp, hmo, rfl⟩ := hR
    have hlc0 := ev_lcS (K := K) (β := ⟨G, H, none⟩) (wi := iList K (tVar 0)) (env := [Sl.val v0 (.lst (ms.map tupN)), Sl.val v1 (.int most), Sl.un, Sl.un, Sl.un, Sl.un, Sl.un, Sl.un]) (ds := ms.map tupN) (F := fun d => .tup [d, .bl true]) (te := tTup (tCons (tVar 4) (tCons (tC (V.bl true)) tNil))) (vs := [4]) (j := 4) (ei_list (ev_var rfl)) (by rw [List.length_map, sizeLine_eq]; omega) (by decide)
      (fun d v hd => ev_tup (ea_cons (ev_var rfl) (ea_cons ev_bl ea_nil)) (sz 2))
    rw [List.map_map, show ((fun d => D.tup [d, .bl true]) ∘ tupN) = pairT from rfl] at hlc0
    refine ex_asgDic (d2 := .int ((0 : Nat) : Int)) hlc0 ev_int fun r va => ?_
    refine ex_whileS (tt := fun e => decide (slotInt e 3 < slotLen e 2)) (fun e => ∃ k found at' va s4 s5, e = [Sl.val v0 (.lst (ms.map tupN)), Sl.val v1 (.int most), Sl.own r (found.map tupN), Sl.val va (.int (at' : Nat)), s4, s5, Sl.un, Sl.un] ∧
      MP.fmL ms most k found at' = MP.fmL ms most (most + 2) (dd [] ms) 0 ∧ MP.Inv p ms found at' ∧ (at' = 0 ∨ found.length ≤ most) ∧ at' + k = most + 2 ∧ found ≠ [] ∧ at' ≤ found.length ∧ found.length ≤ 110) (fun e => most + 3 - (slotInt e 3).toNat) ?_ ?_ ?_ ?_
    · exact ⟨most + 2, dd [] ms, 0, va, _, _, rfl, rfl, inv0 hm, .inl rfl, by omega, dd_ne hne, Nat.zero_le _, by have := dd_len ms []; simp only [List.length_nil] at this; omega⟩
    · rintro env' ⟨k, found, at', va, s4, s5, rfl, -, -, -, -, -, -, -⟩
      refine et_test (ev_is (ev_op (ev_var rfl) (ev_lenOwn rfl) op_ltI) ?_)
      rfl
    · rintro env' ⟨k, found, at', va, s4, s5, rfl, hf, hI, h0, hk, hne', hle, h110⟩ ht
      have hlt : at' < found.length := by
        have := of_decide_eq_true ht
        have e1 : slotLen [Sl.val v0 (.lst (ms.map tupN)), Sl.val v1 (.int most), Sl.own r (found.map tupN), Sl.val va (.int (at' : Nat)), s4, s5, Sl.un, Sl.un] 2 = found.length := by show (found.map tupN).length = _; rw [List.length_map]
        rw [e1] at this
        have e2 : slotInt [Sl.val v0 (.lst (ms.map tupN)), Sl.val v1 (.int most), Sl.own r (found.map tupN), Sl.val va (.int (at' : Nat)), s4, s5, Sl.un, Sl.un] 3 = (at' : Nat) := rfl
        rw [e2] at this
        omega
      have hx : found[at']? = some found[at'] := List.getElem?_eq_getElem hlt
      generalize found[at'] = x at hx
      obtain ⟨k, rfl⟩ : ∃ k', k = k' + 1 := ⟨k - 1, by rcases h0 with rfl | h0 <;> omega⟩
      have hxm := hI.gen x (List.mem_of_getElem? hx)
      have hxv := hxm.mv hm
      refine ex_forNS (fun j e => ∃ s4 s5, e = [Sl.val v0 (.lst (ms.map tupN)), Sl.val v1 (.int most), Sl.own r ((MP.stepL (ms.take j) x found).map tupN), Sl.val va (.int (at' : Nat)), s4, s5, Sl.un, Sl.un]) (ei_list (ev_var rfl)) ⟨s4, s5, rfl⟩ ?_ ?_
      · rintro j env' vm dm hdm ⟨s4, s5, rfl⟩
        rw [List.getElem?_map] at hdm
        cases hmj : ms[j]? with
        | none => rw [hmj] at hdm; cases hdm
        | some m =>
        rw [hmj] at hdm
        cases hdm
        have hmv := hm m (List.mem_of_getElem? hmj)
        obtain ⟨tl, htl⟩ := MP.stepL_pre (x := x) (ms.take j) found
        have hxs : (MP.stepL (ms.take j) x found)[at']? = some x := by rw [htl, List.getElem?_append_left hlt]; exact hx
        refine ex_let (d := tupN (MP.comp x m)) (ev_call (ea_cons (ev_ixOwn rfl (ev_var rfl) (mapT_get hxs)) (ea_cons (ev_var rfl) ea_nil)) ⟨x, m, rfl, rfl, fun i hi => by rw [hmv.1]; exact hxv.2 i hi, by rw [hxv.1]; omega, rfl⟩) fun vc => ?_
        have hsl := stepL_le (x := x) (ms.take j) found
        rw [List.length_take] at hsl
        refine ex_if (et_test (ev_notInOwn rfl (ev_var rfl))) (fun h => ?_) fun h => ?_
        · have hni : MP.comp x m ∉ MP.stepL (ms.take j) x found := fun z => by rw [decide_eq_true z] at h; cases h
          refine ex_app rfl (ev_var rfl) (by rw [List.length_map, sizeLine_eq]; omega) ⟨Sl.val vm (tupN m), Sl.val vc (tupN (MP.comp x m)), ?_⟩
          rw [stepL_take hmj]
          unfold MP.addL
          rw [if_neg hni, List.map_append]
          rfl
        · have hin : MP.comp x m ∈ MP.stepL (ms.take j) x found := by
            by_cases z : MP.comp x m ∈ MP.stepL (ms.take j) x found
            · exact z
            · rw [decide_eq_false z] at h; cases h
          refine ex_next ⟨Sl.val vm (tupN m), Sl.val vc (tupN (MP.comp x m)), ?_⟩
          rw [stepL_take hmj]
          unfold MP.addL
          rw [if_pos hin]
          rfl
      · rintro env' ⟨s4, s5, rfl⟩
        rw [List.length_map, List.take_length]
        have hsl := stepL_le (x := x) ms found
        have hf' : MP.fmL ms most (k + 1) found at' = if most < (MP.stepL ms x found).length then none else MP.fmL ms most k (MP.stepL ms x found) (at' + 1) := by
          show (match found[at']? with | some x => _ | none => _) = _
          rw [hx]
        refine ex_when (et_test (ev_op (ev_lenOwn rfl) (ev_var rfl) op_gtI)) (fun h => ?_) fun h => ?_
        · refine ex_ret ev_non fun v => ?_
          have := of_decide_eq_true h
          rw [List.length_map] at this
          show D.non = fmD ms most
          unfold fmD
          rw [← hf, hf', if_pos (by omega)]
        · have := of_decide_eq_false h
          rw [List.length_map] at this
          refine ex_asg (d := .int ((at' + 1 : Nat) : Int)) (ev_op (ev_var rfl) ev_int op_addI) fun v => ⟨⟨k, MP.stepL ms x found, at' + 1, v, _, _, rfl, ?_, hI.next hx, .inr (by omega), by omega, ?_, ?_, by omega⟩, ?_⟩
          · rw [← hf, hf', if_neg (by omega)]
          · obtain ⟨tl, htl⟩ := MP.stepL_pre (x := x) ms found
            rw [htl]
            intro e
            exact hne' (List.append_eq_nil_iff.mp e).1
          · obtain ⟨tl, htl⟩ := MP.stepL_pre (x := x) ms found
            rw [htl, List.length_append]
            omega
          · show most + 3 - ((at' + 1 : Nat) : Int).toNat < most + 3 - ((at' : Nat) : Int).toNat
            have : at' ≤ most := by rcases h0 with rfl | h0 <;> omega
            omega
    · rintro env' ⟨k, L, at', va, s4, s5, rfl, hf, hI, h0, hk, hne', hle, h110⟩ ht
      have hge : L.length ≤ at' := by
        have := of_decide_eq_false ht
        have e1 : slotLen [Sl.val v0 (.lst (ms.map tupN)), Sl.val v1 (.int most), Sl.own r (L.map tupN), Sl.val va (.int (at' : Nat)), s4, s5, Sl.un, Sl.un] 2 = L.length := by show (L.map tupN).length = _; rw [List.length_map]
        rw [e1] at this
        have e2 : slotInt [Sl.val v0 (.lst (ms.map tupN)), Sl.val v1 (.int most), Sl.own r (L.map tupN), Sl.val va (.int (at' : Nat)), s4, s5, Sl.un, Sl.un] 3 = (at' : Nat) := rfl
        rw [e2] at this
        omega
      have hlp : 0 < L.length := List.length_pos_iff.mpr hne'
      obtain ⟨k, rfl⟩ : ∃ k', k = k' + 1 := ⟨k - 1, by rcases h0 with rfl | h0 <;> omega⟩
      have hf' : MP.fmL ms most (k + 1) L at' = some L := by
        show (match L[at']? with | some x => _ | none => _) = _
        rw [List.getElem?_eq_none hge]
      have hfd : fmD ms most = tblD L.length (MP.idxT L) := by
        unfold fmD
        rw [← hf, hf']
      rw [hfd]
      refine ex_commit (i := 2) rfl (fun z => nomatch z) ?_
      have hcl : ∀ x ∈ L, ∀ y ∈ L, MP.comp x y ∈ L := fun x hx y hy => hI.closed hge hx hy
      have hmvL : ∀ x ∈ L, MP.Mv p x := fun x hx => (hI.gen x hx).mv hm
      have hlen : (L.map tupN).length = L.length := List.length_map ..
      have h2 := ev_lcA (K := K) (β := ⟨G, H, none⟩) (wi := iList K (tVar 2)) (env := [Sl.val v0 (.lst (ms.map tupN)), Sl.val v1 (.int most), Sl.val (.ref r) (.lst (L.map tupN)), Sl.val va (.int (at' : Nat)), s4, s5, Sl.un, Sl.un]) (ds := L.map tupN) (F := fun a => rowD L.length (MP.idxT L a))
        (te := tThen (tLc (iList K (tVar 2)) (gName 6) tYes (tBM K "list" (rIndexD K) (tVar 2) (tCons (tCall (spD K R_law_followed) [] E0 (tCons (tVar 7) (tCons (tVar 6) tNil))) tNil)) [6]) (kTup K)) (vs := [7]) (j := 7) (ei_list (ev_var rfl)) (by rw [hlen, sizeLine_eq]; omega) (by decide)
        (fun a v d hd => by
          rw [List.getElem?_map] at hd
          cases ha : L[a]? with
          | none => rw [ha] at hd; cases hd
          | some x =>
          rw [ha] at hd
          cases hd
          have hal : a < L.length := (List.getElem?_eq_some_iff.mp ha).1
          have hxm : x ∈ L := List.mem_of_getElem? ha
          have h1 := ev_lcA (K := K) (β := ⟨G, H, none⟩) (wi := iList K (tVar 2)) (env := [Sl.val v0 (.lst (ms.map tupN)), Sl.val v1 (.int most), Sl.val (.ref r) (.lst (L.map tupN)), Sl.val va (.int (at' : Nat)), s4, s5, Sl.un, Sl.val v (tupN x)]) (ds := L.map tupN) (F := fun b => .int (MP.idxT L a b : Nat))
            (te := tBM K "list" (rIndexD K) (tVar 2) (tCons (tCall (spD K R_law_followed) [] E0 (tCons (tVar 7) (tCons (tVar 6) tNil))) tNil)) (vs := [6]) (j := 6) (ei_list (ev_var rfl)) (by rw [hlen, sizeLine_eq]; omega) (by decide)
            (fun b v d hd => by
              rw [List.getElem?_map] at hd
              cases hb : L[b]? with
              | none => rw [hb] at hd; cases hd
              | some y =>
              rw [hb] at hd
              cases hd
              have hym : y ∈ L := List.mem_of_getElem? hb
              have hxy := hcl x hxm y hym
              have e : MP.idxT L a b = L.idxOf (MP.comp x y) := by
                unfold MP.idxT
                rw [List.getD_eq_getElem?_getD, ha, List.getD_eq_getElem?_getD, hb]
                rfl
              rw [e]
              have hil := List.idxOf_lt_length_iff.mpr hxy
              exact ev_indexTN (L := L) (p := MP.comp x y) (ev_var rfl) (ev_call (ea_cons (ev_var rfl) (ea_cons (ev_var rfl) ea_nil)) ⟨x, y, rfl, rfl, fun i hi => by rw [(hmvL y hym).1]; exact (hmvL x hxm).2 i hi, by rw [(hmvL x hxm).1]; omega, rfl⟩)
                (by rw [List.getElem?_eq_getElem hil, List.getElem_idxOf hil]) (idxOf_first L _))
          rw [hlen] at h1
          exact ev_then h1 un_tupL)
      rw [hlen] at h2
      exact ex_ret (ev_then h2 un_tupL) fun v => rfl

end
end Kx


set_option Elab.async false
set_option linter.all false
set_option maxRecDepth 100000
set_option maxHeartbeats 2000000
namespace Kx
open PySem PySem.Spec PyProof.Rows L2 DL
section
variable {P : Program} {w : World} {K : PySem.W.Frag} {mg : Str → Option Value} {base : Heap}
theorem idxOf_firstN : ∀ (L : List Nat) (a : Nat) (m : Nat), m < L.idxOf a → L[m]? ≠ some a
  | [], a, m, h => by simp at h
  | b :: L, a, m, h => by
    by_cases e : b = a
    · subst e; rw [List.idxOf_cons_self] at h; exact absurd h (Nat.not_lt_zero _)
    · rw [List.idxOf_cons, show (b == a) = false from beq_eq_false_iff_ne.mpr e] at h
      have h : m < L.idxOf a + 1 := h
      cases m with
      | zero => intro z; exact e (Option.some.inj z)
      | succ m => exact idxOf_firstN L a m (Nat.lt_of_succ_lt_succ h)
/-- a draw, and a number more -/
theorem xe_take {K : PySem.W.Frag} {β : Bas} {env : Env'} {n m : Nat} {b : Addr} {bs : List D} {tm : TE} {E : XK} (hi : env[0]? = some (.own b bs)) (hB : BoxD n bs) (hn : n < 1000000000) (hm : EV K β tm env (.int (m : Nat))) (h1 : 1 ≤ m) (h2 : m < 1073741824) :
    XE K β (tCall (spB K 1 R_law_take) [] E (tCons (tVar 0) (tCons tm tNil))) env (fun _ d e => ∃ t : Nat, t < m ∧ d = .int (t : Nat) ∧ ∃ bs', BoxD (n + 1) bs' ∧ e = env.set 0 (.own b bs')) :=
  (xe_callB hi hB (by omega) (ea_cons hm ea_nil) (take_ok h1 h2)).imp fun v d e ⟨⟨t, ht, hd⟩, h⟩ => ⟨t, ht, hd, h⟩
theorem xe_cTake {K : PySem.W.Frag} {β : Bas} {env : Env'} {n m c : Nat} {b : Addr} {bs : List D} {tm : TE} {E : XK} (hi : env[0]? = some (.own b bs)) (hB : BoxD n bs) (hn : n < 1000000000) (hm : EV K β tm env (.int (m : Nat))) (h1 : 1 ≤ m) (h2 : m < 1073741824) :
    XE K β (tOp (rI0 fun i j => .int (i + j)) (tC (.int (c : Nat))) (tCall (spB K 1 R_law_take) [] E (tCons (tVar 0) (tCons tm tNil)))) env (fun _ d e => ∃ t : Nat, t < m ∧ d = .int ((c + t : Nat) : Int) ∧ ∃ bs', BoxD (n + 1) bs' ∧ e = env.set 0 (.own b bs')) :=
  xe_op (P2 := fun _ v d e => ∃ t : Nat, t < m ∧ d = .int (t : Nat) ∧ ∃ bs', BoxD (n + 1) bs' ∧ e = env.set 0 (.own b bs')) (ev_int (i := (c : Nat))).xe (fun v1 d1 e1 h => by obtain ⟨_, rfl⟩ := h; exact xe_take hi hB hn hm h1 h2) fun v1 d1 e1 v2 d2 e2 p1 p2 => by
    obtain ⟨rfl, _⟩ := p1
    obtain ⟨t, ht, rfl, h⟩ := p2
    exact ⟨_, op_addI, fun v => ⟨t, ht, by rw [show ((c + t : Nat) : Int) = (c : Int) + (t : Int) by omega], h⟩⟩
def R_law_relabelled : List D → D → Prop
  | [t, nm], d => ∃ (n : Nat) (f : Nat → Nat → Nat) (ns : List Nat), t = tblD n f ∧ TabOk n f ∧ nm = .lst (lstN ns) ∧ ns.Perm (List.range n) ∧ d = tblD n (MP.relF f ns)
  | _, _ => False
theorem ok_law_relabelled (T : Tx K mg) : FnOk P w K mg base CX0 1 T.f_law_relabelled T.d_law_relabelled p_law_relabelled (spD K R_law_relabelled) := by
  refine T.F_law_relabelled.ok sc_law_relabelled (fun vs H Q E h => ?_) (fun cdv A outer s H vs Q E hr h => ?_)
  · obtain ⟨G, ds, d, e, hd, hR, q⟩ := h
    rw [hd.length]
    match ds, hR with
    | [_, _], _ => rfl
  · refine ⟨_, (pss_cons (ps_set (i := 2) sc_law_relabelled.nd rfl (.inr rfl) (pe_lc (own := [("k", 3)]) rfl sc_law_relabelled.nd (pi_range1 (by rfl) T.m_range (pa_cons (pe_callB (call_lenK K) (by rfl) T.m_len (by decide +kernel) (pa_cons (pv 1) pa_nil)) pa_nil)) (blkOk_by (by rfl)) (fun _ _ _ _ _ => pg_name (i := 3) sc_law_relabelled.nd rfl (by first | exact .inl rfl | exact .inr rfl)) (fun _ _ _ _ _ => pts_nil) (fun _ _ _ _ _ => (pe_bmK K PySem.F.plainAttrs_list PySem.F.slot_list_index PySem.F.type_list_index (mt_indexK K) (pv 1) (pa_cons (pv 3) pa_nil)))))
      (pss_one (ps_ret (pe_tupleOfK K (by rfl) T.m_tuple (pe_lc (own := [("x", 5)]) rfl sc_law_relabelled.nd (pi_range1 (by rfl) T.m_range (pa_cons (pe_callB (call_lenK K) (by rfl) T.m_len (by decide +kernel) (pa_cons (pv 0) pa_nil)) pa_nil)) (blkOk_by (by rfl)) (fun _ _ _ _ _ => pg_name (i := 5) sc_law_relabelled.nd rfl (by first | exact .inl rfl | exact .inr rfl)) (fun _ _ _ _ _ => pts_nil) (fun _ _ _ _ _ => (pe_tupleOfK K (by rfl) T.m_tuple (pe_lc (own := [("y", 4)]) rfl sc_law_relabelled.nd (pi_range1 (by rfl) T.m_range (pa_cons (pe_callB (call_lenK K) (by rfl) T.m_len (by decide +kernel) (pa_cons (pv 0) pa_nil)) pa_nil)) (blkOk_by (by rfl)) (fun _ _ _ _ _ => pg_name (i := 4) sc_law_relabelled.nd rfl (by first | exact .inl rfl | exact .inr rfl)) (fun _ _ _ _ _ => pts_nil) (fun _ _ _ _ _ => (pe_ix (ix_seqK K) (pv 1) (pe_ix (ix_seqK K) (pe_ix (ix_seqK K) (pv 0) (pe_ix (ix_seqK K) (pv 2) (pv 5) (fun _ _ => rfl)) (fun _ _ => rfl)) (pe_ix (ix_seqK K) (pv 2) (pv 4) (fun _ _ => rfl)) (fun _ _ => rfl)) (fun _ _ => rfl))))))))))), ?_⟩
    obtain ⟨G, ds, d, e, hd, hR, q⟩ := h
    have hl : ∃ x0 x1, ds = [x0, x1] := by
      match ds, hR with
      | [x0, x1], _ => exact ⟨x0, x1, rfl⟩
    obtain ⟨x0, x1, rfl⟩ := hl
    cases hd with
    | @cons v0 vs0 _ _ dv0 hd =>
    cases hd with
    | @cons v1 vs1 _ _ dv1 hd =>
    cases hd
    refine EX.fin (W := fun _ _ _ _ => False) (good_start e ((.cons dv0 (.cons dv1 .nil))) n_law_relabelled) q ?_
    show EX K ⟨G, H, none⟩ _ _ [Sl.val v0 x0, Sl.val v1 x1, Sl.un, Sl.un, Sl.un, Sl.un] _
    obtain ⟨n, f, ns, rfl, hf, rfl, hp, rfl⟩ := hR
    obtain ⟨h1, h2, h3, h4⟩ := MP.perm_facts hp
    have hn := hf.n10
    refine ex_let (ev_lcR (n := n) (F := fun k => .int (ns.idxOf k : Nat)) (ev_is (ev_cb (ea_cons (ev_var rfl) ea_nil) cb_lenL) (by rw [lstN_len, h1])) (by omega) (by decide) fun k vk hk => ?_) fun vb => ?_
    · have hil := List.idxOf_lt_length_iff.mpr (h2 k hk)
      exact ev_indexN (ms := ns) (p := k) (ev_var rfl) (ev_var rfl) (by rw [List.getElem?_eq_getElem hil, List.getElem_idxOf hil]) (idxOf_firstN ns k)
    refine ex_ret (ev_tab (f := MP.relF f ns) (by omega) (ev_cb (ea_cons (ev_var rfl) ea_nil) cb_lenTbl) (by decide) (by decide) (fun x v hx => ev_cb (ea_cons (ev_var rfl) ea_nil) cb_lenTbl) fun x y vx vy hx hy => ?_) fun v => rfl
    have ix := MP.idx_lt hp hx
    have iy := MP.idx_lt hp hy
    have hl := hf.cl _ _ ix iy
    refine ev_op (ev_var rfl) (ev_row (ev_tbl (ev_var rfl) (ev_op (ev_var rfl) (ev_var rfl) (op_ixR (f := fun k => ns.idxOf k) hx)) ix) (ev_op (ev_var rfl) (ev_var rfl) (op_ixR (f := fun k => ns.idxOf k) hy)) iy) (op_ixN ?_)
    show ns[f (ns.idxOf x) (ns.idxOf y)]? = some (ns.getD (f (ns.idxOf x) (ns.idxOf y)) 0)
    rw [List.getD_eq_getElem?_getD, List.getElem?_eq_getElem (by rw [h1]; exact hl)]
    rfl

end
end Kx


set_option Elab.async false
set_option linter.all false
set_option maxRecDepth 100000
set_option maxHeartbeats 2000000
namespace Kx
open PySem PySem.Spec PyProof.Rows L2 DL
section
variable {P : Program} {w : World} {K : PySem.W.Frag} {mg : Str → Option Value} {base : Heap}
def R_law_plain : List D → (D → Prop) → Prop
  | [mo], Pd => ∃ most : Nat, mo = .int (most : Nat) ∧ 1 ≤ most ∧ most ≤ 10 ∧ ∀ n f, SgOk n f → n ≤ most → Pd (tblD n f)
  | _, _ => False
theorem int_mod (a m : Nat) : ((a : Int) % (m : Int)) = ((a % m : Nat) : Int) := rfl
theorem int_div (a m : Nat) : ((a : Int) / (m : Int)) = ((a / m : Nat) : Int) := rfl
theorem int_mul (a m : Nat) : ((a : Int) * (m : Int)) = ((a * m : Nat) : Int) := rfl
theorem int_add (a m : Nat) : ((a : Int) + (m : Int)) = ((a + m : Nat) : Int) := rfl
theorem rep_row (x m : Nat) : D.tup (List.replicate ((m : Nat) : Int).toNat [D.int (x : Nat)]).flatten = rowD m (fun _ => x) := by
  rw [Int.toNat_natCast, rep_map]
  rfl
theorem rg_row (m : Nat) : D.tup (rgD 0 ((m : Nat) : Int).toNat) = rowD m (fun y => y) := by
  rw [Int.toNat_natCast, rgD_nat]
  rfl
theorem ok_law_plain (T : Tx K mg) : FnOk P w K mg base CX0 2 T.f_law_plain T.d_law_plain p_law_plain (spB K 5 R_law_plain) := by
  refine T.F_law_plain.ok sc_law_plain (fun vs H Q E h => ?_) (fun cdv A outer s H vs Q E hr h => ?_)
  · obtain ⟨G, b, n, xs, bs, ws, ds, Pd, rfl, hG, hH, hx, hbx, hn, e, hd, hR, q⟩ := h
    rw [List.length_cons, hd.length]
    match ds, hR with
    | [_], _ => rfl
  · refine ⟨_, (pss_cons (ps_set (i := 2) sc_law_plain.nd rfl (.inr rfl) (pe_op op_add pe_int (pe_call (ok_law_take T) (hr.mono (by omega)) (by rfl) T.g_law_take T.F_law_take.kp T.b_law_take .nil pass0 (pa_cons (pv 0) (pa_cons (pv 1) pa_nil)))))
      (pss_cons (ps_set (i := 3) sc_law_plain.nd rfl (.inl rfl) (pe_call (ok_law_take T) (hr.mono (by omega)) (by rfl) T.g_law_take T.F_law_take.kp T.b_law_take .nil pass0 (pa_cons (pv 0) (pa_cons pe_int pa_nil))))
      (pss_cons (ps_if (pt_cmpR op_eq (pv 3) pe_int (nomark _)) (pss_one (ps_ret (pe_tupleOfK K (by rfl) T.m_tuple (pe_lc (own := [("x", 9)]) rfl sc_law_plain.nd (pi_range1 (by rfl) T.m_range (pa_cons (pv 2) pa_nil)) (blkOk_by (by rfl)) (fun _ _ _ _ _ => pg_name (i := 9) sc_law_plain.nd rfl (by first | exact .inl rfl | exact .inr rfl)) (fun _ _ _ _ _ => pts_nil) (fun _ _ _ _ _ => (pe_tupleOfK K (by rfl) T.m_tuple (pe_op op_rep (pe_lst (pa_cons (pv 9) pa_nil)) (pv 2)))))))) pss_nil)
      (pss_cons (ps_if (pt_cmpR op_eq (pv 3) pe_int (nomark _)) (pss_one (ps_ret (pe_tupleOfK K (by rfl) T.m_tuple (pe_lc (own := [("x", 9)]) rfl sc_law_plain.nd (pi_range1 (by rfl) T.m_range (pa_cons (pv 2) pa_nil)) (blkOk_by (by rfl)) (fun _ _ _ _ _ => pg_name (i := 9) sc_law_plain.nd rfl (by first | exact .inl rfl | exact .inr rfl)) (fun _ _ _ _ _ => pts_nil) (fun _ _ _ _ _ => (pe_tupRg rfl (by rfl) T.m_tuple (prg_1 (by rfl) T.m_range (pv 2)))))))) pss_nil)
      (pss_cons (ps_if (pt_cmpR op_eq (pv 3) pe_int (nomark _)) (pss_one (ps_ret (pe_tupleOfK K (by rfl) T.m_tuple (pe_lc (own := [("x", 9)]) rfl sc_law_plain.nd (pi_range1 (by rfl) T.m_range (pa_cons (pv 2) pa_nil)) (blkOk_by (by rfl)) (fun _ _ _ _ _ => pg_name (i := 9) sc_law_plain.nd rfl (by first | exact .inl rfl | exact .inr rfl)) (fun _ _ _ _ _ => pts_nil) (fun _ _ _ _ _ => (pe_tupleOfK K (by rfl) T.m_tuple (pe_op op_rep (pe_lst (pa_cons pe_int pa_nil)) (pv 2)))))))) pss_nil)
      (pss_cons (ps_if (pt_cmpR op_eq (pv 3) pe_int (nomark _)) (pss_one (ps_ret (pe_tupleOfK K (by rfl) T.m_tuple (pe_lc (own := [("x", 9)]) rfl sc_law_plain.nd (pi_range1 (by rfl) T.m_range (pa_cons (pv 2) pa_nil)) (blkOk_by (by rfl)) (fun _ _ _ _ _ => pg_name (i := 9) sc_law_plain.nd rfl (by first | exact .inl rfl | exact .inr rfl)) (fun _ _ _ _ _ => pts_nil) (fun _ _ _ _ _ => (pe_tupleOfK K (by rfl) T.m_tuple (pe_lc (own := [("y", 10)]) rfl sc_law_plain.nd (pi_range1 (by rfl) T.m_range (pa_cons (pv 2) pa_nil)) (blkOk_by (by rfl)) (fun _ _ _ _ _ => pg_name (i := 10) sc_law_plain.nd rfl (by first | exact .inl rfl | exact .inr rfl)) (fun _ _ _ _ _ => pts_nil) (fun _ _ _ _ _ => (pe_callB (call_min2 rfl) (by rfl) T.m_min (by decide +kernel) (pa_cons (pv 9) (pa_cons (pv 10) pa_nil))))))))))) pss_nil)
      (pss_cons (ps_if (pt_cmpR op_eq (pv 3) pe_int (nomark _)) (pss_one (ps_ret (pe_tupleOfK K (by rfl) T.m_tuple (pe_lc (own := [("x", 9)]) rfl sc_law_plain.nd (pi_range1 (by rfl) T.m_range (pa_cons (pv 2) pa_nil)) (blkOk_by (by rfl)) (fun _ _ _ _ _ => pg_name (i := 9) sc_law_plain.nd rfl (by first | exact .inl rfl | exact .inr rfl)) (fun _ _ _ _ _ => pts_nil) (fun _ _ _ _ _ => (pe_tupleOfK K (by rfl) T.m_tuple (pe_lc (own := [("y", 10)]) rfl sc_law_plain.nd (pi_range1 (by rfl) T.m_range (pa_cons (pv 2) pa_nil)) (blkOk_by (by rfl)) (fun _ _ _ _ _ => pg_name (i := 10) sc_law_plain.nd rfl (by first | exact .inl rfl | exact .inr rfl)) (fun _ _ _ _ _ => pts_nil) (fun _ _ _ _ _ => (pe_op op_mod (pe_callTy call_int1 (by rfl) T.m_int (by decide +kernel) (pa_cons (pe_op op_add (pv 9) (pv 10)) pa_nil)) (pv 2)))))))))) pss_nil)
      (pss_cons (ps_if (pt_cmpR op_eq (pv 3) pe_int (nomark _)) (pss_cons (ps_set (i := 4) sc_law_plain.nd rfl (.inr rfl) (pe_op op_add pe_int (pe_call (ok_law_take T) (hr.mono (by omega)) (by rfl) T.g_law_take T.F_law_take.kp T.b_law_take .nil pass0 (pa_cons (pv 0) (pa_cons (pv 2) pa_nil)))))
      (pss_cons (ps_set (i := 5) sc_law_plain.nd rfl (.inr rfl) (pe_op op_sub (pe_op op_add (pv 2) pe_int) (pv 4)))
      (pss_cons (ps_set (i := 6) sc_law_plain.nd rfl (.inr rfl) (pe_lc (own := [("k", 11)]) rfl sc_law_plain.nd (pi_range1 (by rfl) T.m_range (pa_cons (pe_op op_add (pe_op op_mul pe_int (pv 2)) pe_int) pa_nil)) (blkOk_by (by rfl)) (fun _ _ _ _ _ => pg_name (i := 11) sc_law_plain.nd rfl (by first | exact .inl rfl | exact .inr rfl)) (fun _ _ _ _ _ => pts_nil) (fun _ _ _ _ _ => (pe_ifExp (pt_cmpR op_lt (pv 11) (pv 2) (nomark _)) (pv 11) (pe_op op_add (pe_op op_sub (pv 4) pe_int) (pe_op op_mod (pe_callTy call_int1 (by rfl) T.m_int (by decide +kernel) (pa_cons (pe_op op_add (pe_op op_sub (pv 11) (pv 4)) pe_int) pa_nil)) (pv 5)))))))
      (pss_one (ps_ret (pe_tupleOfK K (by rfl) T.m_tuple (pe_lc (own := [("x", 9)]) rfl sc_law_plain.nd (pi_range1 (by rfl) T.m_range (pa_cons (pv 2) pa_nil)) (blkOk_by (by rfl)) (fun _ _ _ _ _ => pg_name (i := 9) sc_law_plain.nd rfl (by first | exact .inl rfl | exact .inr rfl)) (fun _ _ _ _ _ => pts_nil) (fun _ _ _ _ _ => (pe_tupleOfK K (by rfl) T.m_tuple (pe_lc (own := [("y", 10)]) rfl sc_law_plain.nd (pi_range1 (by rfl) T.m_range (pa_cons (pv 2) pa_nil)) (blkOk_by (by rfl)) (fun _ _ _ _ _ => pg_name (i := 10) sc_law_plain.nd rfl (by first | exact .inl rfl | exact .inr rfl)) (fun _ _ _ _ _ => pts_nil) (fun _ _ _ _ _ => (pe_ix (ix_seqK K) (pv 6) (pe_op op_add (pe_op op_add (pv 9) (pv 10)) pe_int) (fun _ _ => rfl))))))))))))) pss_nil)
      (pss_cons (ps_set (i := 7) sc_law_plain.nd rfl (.inr rfl) (pe_op op_add pe_int (pe_call (ok_law_take T) (hr.mono (by omega)) (by rfl) T.g_law_take T.F_law_take.kp T.b_law_take .nil pass0 (pa_cons (pv 0) (pa_cons pe_int pa_nil)))))
      (pss_cons (ps_set (i := 8) sc_law_plain.nd rfl (.inr rfl) (pe_callB (call_max2 rfl) (by rfl) T.m_max (by decide +kernel) (pa_cons pe_int (pa_cons (pe_op op_fdiv (pv 1) (pv 7)) pa_nil))))
      (pss_cons (ps_set (i := 8) sc_law_plain.nd rfl (.inr rfl) (pe_op op_add pe_int (pe_call (ok_law_take T) (hr.mono (by omega)) (by rfl) T.g_law_take T.F_law_take.kp T.b_law_take .nil pass0 (pa_cons (pv 0) (pa_cons (pe_callB (call_min2 rfl) (by rfl) T.m_min (by decide +kernel) (pa_cons pe_int (pa_cons (pv 8) pa_nil))) pa_nil)))))
      (pss_cons (ps_if (pt_cmpR op_gt (pe_op op_mul (pv 7) (pv 8)) (pv 1) (nomark _)) (pss_one (ps_asg (pe_tup (pa_cons pe_int (pa_cons (pe_callB (call_min2 rfl) (by rfl) T.m_min (by decide +kernel) (pa_cons (pv 1) (pa_cons pe_int pa_nil))) pa_nil))) (pg_tupK K rfl (pgs_cons (pg_name (i := 7) sc_law_plain.nd rfl (.inr rfl)) (pgs_cons (pg_name (i := 8) sc_law_plain.nd rfl (.inr rfl)) pgs_nil))))) pss_nil)
      (pss_one (ps_ret (pe_tupleOfK K (by rfl) T.m_tuple (pe_lc (own := [("x", 9)]) rfl sc_law_plain.nd (pi_range1 (by rfl) T.m_range (pa_cons (pe_op op_mul (pv 7) (pv 8)) pa_nil)) (blkOk_by (by rfl)) (fun _ _ _ _ _ => pg_name (i := 9) sc_law_plain.nd rfl (by first | exact .inl rfl | exact .inr rfl)) (fun _ _ _ _ _ => pts_nil) (fun _ _ _ _ _ => (pe_tupleOfK K (by rfl) T.m_tuple (pe_lc (own := [("y", 10)]) rfl sc_law_plain.nd (pi_range1 (by rfl) T.m_range (pa_cons (pe_op op_mul (pv 7) (pv 8)) pa_nil)) (blkOk_by (by rfl)) (fun _ _ _ _ _ => pg_name (i := 10) sc_law_plain.nd rfl (by first | exact .inl rfl | exact .inr rfl)) (fun _ _ _ _ _ => pts_nil) (fun _ _ _ _ _ => (pe_op op_add (pe_op op_mul (pe_op op_fdiv (pv 9) (pv 8)) (pv 8)) (pe_op op_mod (pe_callTy call_int1 (by rfl) T.m_int (by decide +kernel) (pa_cons (pv 10) pa_nil)) (pv 8))))))))))))))))))))))), ?_⟩
    obtain ⟨G, b, n, xs, bs, ws, ds, Pd, rfl, hG, hH, hx, hbx, hn, e, hd, hR, q⟩ := h
    have hl : ∃ x1, ds = [x1] := by
      match ds, hR with
      | [x1], _ => exact ⟨x1, rfl⟩
    obtain ⟨x1, rfl⟩ := hl
    cases hd with
    | @cons v1 vs0 _ _ dv1 hd =>
    cases hd
    refine EX.finB (W := fun _ _ _ _ => False) (k := 5) (n := n) (env := [Sl.own b bs, Sl.val v1 x1, Sl.un, Sl.un, Sl.un, Sl.un, Sl.un, Sl.un, Sl.un, Sl.un, Sl.un, Sl.un]) rfl (good_box e hG hH hx ((.cons dv1 .nil)) n_law_plain) q ?_
    obtain ⟨most, rfl, h1, h10, hP⟩ := hR
    refine ex_letX (xe_cTake (c := 1) rfl hbx (by omega) (ev_var rfl) h1 (by omega)) fun v2 d env' h => ?_
    obtain ⟨t, ht, rfl, bs1, hB1, rfl⟩ := h
    obtain ⟨m, hm1, hmm, hme⟩ : ∃ m, 1 ≤ m ∧ m ≤ most ∧ 1 + t = m := ⟨1 + t, by omega, by omega, rfl⟩
    rw [hme]
    clear hme ht
    refine ex_letX (xe_take (m := 7) rfl hB1 (by omega) (ev_int (i := 7)) (by decide) (by decide)) fun v3 d env' h => ?_
    obtain ⟨wy, hwy, rfl, bs2, hB2, rfl⟩ := h
    have fin : ∀ {f}, MP.Semi m f → Pd (tblD m f) := fun h => hP m _ (SgOk.of h hm1 (by omega)) hmm
    have hmi : EV K ⟨G, H, some b⟩ (tVar 2) [Sl.own b bs2, Sl.val v1 (.int most), Sl.val v2 (.int (m : Nat)), Sl.val v3 (.int (wy : Nat)), Sl.un, Sl.un, Sl.un, Sl.un, Sl.un, Sl.un, Sl.un, Sl.un] (.int (m : Nat)) := ev_var rfl
    refine ex_when (et_test (ev_op (ev_var rfl) ev_int op_eqI)) (fun _ => ?_) fun h0 => ?_
    · exact ex_ret (ev_rows (f := fun x _ => x) (by omega) hmi (by decide) fun x v hx => ev_is (ev_then (ev_op (ev_lst (ea_cons (ev_var rfl) ea_nil) (sz 1)) (ev_var rfl) (op_repLD (by omega) (by omega) (by rw [sizeLine_eq]; simp; omega))) un_tupL) (rep_row x m)) fun v => ⟨fin (MP.semi_left m), bs2, hB2.mono (by omega), rfl⟩
    refine ex_when (et_test (ev_op (ev_var rfl) ev_int op_eqI)) (fun _ => ?_) fun h1' => ?_
    · exact ex_ret (ev_rows (f := fun _ y => y) (by omega) hmi (by decide) fun x v hx => ev_is (ev_tupRg1 (ev_var rfl) (by omega) (by omega)) (rg_row m)) fun v => ⟨fin (MP.semi_right m), bs2, hB2.mono (by omega), rfl⟩
    refine ex_when (et_test (ev_op (ev_var rfl) ev_int op_eqI)) (fun _ => ?_) fun h2' => ?_
    · exact ex_ret (ev_rows (f := fun _ _ => 0) (by omega) hmi (by decide) fun x v hx => ev_is (ev_then (ev_op (ev_lst (ea_cons ev_int ea_nil) (sz 1)) (ev_var rfl) (op_repLD (by omega) (by omega) (by rw [sizeLine_eq]; simp; omega))) un_tupL) (rep_row 0 m)) fun v => ⟨fin (MP.semi_null (by omega)), bs2, hB2.mono (by omega), rfl⟩
    refine ex_when (et_test (ev_op (ev_var rfl) ev_int op_eqI)) (fun _ => ?_) fun h3' => ?_
    · refine ex_ret (ev_tab (f := fun x y => if y < x then y else x) (by omega) hmi (by decide) (by decide) (fun x v hx => ev_var rfl) fun x y vx vy hx hy => ev_is (ev_cb (ea_cons (ev_var rfl) (ea_cons (ev_var rfl) ea_nil)) cb_min2) ?_) fun v => ⟨fin (MP.semi_min m), bs2, hB2.mono (by omega), rfl⟩
      congr 1
      by_cases c : y < x
      · rw [if_pos c, if_pos (by omega)]
      · rw [if_neg c, if_neg (by omega)]
    refine ex_when (et_test (ev_op (ev_var rfl) ev_int op_eqI)) (fun _ => ?_) fun h4' => ?_
    · exact ex_ret (ev_tab (f := fun x y => (x + y) % m) (by omega) hmi (by decide) (by decide) (fun x v hx => ev_var rfl) fun x y vx vy hx hy => ev_is (ev_op (ev_cb (ea_cons (ev_op (ev_var rfl) (ev_var rfl) op_addI) ea_nil) cb_int) (ev_var rfl) (op_modI (by omega))) rfl) fun v => ⟨fin (MP.semi_clock (by omega)), bs2, hB2.mono (by omega), rfl⟩
    refine ex_when (et_test (ev_op (ev_var rfl) ev_int op_eqI)) (fun _ => ?_) fun h5' => ?_
    · refine ex_letX (xe_cTake (c := 1) rfl hB2 (by omega) (ev_var rfl) hm1 (by omega)) fun v4 d env' h => ?_
      obtain ⟨t, ht, rfl, bs3, hB3, rfl⟩ := h
      obtain ⟨i, hi1, him, hie⟩ : ∃ i, 1 ≤ i ∧ i ≤ m ∧ 1 + t = i := ⟨1 + t, by omega, by omega, rfl⟩
      rw [hie]
      clear hie ht
      refine ex_let (d := .int ((m + 1 - i : Nat) : Int)) (ev_is (ev_op (ev_op (ev_var rfl) (ev_int (i := 1)) op_addI) (ev_var rfl) op_subI) (by congr 1; omega)) fun v5 => ?_
      refine ex_let (ev_lcR (n := 2 * m + 1) (F := fun k => .int (MP.stp i m k : Nat)) (ev_is (ev_op (ev_op (ev_int (i := 2)) (ev_var (i := 2) rfl) (op_mulI (.inl ⟨by decide, by decide⟩))) (ev_int (i := 1)) op_addI) rfl) (by omega) (by decide) fun k vk hk => ?_) fun v6 => ?_
      · refine ev_if (et_test (ev_op (ev_var rfl) (ev_var rfl) op_ltI)) (fun h => ev_is (ev_var rfl) ?_) fun h => ev_is (ev_op (ev_op (ev_var rfl) (ev_int (i := 1)) op_subI) (ev_op (ev_cb (ea_cons (ev_op (ev_op (ev_var rfl) (ev_var rfl) op_subI) (ev_int (i := 1)) op_addI) ea_nil) cb_int) (ev_var rfl) (op_modI (by omega))) op_addI) ?_
        · have := of_decide_eq_true h
          unfold MP.stp
          rw [if_pos (by omega)]
        · have := of_decide_eq_false h
          unfold MP.stp
          rw [if_neg (by omega)]
          congr 1
          rw [show ((k : Int) - (i : Int) + 1) = ((k + 1 - i : Nat) : Int) by omega, int_mod]
          omega
      · exact ex_ret (ev_tab (f := fun x y => MP.stp i m (x + y + 1)) (by omega) (ev_var rfl) (by decide) (by decide) (fun x v hx => ev_var rfl) fun x y vx vy hx hy => ev_op (ev_var rfl) (ev_is (ev_op (ev_op (ev_var (i := 9) rfl) (ev_var (i := 10) rfl) op_addI) (ev_int (i := 1)) op_addI) (show _ = D.int ((x + y + 1 : Nat) : Int) from rfl)) (op_ixR (f := fun k => MP.stp i m k) (by omega))) fun v => ⟨fin (MP.semi_mono hi1 him), bs3, hB3.mono (by omega), rfl⟩
    refine ex_letX (xe_cTake (c := 1) (m := 3) rfl hB2 (by omega) (ev_int (i := 3)) (by decide) (by decide)) fun v7 d env' h => ?_
    obtain ⟨t, ht, rfl, bs3, hB3, rfl⟩ := h
    obtain ⟨l, hl1, hl3, hle⟩ : ∃ l, 1 ≤ l ∧ l ≤ 3 ∧ 1 + t = l := ⟨1 + t, by omega, by omega, rfl⟩
    rw [hle]
    clear hle ht
    obtain ⟨r0, hr1, hr0⟩ : ∃ r0 : Nat, 1 ≤ r0 ∧ (if ((most / l : Nat) : Int) > 1 then ((most / l : Nat) : Int) else 1) = ((r0 : Nat) : Int) := by
      by_cases c : ((most / l : Nat) : Int) > 1
      · exact ⟨most / l, by omega, if_pos c⟩
      · exact ⟨1, by omega, if_neg c⟩
    refine ex_let (d := .int (r0 : Nat)) (ev_is (ev_cb (ea_cons ev_int (ea_cons (ev_op (ev_var rfl) (ev_var rfl) (op_fdivI (by omega))) ea_nil)) cb_max2) (by rw [int_div, hr0])) fun v8 => ?_
    obtain ⟨r1, hr11, hr13, hr1e⟩ : ∃ r1 : Nat, 1 ≤ r1 ∧ r1 ≤ 3 ∧ (if ((r0 : Nat) : Int) < 3 then ((r0 : Nat) : Int) else 3) = ((r1 : Nat) : Int) := by
      by_cases c : ((r0 : Nat) : Int) < 3
      · exact ⟨r0, by omega, by omega, if_pos c⟩
      · exact ⟨3, by omega, by omega, if_neg c⟩
    refine ex_letX (xe_cTake (c := 1) (m := r1) rfl hB3 (by omega) (ev_is (ev_cb (ea_cons (ev_int (i := 3)) (ea_cons (ev_var rfl) ea_nil)) cb_min2) (by rw [hr1e])) hr11 (by omega)) fun v8' d env' h => ?_
    obtain ⟨t, ht, rfl, bs4, hB4, rfl⟩ := h
    refine ex_seq (N := fun e => ∃ l r va vb, 1 ≤ l ∧ 1 ≤ r ∧ l ≤ 10 ∧ r ≤ 10 ∧ l * r ≤ most ∧ e = [Sl.own b bs4, Sl.val v1 (.int most), Sl.val v2 (.int (m : Nat)), Sl.val v3 (.int (wy : Nat)), Sl.un, Sl.un, Sl.un, Sl.val va (.int (l : Nat)), Sl.val vb (.int (r : Nat)), Sl.un, Sl.un, Sl.un]) ?_ fun env' h => ?_
    · refine ex_if (et_test (ev_op (ev_op (ev_var rfl) (ev_var rfl) (op_mulI (.inl ⟨by omega, by omega⟩))) (ev_var rfl) op_gtI)) (fun h => ?_) fun h => ?_
      · obtain ⟨r2, h21, h22, h23⟩ : ∃ r2 : Nat, 1 ≤ r2 ∧ r2 ≤ most ∧ (if (2 : Int) < ((most : Nat) : Int) then (2 : Int) else ((most : Nat) : Int)) = ((r2 : Nat) : Int) := by
          by_cases c : (2 : Int) < ((most : Nat) : Int)
          · exact ⟨2, by omega, by omega, if_pos c⟩
          · exact ⟨most, by omega, by omega, if_neg c⟩
        exact ex_asgG (d := .tup [.int ((1 : Nat) : Int), .int (r2 : Nat)]) (ev_tup (ea_cons (ev_int (i := 1)) (ea_cons (ev_is (ev_cb (ea_cons (ev_var rfl) (ea_cons ev_int ea_nil)) cb_min2) (by rw [h23])) ea_nil)) (sz 2)) (fun v => eg_two) fun e ⟨w1, w2, he⟩ => ⟨1, r2, w1, w2, by omega, h21, by omega, by omega, by omega, he⟩
      · have := of_decide_eq_false h
        rw [int_mul] at this
        exact ex_next ⟨l, 1 + t, v7, v8', hl1, by omega, by omega, by omega, by omega, rfl⟩
    · obtain ⟨l, r, va, vb, hl, hr, hl', hr', hlr, rfl⟩ := h
      have hn : ∀ {e}, EV K ⟨G, H, some b⟩ (tVar 7) e (.int (l : Nat)) → EV K ⟨G, H, some b⟩ (tVar 8) e (.int (r : Nat)) → EV K ⟨G, H, some b⟩ (tOp (rI CMul fun i j => .int (i * j)) (tVar 7) (tVar 8)) e (.int ((l * r : Nat) : Int)) := fun h1 h2 => ev_is (ev_op h1 h2 (op_mulI (.inl ⟨by omega, by omega⟩))) (by rw [int_mul])
      have hlr1 : 1 ≤ l * r := Nat.mul_pos hl hr
      refine ex_ret (ev_tab (f := fun x y => x / r * r + y % r) (by omega) (hn (ev_var rfl) (ev_var rfl)) (by decide) (by decide) (fun x v hx => hn (ev_var rfl) (ev_var rfl)) fun x y vx vy hx hy => ?_) fun v => ⟨hP _ _ (SgOk.of (MP.semi_rect hr) hlr1 (by omega)) hlr, bs4, hB4.mono (by omega), rfl⟩
      refine ev_is (ev_op (ev_op (ev_op (ev_var (i := 9) rfl) (ev_var (i := 8) rfl) (op_fdivI (by omega))) (ev_var (i := 8) rfl) (op_mulI (.inr ⟨by omega, by omega⟩))) (ev_op (ev_cb (ea_cons (ev_var (i := 10) rfl) ea_nil) cb_int) (ev_var (i := 8) rfl) (op_modI (by omega))) op_addI) ?_
      rfl

end
end Kx


set_option Elab.async false
set_option linter.all false
set_option maxRecDepth 100000
set_option maxHeartbeats 2000000
namespace Kx
open PySem PySem.Spec PyProof.Rows L2 DL
section
variable {P : Program} {w : World} {K : PySem.W.Frag} {mg : Str → Option Value} {base : Heap}
def R_law_drawn : List D → (D → Prop) → Prop
  | [mo], Pd => ∃ most : Nat, mo = .int (most : Nat) ∧ 1 ≤ most ∧ most ≤ 10 ∧ ∀ n f, SgOk n f → n ≤ most → Pd (tblD n f)
  | _, _ => False
/-- a table of a semigroup of at most so many elements -/
def IsSg (most : Nat) (d : D) : Prop := ∃ m f, SgOk m f ∧ m ≤ most ∧ d = tblD m f
theorem fmD_ok {ms : List (List Nat)} {p most : Nat} (hm : ∀ m ∈ ms, MP.Mv p m) (hne : ms ≠ []) (h10 : most ≤ 10) : fmD ms most = .non ∨ IsSg most (fmD ms most) := by
  unfold fmD
  cases q : MP.fmL ms most (most + 2) (dd [] ms) 0 with
  | none => exact .inl rfl
  | some L =>
    obtain ⟨⟨at2, h1, h2⟩, h3, h4⟩ := MP.fmL_inv _ _ _ L (inv0 hm) (.inl rfl) (dd_ne hne) q
    exact .inr ⟨L.length, MP.idxT L, SgOk.of (MP.semi_idx (fun x hx => (h2.gen x hx).mv hm) fun x hx y hy => h2.closed h1 hx hy) (List.length_pos_iff.mpr h4) (by omega), h3, rfl⟩
theorem row_more {n : Nat} {f : Nat → Nat} {y : Nat} : D.tup (((List.range n).map fun y => D.int (f y : Nat)) ++ [D.int (y : Nat)]) = rowD (n + 1) (fun b => if b < n then f b else y) := by
  unfold rowD
  rw [List.range_succ, List.map_append]
  congr 2
  · refine List.map_congr_left fun b hb => ?_
    show D.int (f b : Nat) = D.int ((if b < n then f b else y : Nat) : Int)
    rw [if_pos (List.mem_range.mp hb)]
  · show [D.int (y : Nat)] = [D.int ((if n < n then f n else y : Nat) : Int)]
    rw [if_neg (Nat.lt_irrefl n)]
theorem tbl_more {n : Nat} {g : Nat → Nat → Nat} : D.tup (((List.range n).map fun x => rowD (n + 1) (g x)) ++ [rowD (n + 1) (g n)]) = tblD (n + 1) g := by
  unfold tblD
  rw [List.range_succ, List.map_append]
  rfl
theorem rowD_congr {n : Nat} {f g : Nat → Nat} (h : ∀ y, y < n → f y = g y) : rowD n f = rowD n g := by
  unfold rowD
  congr 1
  exact List.map_congr_left fun y hy => by rw [h y (List.mem_range.mp hy)]
theorem ok_law_drawn (T : Tx K mg) : FnOk P w K mg base CX0 3 T.f_law_drawn T.d_law_drawn p_law_drawn (spB K 80 R_law_drawn) := by
  refine T.F_law_drawn.ok sc_law_drawn (fun vs H Q E h => ?_) (fun cdv A outer s H vs Q E hr h => ?_)
  · obtain ⟨G, b, n, xs, bs, ws, ds, Pd, rfl, hG, hH, hx, hbx, hn, e, hd, hR, q⟩ := h
    rw [List.length_cons, hd.length]
    match ds, hR with
    | [_], _ => rfl
  · refine ⟨_, (pss_cons (ps_asg (pe_tup (pa_cons pe_non (pa_cons (pe_call (ok_law_take T) (hr.mono (by omega)) (by rfl) T.g_law_take T.F_law_take.kp T.b_law_take .nil pass0 (pa_cons (pv 0) (pa_cons pe_int pa_nil))) pa_nil))) (pg_tupK K rfl (pgs_cons (pg_name (i := 2) sc_law_drawn.nd rfl (.inr rfl)) (pgs_cons (pg_name (i := 3) sc_law_drawn.nd rfl (.inl rfl)) pgs_nil))))
      (pss_cons (ps_for PassesOwn.never rfl (pi_range1 (by rfl) T.m_range (pa_cons (pv 3) pa_nil)) (pg_name (i := 4) sc_law_drawn.nd rfl (.inl rfl))
      (pss_cons (ps_set (i := 5) sc_law_drawn.nd rfl (.inr rfl) (pe_op op_add pe_int (pe_call (ok_law_take T) (hr.mono (by omega)) (by rfl) T.g_law_take T.F_law_take.kp T.b_law_take .nil pass0 (pa_cons (pv 0) (pa_cons pe_int pa_nil)))))
      (pss_cons (ps_setLc (i := 6) (own := [("m", 11)]) rfl sc_law_drawn.nd rfl rfl (sw_true rfl rfl rfl (by decide +kernel)) (pi_range1 (by rfl) T.m_range (pa_cons (pe_op op_add pe_int (pe_call (ok_law_take T) (hr.mono (by omega)) (by rfl) T.g_law_take T.F_law_take.kp T.b_law_take .nil pass0 (pa_cons (pv 0) (pa_cons pe_int pa_nil)))) pa_nil)) (blkOk_by (by rfl)) (fun _ _ _ _ _ => pg_name (i := 11) sc_law_drawn.nd rfl (by first | exact .inl rfl | exact .inr rfl)) (fun _ _ _ _ _ => pts_nil) (fun _ _ _ _ _ => (pe_tupleOfK K (by rfl) T.m_tuple (pe_lc (own := [("k", 10)]) rfl sc_law_drawn.nd (pi_range1 (by rfl) T.m_range (pa_cons (pv 5) pa_nil)) (blkOk_by (by rfl)) (fun _ _ _ _ _ => pg_name (i := 10) sc_law_drawn.nd rfl (by first | exact .inl rfl | exact .inr rfl)) (fun _ _ _ _ _ => pts_nil) (fun _ _ _ _ _ => (pe_call (ok_law_take T) (hr.mono (by omega)) (by rfl) T.g_law_take T.F_law_take.kp T.b_law_take .nil pass0 (pa_cons (pv 0) (pa_cons (pv 5) pa_nil))))))))
      (pss_cons (ps_set (i := 7) sc_law_drawn.nd rfl (.inl rfl) (pe_call (ok_law_from_moves T) (hr.mono (by omega)) (by rfl) T.g_law_from_moves T.F_law_from_moves.kp T.b_law_from_moves .nil pass0 (pa_cons (pv 6) (pa_cons (pv 1) pa_nil))))
      (pss_one (ps_if (PW.pt (pw_and (pt_cmpR op_notN1 (pv 7) pe_non (nomark _)) (pw_and1 (PW.pt (pw_or (pt_cmpR op_isN1 (pv 2) pe_non (nomark _)) (pw_or1 (pt_cmpR op_gt (pe_callB (call_lenK K) (by rfl) T.m_len (by decide +kernel) (pa_cons (pv 7) pa_nil)) (pe_callB (call_lenK K) (by rfl) T.m_len (by decide +kernel) (pa_cons (pv 2) pa_nil)) (nomark _)))))))) (pss_one (ps_set (i := 2) sc_law_drawn.nd rfl (.inr rfl) (pv 7))) pss_nil))))))
      (pss_cons (ps_if (pt_cmpR op_isN1 (pv 2) pe_non (nomark _)) (pss_one (ps_set (i := 2) sc_law_drawn.nd rfl (.inr rfl) (pe_call (ok_law_plain T) (hr.mono (by omega)) (by rfl) T.g_law_plain T.F_law_plain.kp T.b_law_plain .nil pass0 (pa_cons (pv 0) (pa_cons (pv 1) pa_nil))))) pss_nil)
      (pss_cons (ps_if (PW.pt (pw_and (pt_cmpR op_lt (pe_callB (call_lenK K) (by rfl) T.m_len (by decide +kernel) (pa_cons (pv 2) pa_nil)) (pv 1) (nomark _)) (pw_and1 (pt_cmpR op_eq (pe_call (ok_law_take T) (hr.mono (by omega)) (by rfl) T.g_law_take T.F_law_take.kp T.b_law_take .nil pass0 (pa_cons (pv 0) (pa_cons pe_int pa_nil))) pe_int (nomark _))))) (pss_cons (ps_asg (pe_tup (pa_cons (pe_callB (call_lenK K) (by rfl) T.m_len (by decide +kernel) (pa_cons (pv 2) pa_nil)) (pa_cons (pe_call (ok_law_take T) (hr.mono (by omega)) (by rfl) T.g_law_take T.F_law_take.kp T.b_law_take .nil pass0 (pa_cons (pv 0) (pa_cons pe_int pa_nil))) pa_nil))) (pg_tupK K rfl (pgs_cons (pg_name (i := 8) sc_law_drawn.nd rfl (.inr rfl)) (pgs_cons (pg_name (i := 9) sc_law_drawn.nd rfl (.inr rfl)) pgs_nil))))
      (pss_cons (ps_set (i := 2) sc_law_drawn.nd rfl (.inr rfl) (pe_tupleOfK K (by rfl) T.m_tuple (pe_lc (own := [("x", 12)]) rfl sc_law_drawn.nd (pi_range1 (by rfl) T.m_range (pa_cons (pv 8) pa_nil)) (blkOk_by (by rfl)) (fun _ _ _ _ _ => pg_name (i := 12) sc_law_drawn.nd rfl (by first | exact .inl rfl | exact .inr rfl)) (fun _ _ _ _ _ => pts_nil) (fun _ _ _ _ _ => (pe_op (op_catTK K) (pe_ix (ix_seqK K) (pv 2) (pv 12) (fun _ _ => rfl)) (pe_tup (pa_cons (pe_ifExp (pt_cmpR op_eq (pv 9) pe_int (nomark _)) (pv 12) (pv 8)) pa_nil)))))))
      (pss_one (ps_set (i := 2) sc_law_drawn.nd rfl (.inr rfl) (pe_op (op_catTK K) (pv 2) (pe_tup (pa_cons (pe_ifExp (pt_cmpR op_eq (pv 9) pe_int (nomark _)) (pe_op (op_catTK K) (pe_tupRg rfl (by rfl) T.m_tuple (prg_1 (by rfl) T.m_range (pv 8))) (pe_tup (pa_cons (pv 8) pa_nil))) (pe_op (op_repT2K (K := K)) (pe_tup (pa_cons (pv 8) pa_nil)) (pe_op op_add (pv 8) pe_int))) pa_nil))))))) pss_nil)
      (pss_one (ps_ret (pe_call (ok_law_relabelled T) (hr.mono (by omega)) (by rfl) T.g_law_relabelled T.F_law_relabelled.kp T.b_law_relabelled .nil pass0 (pa_cons (pv 2) (pa_cons (pe_call (ok_law_mixed T) (hr.mono (by omega)) (by rfl) T.g_law_mixed T.F_law_mixed.kp T.b_law_mixed .nil pass0 (pa_cons (pv 0) (pa_cons (pe_listRg rfl (by rfl) T.m_list (prg_1 (by rfl) T.m_range (pe_callB (call_lenK K) (by rfl) T.m_len (by decide +kernel) (pa_cons (pv 2) pa_nil)))) pa_nil))) pa_nil))))))))), ?_⟩
    obtain ⟨G, b, n, xs, bs, ws, ds, Pd, rfl, hG, hH, hx, hbx, hn, e, hd, hR, q⟩ := h
    have hl : ∃ x1, ds = [x1] := by
      match ds, hR with
      | [x1], _ => exact ⟨x1, rfl⟩
    obtain ⟨x1, rfl⟩ := hl
    cases hd with
    | @cons v1 vs0 _ _ dv1 hd =>
    cases hd
    refine EX.finB (W := fun _ _ _ _ => False) (k := 80) (n := n) (env := [Sl.own b bs, Sl.val v1 x1, Sl.un, Sl.un, Sl.un, Sl.un, Sl.un, Sl.un, Sl.un, Sl.un, Sl.un, Sl.un, Sl.un]) rfl (good_box e hG hH hx ((.cons dv1 .nil)) n_law_drawn) q ?_
    obtain ⟨most, rfl, h1, h10, hP⟩ := hR
    refine ex_asgX2S (i := 2) (j := 3) (xe_tup (xa_ev ev_non (xe_take (m := 6) rfl hbx (by omega) (ev_int (i := 6)) (by decide) (by decide))) (P := fun _ d e => ∃ t bs', t < 6 ∧ d = .tup [.non, .int (t : Nat)] ∧ BoxD (n + 1) bs' ∧ e = [Sl.own b bs', Sl.val v1 (.int most), Sl.un, Sl.un, Sl.un, Sl.un, Sl.un, Sl.un, Sl.un, Sl.un, Sl.un, Sl.un, Sl.un]) fun vs ds e h => ?_) fun v d e h => ?_
    · obtain ⟨v2, d2, rfl, t, ht, rfl, bs', hB, rfl⟩ := h
      exact ⟨sz 2, fun v => ⟨t, bs', ht, rfl, hB, rfl⟩⟩
    obtain ⟨number, bs1, hnum, rfl, hB1, rfl⟩ := h
    refine ⟨.non, .int (number : Nat), rfl, fun v2 v3 => ?_⟩
    refine ex_forRS (n := number) (fun i e => ∃ bs' vt dt s4 s5 s6 s7, (dt = .non ∨ IsSg most dt) ∧ BoxD (n + 1 + 10 * i) bs' ∧ e = [Sl.own b bs', Sl.val v1 (.int most), Sl.val vt dt, Sl.val v3 (.int (number : Nat)), s4, s5, s6, s7, Sl.un, Sl.un, Sl.un, Sl.un, Sl.un])
      (ev_var rfl) (by omega) ⟨bs1, v2, .non, _, _, _, _, .inl rfl, hB1, rfl⟩ ?_ fun env' h => ?_
    · rintro i env' v4 hi ⟨bs2, vt, dt, s4, s5, s6, s7, hdt, hB2, rfl⟩
      refine ex_forget 5 (ex_forget 6 (ex_forget 7 ?_))
      refine ex_letX (xe_cTake (c := 2) (m := 3) rfl hB2 (by omega) (ev_int (i := 3)) (by decide) (by decide)) fun v5 d e h => ?_
      obtain ⟨t, ht, rfl, bs3, hB3, rfl⟩ := h
      obtain ⟨p, hp2, hp4, hpe⟩ : ∃ p, 2 ≤ p ∧ p ≤ 4 ∧ 2 + t = p := ⟨2 + t, by omega, by omega, rfl⟩
      rw [hpe]
      clear hpe ht
      refine ex_letX (P := fun _ d e => ∃ ms bs', d = .lst (ms.map tupN) ∧ (∀ m ∈ ms, MP.Mv p m) ∧ ms ≠ [] ∧ ms.length ≤ 2 ∧ BoxD (n + 1 + 10 * i + 10) bs' ∧ e = [Sl.own b bs', Sl.val v1 (.int most), Sl.val vt dt, Sl.val v3 (.int (number : Nat)), Sl.val v4 (.int (i : Nat)), Sl.val v5 (.int (p : Nat)), Sl.un, Sl.un, Sl.un, Sl.un, Sl.un, Sl.un, Sl.un]) (xe_lc (vs := [11]) (j := 11)
        (PI := fun ds e => ∃ c bs', 1 ≤ c ∧ c ≤ 2 ∧ ds = rgD 0 c ∧ BoxD (n + 1 + 10 * i + 2) bs' ∧ e = [Sl.own b bs', Sl.val v1 (.int most), Sl.val vt dt, Sl.val v3 (.int (number : Nat)), Sl.val v4 (.int (i : Nat)), Sl.val v5 (.int (p : Nat)), Sl.un, Sl.un, Sl.un, Sl.un, Sl.un, Sl.un, Sl.un])
        (xi_rng1 (xe_cTake (c := 1) (m := 2) rfl hB3 (by omega) (ev_int (i := 2)) (by decide) (by decide)) fun v d e h => ?_) (by decide) fun ds e h => ?_) fun v6 d e h => ?_
      · obtain ⟨t, ht, rfl, bs', hB, rfl⟩ := h
        exact ⟨1 + t, rfl, by omega, 1 + t, bs', by omega, by omega, rfl, hB, rfl⟩
      · obtain ⟨c, bs4, hc1, hc2, rfl, hB4, rfl⟩ := h
        refine ⟨by rw [rgD_length, sizeLine_eq]; omega, fun k L e => ∃ (ms : List (List Nat)) (bs' : List D), ms.length = k ∧ (∀ m ∈ ms, MP.Mv p m) ∧ L = ms.map tupN ∧ BoxD (n + 1 + 10 * i + 2 + 4 * k) bs' ∧ e = [Sl.own b bs', Sl.val v1 (.int most), Sl.val vt dt, Sl.val v3 (.int (number : Nat)), Sl.val v4 (.int (i : Nat)), Sl.val v5 (.int (p : Nat)), Sl.un, Sl.un, Sl.un, Sl.un, Sl.un, Sl.un, Sl.un], ?_, ?_, ?_⟩
        · exact ⟨[], bs4, rfl, (by intro m hm; cases hm), rfl, hB4, rfl⟩
        · rintro k L e' vm dm hdm ⟨ms, bs5, hk, hms, rfl, hB5, rfl⟩ -
          have hkc : k < c := by have := (List.getElem?_eq_some_iff.mp hdm).1; rw [rgD_length] at this; exact this
          refine ⟨rfl, ?_⟩
          refine xe_then (P1 := fun _ d e => ∃ a bs', d = .lst (lstN a) ∧ MP.Mv p a ∧ BoxD (n + 1 + 10 * i + 2 + 4 * k + 4) bs' ∧ e = [Sl.own b bs', Sl.val v1 (.int most), Sl.val vt dt, Sl.val v3 (.int (number : Nat)), Sl.val v4 (.int (i : Nat)), Sl.val v5 (.int (p : Nat)), Sl.un, Sl.un, Sl.un, Sl.un, Sl.un, Sl.val vm dm, Sl.un])
            (xe_lc (vs := [10]) (j := 10) (EVI.xi (ei_rng1 (n := (p : Nat)) (ea_cons (ev_var rfl) ea_nil) (by omega) (by omega))) (by decide) fun ds e h => ?_) fun v d e h => ?_
          · obtain ⟨rfl, rfl⟩ := h
            have el : (rgD 0 ((p : Nat) : Int).toNat).length = p := by rw [rgD_length, Int.toNat_natCast]
            refine ⟨by rw [el, sizeLine_eq]; omega, fun y L e => ∃ (a : List Nat) (bs' : List D), a.length = y ∧ (∀ m ∈ a, m < p) ∧ L = lstN a ∧ BoxD (n + 1 + 10 * i + 2 + 4 * k + y) bs' ∧ e = [Sl.own b bs', Sl.val v1 (.int most), Sl.val vt dt, Sl.val v3 (.int (number : Nat)), Sl.val v4 (.int (i : Nat)), Sl.val v5 (.int (p : Nat)), Sl.un, Sl.un, Sl.un, Sl.un, Sl.un, Sl.val vm dm, Sl.un], ?_, ?_, ?_⟩
            · exact ⟨[], bs5, rfl, (by intro m hm; cases hm), rfl, hB5, rfl⟩
            · rintro y L e' vy dy hdy ⟨a, bs6, hy, ha, rfl, hB6, rfl⟩ -
              have hyp : y < p := by have := (List.getElem?_eq_some_iff.mp hdy).1; rw [el] at this; exact this
              refine ⟨rfl, (xe_take (m := p) rfl hB6 (by omega) (ev_var rfl) (by omega) (by omega)).imp fun v d e h => ?_⟩
              obtain ⟨t, ht, rfl, bs7, hB7, rfl⟩ := h
              refine ⟨⟨a ++ [t], bs7, by rw [List.length_append, hy]; rfl, fun m hm => ?_, by rw [lstN_app], by rw [show n + 1 + 10 * i + 2 + 4 * k + (y + 1) = n + 1 + 10 * i + 2 + 4 * k + y + 1 by omega]; exact hB7, rfl⟩, rfl⟩
              rcases List.mem_append.mp hm with hm | hm
              · exact ha m hm
              · rw [List.mem_singleton.mp hm]; exact ht
            · rintro L e' ⟨a, bs6, hy, ha, rfl, hB6, rfl⟩ v
              rw [el] at hy hB6
              exact ⟨a, bs6, rfl, ⟨hy, ha⟩, hB6.mono (by omega), rfl⟩
          · obtain ⟨a, bs6, rfl, ha, hB6, rfl⟩ := h
            refine ⟨tupN a, un_tupL, fun u => ⟨⟨ms ++ [a], bs6, by rw [List.length_append, hk]; rfl, fun m hm => ?_, by rw [List.map_append]; rfl, by rw [show n + 1 + 10 * i + 2 + 4 * (k + 1) = n + 1 + 10 * i + 2 + 4 * k + 4 by omega]; exact hB6, rfl⟩, rfl⟩⟩
            rcases List.mem_append.mp hm with hm | hm
            · exact hms m hm
            · rw [List.mem_singleton.mp hm]; exact ha
        · rintro L e' ⟨ms, bs5, hk, hms, rfl, hB5, rfl⟩ v
          rw [rgD_length] at hk hB5
          refine ⟨ms, bs5, rfl, hms, fun z => ?_, by omega, hB5.mono (by omega), rfl⟩
          rw [z] at hk
          simp at hk
          omega
      · obtain ⟨ms, bs5, rfl, hms, hne, hl2, hB5, rfl⟩ := h
        refine ex_let (ev_call (ea_cons (ev_var rfl) (ea_cons (ev_var rfl) ea_nil)) ⟨ms, p, most, rfl, rfl, hms, hne, by omega, by omega, by omega, rfl⟩) fun v7 => ?_
        rcases fmD_ok hms hne h10 with hf | ⟨m, f, hsg, hm, hf⟩
        · rw [hf]
          refine ex_if (b := false) (et_is (et_and (b := false) (et_test (ev_op (ev_var rfl) ev_non op_notNN)) fun z => nomatch z) rfl) (fun z => nomatch z) fun _ => ?_
          exact ex_next ⟨bs5, vt, dt, _, _, _, _, hdt, hB5.mono (by omega), rfl⟩
        · rw [hf]
          have hT : ∃ bb, EVT K ⟨G, H, some b⟩ (tOr (tTest (tOp rIsN (tVar 2) (tC V.non))) (tTest (tOp (rI0 fun i j => V.bl (decide (j < i))) (tCB (DL.rLen K) (tCons (tVar 7) tNil)) (tCB (DL.rLen K) (tCons (tVar 2) tNil)))))
              [Sl.own b bs5, Sl.val v1 (.int most), Sl.val vt dt, Sl.val v3 (.int (number : Nat)), Sl.val v4 (.int (i : Nat)), Sl.val v5 (.int (p : Nat)), Sl.val v6 (.lst (ms.map tupN)), Sl.val v7 (tblD m f), Sl.un, Sl.un, Sl.un, Sl.un, Sl.un] bb := by
            rcases hdt with rfl | ⟨m', f', _, _, rfl⟩
            · exact ⟨_, et_or (b := false) (et_test (ev_op (ev_var rfl) ev_non op_isNN)) fun z => nomatch z⟩
            · exact ⟨_, et_or (et_test (ev_op (ev_var rfl) ev_non op_isNT)) fun _ => et_test (ev_op (ev_cb (ea_cons (ev_var rfl) ea_nil) cb_lenTbl) (ev_cb (ea_cons (ev_var rfl) ea_nil) cb_lenTbl) op_gtI)⟩
          obtain ⟨bb, hT⟩ := hT
          refine ex_if (et_and (et_test (ev_op (ev_var rfl) ev_non op_notNT)) fun _ => hT) (fun _ => ?_) fun _ => ?_
          · exact ex_asg (ev_var rfl) fun v => ⟨bs5, v, tblD m f, _, _, _, _, .inr ⟨m, f, hsg, hm, rfl⟩, hB5.mono (by omega), rfl⟩
          · exact ex_next ⟨bs5, vt, dt, _, _, _, _, hdt, hB5.mono (by omega), rfl⟩
    obtain ⟨bs2, vt, dt, s4, s5, s6, s7, hdt, hB2, rfl⟩ := h
    refine ex_forget 4 (ex_forget 5 (ex_forget 6 (ex_forget 7 ?_)))
    refine ex_seq (N := fun e => ∃ bs' vt m f, SgOk m f ∧ m ≤ most ∧ BoxD (n + 60) bs' ∧ e = [Sl.own b bs', Sl.val v1 (.int most), Sl.val vt (tblD m f), Sl.val v3 (.int (number : Nat)), Sl.un, Sl.un, Sl.un, Sl.un, Sl.un, Sl.un, Sl.un, Sl.un, Sl.un]) ?_ fun env' h => ?_
    · rcases hdt with rfl | ⟨m, f, hsg, hm, rfl⟩
      · refine ex_if (b := true) (et_test (ev_op (ev_var rfl) ev_non op_isNN)) (fun _ => ?_) fun z => nomatch z
        refine ex_asgX (xe_callB (Pd := IsSg most) rfl hB2 (by omega) (ea_cons (ev_var rfl) ea_nil) ⟨most, rfl, h1, h10, fun m f hs hm => ⟨m, f, hs, hm, rfl⟩⟩) fun v d e h => ?_
        obtain ⟨⟨m, f, hsg, hm, rfl⟩, bs3, hB3, rfl⟩ := h
        exact ⟨bs3, v, m, f, hsg, hm, hB3.mono (by omega), rfl⟩
      · refine ex_if (b := false) (et_test (ev_op (ev_var rfl) ev_non op_isNT)) (fun z => nomatch z) fun _ => ?_
        exact ex_next ⟨bs2, vt, m, f, hsg, hm, hB2.mono (by omega), rfl⟩
    obtain ⟨bs3, vt, m, f, hsg, hm, hB3, rfl⟩ := h
    refine ex_seq (N := fun e => ∃ bs' vt m f s8 s9, SgOk m f ∧ m ≤ most ∧ BoxD (n + 62) bs' ∧ e = [Sl.own b bs', Sl.val v1 (.int most), Sl.val vt (tblD m f), Sl.val v3 (.int (number : Nat)), Sl.un, Sl.un, Sl.un, Sl.un, s8, s9, Sl.un, Sl.un, Sl.un]) ?_ fun env' h => ?_
    · refine ex_ifX (xt_and (et_test (ev_op (ev_cb (ea_cons (ev_var rfl) ea_nil) cb_lenTbl) (ev_var rfl) op_ltI)) fun _ => xt_test (P2 := fun _ e => ∃ bs', BoxD (n + 61) bs' ∧ e = [Sl.own b bs', Sl.val v1 (.int most), Sl.val vt (tblD m f), Sl.val v3 (.int (number : Nat)), Sl.un, Sl.un, Sl.un, Sl.un, Sl.un, Sl.un, Sl.un, Sl.un, Sl.un])
        (xe_op (P := fun _ d e => ∃ bb, d = .bl bb ∧ ∃ bs', BoxD (n + 61) bs' ∧ e = [Sl.own b bs', Sl.val v1 (.int most), Sl.val vt (tblD m f), Sl.val v3 (.int (number : Nat)), Sl.un, Sl.un, Sl.un, Sl.un, Sl.un, Sl.un, Sl.un, Sl.un, Sl.un]) (P2 := fun _ _ d e => d = .int 0 ∧ ∃ bs', BoxD (n + 61) bs' ∧ e = [Sl.own b bs', Sl.val v1 (.int most), Sl.val vt (tblD m f), Sl.val v3 (.int (number : Nat)), Sl.un, Sl.un, Sl.un, Sl.un, Sl.un, Sl.un, Sl.un, Sl.un, Sl.un])
          (xe_take (m := 4) rfl hB3 (by omega) (ev_int (i := 4)) (by decide) (by decide)) (fun v d e h => ?_) fun v1' d1 e1 v2' d2 e2 h1' h2' => ?_) fun v d e h => ?_) (fun e h => ?_) fun e h => ?_
      · obtain ⟨t, ht, rfl, bs4, hB4, rfl⟩ := h
        exact ev_int.xe.imp fun v d e h => ⟨h.1, bs4, hB4, h.2⟩
      · obtain ⟨t, ht, rfl, _⟩ := h1'
        obtain ⟨rfl, bs4, hB4, rfl⟩ := h2'
        exact ⟨_, op_eqI, fun v => ⟨_, rfl, bs4, hB4, rfl⟩⟩
      · obtain ⟨bb, rfl, h⟩ := h
        exact ⟨bb, rfl, h⟩
      · rcases h with ⟨hlt, bs4, hB4, rfl⟩ | ⟨_, z, _⟩
        · have hlt' := of_decide_eq_true hlt
          have hmm : m < most := by omega
          refine ex_asgX2S (i := 8) (j := 9) (xe_tup (xa_ev (ev_cb (ea_cons (ev_var rfl) ea_nil) cb_lenTbl) (xe_take (m := 2) rfl hB4 (by omega) (ev_int (i := 2)) (by decide) (by decide))) (P := fun _ d e => ∃ t bs', t < 2 ∧ d = .tup [.int (m : Nat), .int (t : Nat)] ∧ BoxD (n + 62) bs' ∧ e = [Sl.own b bs', Sl.val v1 (.int most), Sl.val vt (tblD m f), Sl.val v3 (.int (number : Nat)), Sl.un, Sl.un, Sl.un, Sl.un, Sl.un, Sl.un, Sl.un, Sl.un, Sl.un]) fun vs ds e h => ?_) fun v d e h => ?_
          · obtain ⟨v2, d2, rfl, t, ht, rfl, bs', hB, rfl⟩ := h
            exact ⟨sz 2, fun v => ⟨t, bs', ht, rfl, hB, rfl⟩⟩
          obtain ⟨wy, bs5, hwy, rfl, hB5, rfl⟩ := h
          refine ⟨.int (m : Nat), .int (wy : Nat), rfl, fun v8 v9 => ?_⟩
          have hm10 : m ≤ 10 := by omega
          have hm1 := hsg.1.n1
          let g : Nat → Nat → Nat := fun x y => if x < m then (if y < m then f x y else if wy = 0 then x else m) else (if wy = 0 then y else m)
          refine ex_let (d := .tup ((List.range m).map fun x => rowD (m + 1) (g x))) (ev_then (ev_lcR (n := m) (F := fun x => rowD (m + 1) (g x)) (ev_var rfl) (by omega) (by decide) fun x vx hx => ?_) un_tupL) fun vt2 => ?_
          · have hlast : EV K ⟨G, H, some b⟩ (tTup (tCons (tIf (tTest (tOp rEq (tVar 9) (tC (V.int 0)))) (tVar 12) (tVar 8)) tNil)) [Sl.own b bs5, Sl.val v1 (.int most), Sl.val vt (tblD m f), Sl.val v3 (.int (number : Nat)), Sl.un, Sl.un, Sl.un, Sl.un, Sl.val v8 (.int (m : Nat)), Sl.val v9 (.int (wy : Nat)), Sl.un, Sl.un, Sl.val vx (.int (x : Nat))] (.tup [.int ((if wy = 0 then x else m : Nat) : Int)]) :=
              ev_tup (ea_cons (ev_if (et_test (ev_op (ev_var rfl) ev_int op_eqI)) (fun z => ev_is (ev_var rfl) (by have := of_decide_eq_true z; rw [if_pos (by omega)])) fun z => ev_is (ev_var rfl) (by have := of_decide_eq_false z; rw [if_neg (by omega)])) ea_nil) (sz 1)
            refine ev_is (ev_op (ev_tbl (ev_var rfl) (ev_var rfl) hx) hlast (op_catTD (by simp; rw [sizeLine_eq]; omega) (fun z => ?_) (fun z => nomatch z))) ?_
            · have := congrArg List.length z
              simp at this
              omega
            · rw [row_more]
              refine rowD_congr fun y hy => ?_
              show _ = if x < m then _ else _
              rw [if_pos hx]
          · refine ex_asg (d := tblD (m + 1) g) (ev_is (ev_op (ev_var rfl) (y := .tup [rowD (m + 1) (g m)]) (ev_tup (ea_cons (ev_if (et_test (ev_op (ev_var rfl) ev_int op_eqI)) (fun z => ?_) fun z => ?_) ea_nil) (sz 1)) (op_catTD (by simp; rw [sizeLine_eq]; omega) (fun z => ?_) (fun z => nomatch z))) tbl_more) fun v => ⟨bs5, v, m + 1, g, _, _, ?_, by omega, hB5, rfl⟩
            · have hw := of_decide_eq_true z
              refine ev_is (ev_op (ev_tupRg1 (ev_var rfl) (by omega) (by omega)) (ev_tup (ea_cons (ev_var rfl) ea_nil) (sz 1)) (op_catTD (by rw [rgD_length]; simp; rw [sizeLine_eq]; omega) (fun z => ?_) (fun z => nomatch z))) ?_
              · have := congrArg List.length z
                rw [rgD_length] at this
                simp at this
                omega
              · rw [Int.toNat_natCast, rgD_nat]
                refine (row_more (n := m) (f := fun y => y) (y := m)).trans (rowD_congr fun y hy => ?_)
                show _ = if m < m then _ else _
                rw [if_neg (Nat.lt_irrefl m), if_pos (show wy = 0 by omega)]
                split <;> omega
            · have hw := of_decide_eq_false z
              refine ev_is (ev_op (ev_tup (ea_cons (ev_var rfl) ea_nil) (sz 1)) (ev_op (ev_var rfl) (ev_int (i := 1)) op_addI) (op_repTD (by omega) (by omega) (fun z => nomatch z) (by simp))) ?_
              rw [show ((m : Int) + 1).toNat = m + 1 by omega, rep_map]
              refine rowD_congr (f := fun _ => m) fun y hy => ?_
              show _ = if m < m then _ else _
              rw [if_neg (Nat.lt_irrefl m), if_neg (by omega)]
            · have := congrArg List.length z
              simp at this
              omega
            · have hs : MP.Semi (m + 1) g := by
                by_cases hw : wy = 0
                · refine (MP.semi_id hsg.2).congr fun x y hx hy => ?_
                  show (if x < m then _ else _) = MP.idF m f x y
                  unfold MP.idF
                  rw [if_pos hw, if_pos hw]
                · refine (MP.semi_ze hsg.2).congr fun x y hx hy => ?_
                  show (if x < m then _ else _) = MP.zeF m f x y
                  unfold MP.zeF
                  rw [if_neg hw, if_neg hw]
              exact SgOk.of hs (by omega) (by omega)
        · cases z
      · rcases h with ⟨hlt, bs4, hB4, rfl⟩ | ⟨_, _, rfl⟩
        · exact ex_next ⟨bs4, vt, m, f, _, _, hsg, hm, hB4.mono (by omega), rfl⟩
        · exact ex_next ⟨bs3, vt, m, f, _, _, hsg, hm, hB3.mono (by omega), rfl⟩
    obtain ⟨bs4, vt, m, f, s8, s9, hsg, hm, hB4, rfl⟩ := h
    refine ex_forget 8 (ex_forget 9 ?_)
    have hm10 := hsg.1.n10
    refine ex_retX (xe_call (P := fun _ d e => IsSg most d ∧ ∃ bs', BoxD (n + 72) bs' ∧ e[0]? = some (.own b bs')) (xa_ev (d1 := tblD m f) (ev_var rfl) (xe_callB (Pd := fun d => ∃ ns, d = .lst (lstN ns) ∧ ns.Perm (List.range m)) rfl hB4 (by omega) (ea_cons (ev_lstRg1 (ev_cb (ea_cons (ev_var rfl) ea_nil) cb_lenTbl) (by omega) (by omega)) ea_nil) ⟨List.range m, by rw [Int.toNat_natCast, rgD_nat], by simp; omega, fun ns hns => ⟨ns, rfl, hns⟩⟩)) fun vs ds e h => ?_) fun v d e h => ?_
    · obtain ⟨v2, d2, rfl, ⟨ns, rfl, hns⟩, bs5, hB5, rfl⟩ := h
      exact ⟨tblD m (MP.relF f ns), ⟨m, f, ns, rfl, hsg.1, rfl, hns, rfl⟩, fun v => ⟨⟨m, _, SgOk.of (MP.semi_rel hsg.2 hns) hsg.1.n1 hm10, hm, rfl⟩, bs5, hB5, rfl⟩⟩
    · obtain ⟨⟨m', f', hs', hm', rfl⟩, bs5, hB5, he⟩ := h
      exact ⟨hP _ _ hs' hm', bs5, hB5.mono (by omega), he⟩

end
end Kx


set_option Elab.async false
set_option linter.all false
set_option maxRecDepth 100000
set_option maxHeartbeats 2000000
namespace Kx
open PySem PySem.Spec PyProof.Rows L2 DL
section
variable {P : Program} {w : World} {K : PySem.W.Frag} {mg : Str → Option Value} {base : Heap}
/-- equal data, at most n deep -/
def isAtom : D → Bool
  | .non => true | .bl _ => true | .int _ => true | .str _ => true | _ => false
def Sm : Nat → D → D → Prop
  | 0, x, y => x.top = y.top ∧ isAtom y.top = true
  | n + 1, x, y => (x.top = y.top ∧ isAtom y.top = true) ∨ ∃ xs ys, ((x.top = .tup xs ∧ y.top = .tup ys) ∨ (x.top = .lst xs ∧ y.top = .lst ys)) ∧ xs.length = ys.length ∧ ys.length < 10000 ∧ ∀ (i : Nat) (a b : D), xs[i]? = some a → ys[i]? = some b → Sm n a b
def R_same (n : Nat) : List D → D → Prop
  | [x, y], d => Sm n x y ∧ d = .bl true
  | _, _ => False
/-- the same small dict -/
def spSD (K : PySem.W.Frag) : Sp := fun vs H Q _ => ∃ (a : Addr) (kvs : List (Key × V)), vs = [.ref a, .ref a] ∧ H a = some (.dK kvs) ∧ (kvs = [] ∨ ∃ k i, kvs = [(k, .int i)]) ∧ ∀ H', Ex H H' → Q (.bl true) H'
def spSm (K : PySem.W.Frag) : Nat → Sp
  | 0 => fun _ _ _ _ => False
  | n + 1 => fun vs H Q E => spD K (R_same n) vs H Q E ∨ (1 ≤ n ∧ spSD K vs H Q E)
theorem spSm_len {n : Nat} {vs : List V} {H : Hp} {Q : VK} {E : XK} (h : spSm K n vs H Q E) : vs.length = 2 := by
  cases n with
  | zero => exact h.elim
  | succ n =>
    rcases h with ⟨G, ds, d, e, hd, hR, q⟩ | ⟨_, a, kvs, rfl, _⟩
    · rw [hd.length]
      match ds, hR with
      | [_, _], _ => rfl
    · rfl
variable {β : Bas} {env : Env'} {te : TE}
theorem ev_isN {d : D} {t : String} (h : EV K β te env d) (ht : tyD d = some t) : EV K β (tOp rIsN te (tC .non)) env (.bl (decide (t = "NoneType"))) := fun σ G H g Q q =>
  h σ G H g _ fun v G1 H1 t1 dv => ⟨rfl, by
    have e : decide (v = .non) = decide (t = "NoneType") := by
      have dt := Dat.top dv
      rw [← tyD_top] at ht
      have nt := top_no (d := d)
      generalize d.top = y at dt ht nt
      cases dt with
      | non => cases ht; rfl
      | bl => cases ht; rfl
      | int => cases ht; rfl
      | str => cases ht; rfl
      | tup => cases ht; rfl
      | lst => cases ht; rfl
      | dct => cases ht; rfl
      | op => cases ht
      | rng => cases ht
      | exc => cases ht
      | set => cases ht
      | idn a => exact absurd rfl (nt _ _)
    rw [e]
    exact q _ G1 H1 t1 (.bl _)⟩
theorem ev_isT {d : D} {t T : String} {b : Bool} (h : EV K β te env d) (ht : tyD d = some t) (hk : kitB t T = some b) : EV K β (tCB (rIsi K) (tCons te (tCons (tC (.ty T)) tNil))) env (.bl b) :=
  ev_cb (ea_cons h (ea_cons ev_c ea_nil)) (cb_isi ht hk)
def rLenB (K : PySem.W.Frag) : List V → Hp → VK → Prop := fun xs H Q => DL.rLen K xs H Q ∨ ∃ a kvs, xs = [V.ref a] ∧ H a = some (.dK kvs) ∧ Q (.int kvs.length) H
theorem call_lenB {X : Cx} (K : PySem.W.Frag) (h : X.K = K := by rfl) : CallR X (.builtin "len") (rLenB K) := fun pins s σ H xs us Q I r hh => by
  rcases hh with hh | hh
  · exact call_lenK K h pins s σ H xs us Q I r hh
  · exact call_lenD pins s σ H xs us Q I r hh
theorem cb_or1 {r r' : List V → Hp → VK → Prop} {xs : List D} {z : D} (h : CbD K r xs z) : CbD K (fun xs H Q => r xs H Q ∨ r' xs H Q) xs z := fun G H vs e dl Q q => .inl (h G H vs e dl Q q)
theorem cb_lenB {x : D} {ds : List D} (h : x = .tup ds ∨ x = .lst ds) : CbD K (rLenB K) [x] (.int ds.length) := by
  rcases h with rfl | rfl
  · exact cb_or1 cb_lenT
  · exact cb_or1 cb_lenL
theorem ev_callSm {n : Nat} {ta : TA} {a b : D} {E : XK} (he : EVA K β ta env [a, b]) (h : Sm n a b) : EV K β (tCall (spSm K (n + 1)) [] E ta) env (.bl true) := fun σ G H g Q q =>
  he σ G H g _ fun vs G1 H1 t1 d1 => by
    show spSm K (n + 1) (vs ++ []) H1 Q E
    rw [List.append_nil]
    exact .inl ⟨G1, [a, b], _, t1.gh, d1, ⟨h, rfl⟩, fun v G2 H2 t2 dv => q v G2 H2 (t1.trans t2) dv⟩
theorem ev_dlc {m : Nat} {a : Addr} {kds : List (Key × D)} {E : XK} (h0 : env[0]? = some (.val (.ref a) (.dct kds))) (h1 : env[1]? = some (.val (.ref a) (.dct kds))) (hk : kds = [] ∨ ∃ k i, kds = [(k, .int i)]) (hl : env.length = 4) :
    EV K β (tLockE (tLc (iKeys (tVar 1)) (gName 2) (tOr (tB (tDNotIn (tVar 2) (tVar 0))) (tNot (tB (tCall (spSm K (m + 1)) [] E (tCons (tDGet (tVar 0) (tVar 2)) (tCons (tDGet (tVar 1) (tVar 2)) tNil)))))) (tVar 2) [2])) env (.lst []) := fun σ G H g Q q => by
  obtain ⟨o0, z0, rfl, d0⟩ := g.sl.get h0
  obtain ⟨o1, z1, rfl, d1⟩ := g.sl.get h1
  cases d1 with
  | @dct _ kvs _ ga dk =>
  have hH : H a = some (.dK kvs) := g.gh _ _ ga
  have hkv : kvs = [] ∨ ∃ k i, kvs = [(k, V.int i)] := by
    rcases hk with rfl | ⟨k, i, rfl⟩
    · cases dk; exact .inl rfl
    · cases dk with
      | cons x r => cases r; cases x; exact .inr ⟨k, i, rfl⟩
  have lenσ : σ.length = 4 := by
    have : ∀ {σ : Sg} {env : Env'}, SlsOk K β G H σ env → σ.length = env.length := by
      intro σ env s
      induction s with
      | nil => rfl
      | cons _ _ ih => simp [ih]
    rw [this g.sl, hl]
  refine ⟨a, .dK kvs, hH, trivial, fun od => ⟨.ref a, z1, a, od, rfl, .inl ⟨kvs, upd_same, ?_⟩⟩⟩
  intro Dl hD
  have hDa : Dl ≠ a := fun z => by rw [z, upd_same] at hD; cases hD
  have hDH : H Dl = none := by rw [upd_ne hDa] at hD; exact hD
  -- the state between the turns
  refine ⟨fun i mm H' => mm = kvs.length - i ∧ i ≤ kvs.length ∧ H' Dl = some (.lst []) ∧ H' a = some (.frz od (.dK kvs)) ∧ ∀ b o, b ≠ a → H b = some o → H' b = some o, ⟨kvs.length, by simp, Nat.zero_le _, upd_same, by rw [upd_ne (Ne.symm hDa), upd_same], fun b o hb e => ?_⟩, ?_⟩
  · rw [upd_ne (fun z => by rw [z, hDH] at e; cases e), upd_ne hb]; exact e
  rintro i mm H' ⟨rfl, hi, hDl, hfa, hold⟩
  by_cases hlt : i < kvs.length
  · refine .inr ⟨⟨hfa, hlt⟩, fun H' => i + 1 ≤ kvs.length ∧ H' Dl = some (.lst []) ∧ H' a = some (.frz od (.dK kvs)) ∧ ∀ b o, b ≠ a → H b = some o → H' b = some o, fun H'' ⟨z1, z2, z3, z4⟩ => ⟨kvs.length - (i + 1), by omega, rfl, z1, z2, z3, z4⟩, fun x H'' hy => ?_⟩
    obtain ⟨rfl, k, v, hkv2, rfl⟩ := hy
    have hv : ∃ j, v = V.int j := by
      rcases hkv with rfl | ⟨k', j, rfl⟩
      · cases hkv2
      · cases i with
        | zero => cases hkv2; exact ⟨j, rfl⟩
        | succ i => simp at hkv2
    obtain ⟨j, rfl⟩ := hv
    have hval : valV kvs k = some (V.int j) := by
      rcases hkv with rfl | ⟨k', j', rfl⟩
      · cases hkv2
      · cases i with
        | zero => cases hkv2; simp [valV]
        | succ i => simp at hkv2
    refine ⟨wipe_set σ [2] 2 _ (by decide), ?_⟩
    have w0 : ((L2.wipe σ [2]).set 2 (some (kV k)))[0]? = some (some (V.ref a)) := by
      show ((σ.set 2 none).set 2 (some (kV k)))[0]? = _
      rw [List.getElem?_set_ne (by decide), List.getElem?_set_ne (by decide)]; exact z0
    have w1 : ((L2.wipe σ [2]).set 2 (some (kV k)))[1]? = some (some (V.ref a)) := by
      show ((σ.set 2 none).set 2 (some (kV k)))[1]? = _
      rw [List.getElem?_set_ne (by decide), List.getElem?_set_ne (by decide)]; exact z1
    have w2 : ((L2.wipe σ [2]).set 2 (some (kV k)))[2]? = some (some (kV k)) := by
      show ((σ.set 2 none).set 2 (some (kV k)))[2]? = _
      rw [List.getElem?_set_self (by rw [List.length_set, lenσ]; decide)]
    have gt : DGet H'' a (kV k) (some (V.int j)) := .inl ⟨kvs, k, .inr ⟨_, hfa⟩, rfl, hval.symm⟩
    refine ⟨_, w2, _, w0, a, _, rfl, gt, false, rfl, ?_⟩
    show _
    refine ⟨_, w0, _, w2, a, _, rfl, gt, _, w1, _, w2, a, _, rfl, gt, ?_⟩
    refine .inl ⟨fun _ => none, [.int j, .int j], _, (fun _ _ e => by cases e), .cons (.int j) (.cons (.int j) .nil), ⟨?_, rfl⟩, fun v G2 H2 t2 dv => ?_⟩
    · cases m with
      | zero => exact ⟨rfl, rfl⟩
      | succ m => exact .inl ⟨rfl, rfl⟩
    · obtain rfl := dv.blV
      refine ⟨true, rfl, ?_⟩
      show (if (!true) = true then _ else _)
      rw [if_neg (by decide)]
      exact ⟨hlt, t2.hh _ _ hDl, t2.hh _ _ hfa, fun b o hb e => t2.hh _ _ (hold b o hb e)⟩
  · have hil : kvs.length ≤ i := by omega
    refine .inl ⟨⟨hfa, hil⟩, hfa, ?_⟩
    refine q (.ref Dl) (upd G Dl (.lst [])) (upd H' a (.dK kvs)) ⟨.new (g.gh.back hDH), fun b o e => ?_, fun b o e => ?_, fun b e1 e2 => ?_⟩ (.lst upd_same .nil)
    · by_cases hb : b = a
      · rw [hb, upd_same]; rw [hb, hH] at e; exact e
      · rw [upd_ne hb]; exact hold b o hb e
    · by_cases hb : b = Dl
      · rw [hb, upd_same] at e; rw [hb, upd_ne hDa, hDl]; exact e
      · rw [upd_ne hb] at e
        by_cases hb2 : b = a
        · rw [hb2, upd_same]; rw [hb2, ga] at e; exact e
        · rw [upd_ne hb2]; exact hold b o hb2 (g.gh _ _ e)
    · rw [upd_ne (fun z => e2 (by rw [z]; exact hDH))]; exact e1
theorem cb_or2 {r r' : List V → Hp → VK → Prop} {xs : List D} {z : D} (h : CbD K r' xs z) : CbD K (fun xs H Q => r xs H Q ∨ r' xs H Q) xs z := fun G H vs e dl Q q => .inr (h G H vs e dl Q q)
theorem DatK.length {G : Hp} : ∀ {vs : List (Key × V)} {ds : List (Key × D)}, DatK K G vs ds → vs.length = ds.length
  | _, _, .nil => rfl
  | _, _, .cons _ t => by rw [List.length_cons, List.length_cons, DatK.length t]
theorem cb_lenBD {kds : List (Key × D)} : CbD K (rLenB K) [.dct kds] (.int kds.length) := cb_or2 fun G H vs e dl Q q => by
  cases dl with | cons a t =>
  cases t
  cases a with
  | dct h1 h2 => exact ⟨_, _, rfl, e _ _ h1, by rw [DatK.length h2]; exact q _ G H (.refl e) (.int _)⟩
theorem ok_same_step (T : Tx K mg) (n : Nat) (ih : FnOk P w K mg base CX0 n T.f_law_same T.d_law_same p_law_same (spSm K n)) : FnOk P w K mg base CX0 (n + 1) T.f_law_same T.d_law_same p_law_same (spSm K (n + 1)) := by
  refine T.F_law_same.ok sc_law_same (fun vs H Q E h => ?_) (fun cdv A outer s H vs Q E hr h => ?_)
  · exact spSm_len h
  · refine ⟨_, (pss_cons (ps_if (PW.pt (pw_or (pt_cmpR op_isN1 (pv 1) pe_non (nomark _)) (pw_or1 (pt_val (pe_callB (call_isiK K) (by rfl) T.m_isinstance (by decide +kernel) (pa_cons (pv 1) (pa_cons (pe_bltn (v := .ty "bool") (by rfl) T.m_bool (by decide +kernel) rfl) pa_nil))))))) (pss_one (ps_ret (pe_ifExp (pt_cmpR op_isN1 (pv 1) pe_non (nomark _)) (pe_cmpR op_isN1 (pv 0) pe_non (nomark _)) (pe_and (pe_callB (call_isiK K) (by rfl) T.m_isinstance (by decide +kernel) (pa_cons (pv 0) (pa_cons (pe_bltn (v := .ty "bool") (by rfl) T.m_bool (by decide +kernel) rfl) pa_nil))) (pe_one (pe_cmpR op_eq (pe_cmpR op_isBl (pv 0) pe_bl (nomark _)) (pe_cmpR op_isBl (pv 1) pe_bl (nomark _)) (nomark _))))))) pss_nil)
      (pss_cons (ps_if (pt_val (pe_callB (call_isiK K) (by rfl) T.m_isinstance (by decide +kernel) (pa_cons (pv 1) (pa_cons (pe_bltn (v := .ty "int") (by rfl) T.m_int (by decide +kernel) rfl) pa_nil)))) (pss_one (ps_ret (pe_and (pe_callB (call_isiK K) (by rfl) T.m_isinstance (by decide +kernel) (pa_cons (pv 0) (pa_cons (pe_bltn (v := .ty "int") (by rfl) T.m_int (by decide +kernel) rfl) pa_nil))) (pe_and (pe_not (pe_callB (call_isiK K) (by rfl) T.m_isinstance (by decide +kernel) (pa_cons (pv 0) (pa_cons (pe_bltn (v := .ty "bool") (by rfl) T.m_bool (by decide +kernel) rfl) pa_nil)))) (pe_one (pe_cmpR op_eq (pe_op op_sub (pe_callTy call_int1 (by rfl) T.m_int (by decide +kernel) (pa_cons (pv 0) pa_nil)) (pv 1)) pe_int (nomark _))))))) pss_nil)
      (pss_cons (ps_if (pt_val (pe_callB (call_isiK K) (by rfl) T.m_isinstance (by decide +kernel) (pa_cons (pv 1) (pa_cons (pe_bltn (v := .ty "str") (by rfl) T.m_str (by decide +kernel) rfl) pa_nil)))) (pss_one (ps_ret (pe_and (pe_callB (call_isiK K) (by rfl) T.m_isinstance (by decide +kernel) (pa_cons (pv 0) (pa_cons (pe_bltn (v := .ty "str") (by rfl) T.m_str (by decide +kernel) rfl) pa_nil))) (pe_one (pe_cmpR op_eq (pv 0) (pv 1) (nomark _)))))) pss_nil)
      (pss_cons (ps_if (pt_val (pe_callB (call_isiK K) (by rfl) T.m_isinstance (by decide +kernel) (pa_cons (pv 1) (pa_cons (pe_bltn (v := .ty "dict") (by rfl) T.m_dict (by decide +kernel) rfl) pa_nil)))) (pss_cons (ps_if (PW.pt (pw_or (pt_not (pt_val (pe_callB (call_isiK K) (by rfl) T.m_isinstance (by decide +kernel) (pa_cons (pv 0) (pa_cons (pe_bltn (v := .ty "dict") (by rfl) T.m_dict (by decide +kernel) rfl) pa_nil))))) (pw_or1 (pt_cmpR op_ne (pe_callB (call_lenB K) (by rfl) T.m_len (by decide +kernel) (pa_cons (pv 0) pa_nil)) (pe_callB (call_lenB K) (by rfl) T.m_len (by decide +kernel) (pa_cons (pv 1) pa_nil)) (nomark _))))) (pss_one (ps_ret pe_bl)) pss_nil)
      (pss_one (ps_ret (pe_cmpR (op_eqD hr.units) (pe_lock (pe_lc (own := [("key", 2)]) rfl sc_law_same.nd (pi_keys (pv 1)) (blkOk_by (by rfl)) (fun _ _ _ _ _ => pg_name (i := 2) sc_law_same.nd rfl (by first | exact .inl rfl | exact .inr rfl)) (fun _ _ _ _ _ => (pts_one (PW.pt (pw_or (pt_cmp (pc_dnotin (hu_of hr) (pv 2) (pv 0))) (pw_or1 (pt_not (pt_val (pe_call ih (hr.mono (by omega)) (by rfl) T.g_law_same T.F_law_same.kp T.b_law_same .nil pass0 (pa_cons (pe_dget (hu_of hr) (pv 0) (pv 2) (fun _ _ => rfl)) (pa_cons (pe_dget (hu_of hr) (pv 1) (pv 2) (fun _ _ => rfl)) pa_nil)))))))))) (fun _ _ _ _ _ => (pv 2)))) (pe_lst pa_nil) (nomark _))))) pss_nil)
      (pss_cons (ps_if (PW.pt (pw_or (pt_not (pt_val (pe_callB (call_isiTK K) (by rfl) T.m_isinstance (by decide +kernel) (pa_cons (pv 1) (pa_cons (pe_tup (pa_cons (pe_bltn (v := .ty "list") (by rfl) T.m_list (by decide +kernel) rfl) (pa_cons (pe_bltn (v := .ty "tuple") (by rfl) T.m_tuple (by decide +kernel) rfl) pa_nil))) pa_nil))))) (pw_or1 (pt_not (pt_val (pe_callB (call_isiTK K) (by rfl) T.m_isinstance (by decide +kernel) (pa_cons (pv 0) (pa_cons (pe_tup (pa_cons (pe_bltn (v := .ty "list") (by rfl) T.m_list (by decide +kernel) rfl) (pa_cons (pe_bltn (v := .ty "tuple") (by rfl) T.m_tuple (by decide +kernel) rfl) pa_nil))) pa_nil)))))))) (pss_one (ps_ret pe_bl)) pss_nil)
      (pss_cons (ps_if (PW.pt (pw_or (pt_cmpR op_ne (pe_callB (call_isiK K) (by rfl) T.m_isinstance (by decide +kernel) (pa_cons (pv 0) (pa_cons (pe_bltn (v := .ty "list") (by rfl) T.m_list (by decide +kernel) rfl) pa_nil))) (pe_callB (call_isiK K) (by rfl) T.m_isinstance (by decide +kernel) (pa_cons (pv 1) (pa_cons (pe_bltn (v := .ty "list") (by rfl) T.m_list (by decide +kernel) rfl) pa_nil))) (nomark _)) (pw_or1 (pt_cmpR op_ne (pe_callB (call_lenB K) (by rfl) T.m_len (by decide +kernel) (pa_cons (pv 0) pa_nil)) (pe_callB (call_lenB K) (by rfl) T.m_len (by decide +kernel) (pa_cons (pv 1) pa_nil)) (nomark _))))) (pss_one (ps_ret pe_bl)) pss_nil)
      (pss_one (ps_ret (pe_cmpR (op_eqD hr.units) (pe_lc (own := [("k", 3)]) rfl sc_law_same.nd (pi_range1 (by rfl) T.m_range (pa_cons (pe_callB (call_lenB K) (by rfl) T.m_len (by decide +kernel) (pa_cons (pv 1) pa_nil)) pa_nil)) (blkOk_by (by rfl)) (fun _ _ _ _ _ => pg_name (i := 3) sc_law_same.nd rfl (by first | exact .inl rfl | exact .inr rfl)) (fun _ _ _ _ _ => (pts_one (pt_not (pt_val (pe_call ih (hr.mono (by omega)) (by rfl) T.g_law_same T.F_law_same.kp T.b_law_same .nil pass0 (pa_cons (pe_ix (ix_seqK K) (pv 0) (pv 3) (fun _ _ => rfl)) (pa_cons (pe_ix (ix_seqK K) (pv 1) (pv 3) (fun _ _ => rfl)) pa_nil))))))) (fun _ _ _ _ _ => (pv 3))) (pe_lst pa_nil) (nomark _)))))))))), ?_⟩
    rcases h with ⟨G, ds, d, e, hd, hR, q⟩ | ⟨hn, a, kvs, rfl, ha, hk, q⟩
    · have hl : ∃ x0 x1, ds = [x0, x1] := by
        match ds, hR with
        | [x0, x1], _ => exact ⟨x0, x1, rfl⟩
      obtain ⟨x0, x1, rfl⟩ := hl
      cases hd with
      | @cons v0 vs0 _ _ dv0 hd =>
      cases hd with
      | @cons v1 vs1 _ _ dv1 hd =>
      cases hd
      obtain ⟨hS, rfl⟩ := hR
      refine EX.fin (W := fun _ _ _ _ => False) (good_start e (.cons dv0 (.cons dv1 .nil)) n_law_same) q ?_
      show EX K ⟨G, H, none⟩ _ _ [Sl.val v0 x0, Sl.val v1 x1, Sl.un, Sl.un] _
      have tst : ∀ {t : String} {c : Bool}, tyD x1 = some t → kitB t "bool" = some c → EVT K ⟨G, H, none⟩ (tOr (tTest (tOp rIsN (tVar 1) (tC .non))) (tB (tCB (rIsi K) (tCons (tVar 1) (tCons (tC (.ty "bool")) tNil))))) [Sl.val v0 x0, Sl.val v1 x1, Sl.un, Sl.un] (decide (t = "NoneType") || c) :=
        fun ht hk => et_or (et_test (ev_isN (ev_var rfl) ht)) fun _ => et_B (ev_isT (ev_var rfl) ht hk)
      have hS' : (x0.top = x1.top ∧ isAtom x1.top = true) ∨ ∃ m, n = m + 1 ∧ ∃ xs ys, ((x0.top = .tup xs ∧ x1.top = .tup ys) ∨ (x0.top = .lst xs ∧ x1.top = .lst ys)) ∧ xs.length = ys.length ∧ ys.length < 10000 ∧ ∀ (i : Nat) (a b : D), xs[i]? = some a → ys[i]? = some b → Sm m a b := by
        cases n with
        | zero => exact .inl hS
        | succ m => exact hS.imp id fun h => ⟨m, rfl, h⟩
      rcases hS' with ⟨he, hA⟩ | ⟨m, rfl, xs, ys, hT, hlen, hlt, hall⟩
      · have hty : tyD x0 = tyD x1 := by rw [← tyD_top, he, tyD_top]
        cases h1 : x1.top with
        | non =>
          have ht : tyD x1 = some "NoneType" := by rw [← tyD_top, h1]; rfl
          refine ex_when (tst (c := false) ht rfl) (fun _ => ?_) fun h => absurd h (by decide)
          exact ex_ret (ev_if (et_test (ev_isN (ev_var rfl) ht)) (fun _ => ev_isN (ev_var rfl) (hty.trans ht)) fun h => absurd h (by decide)) fun v => rfl
        | bl b =>
          have ht : tyD x1 = some "bool" := by rw [← tyD_top, h1]; rfl
          refine ex_when (tst (c := true) ht rfl) (fun _ => ?_) fun h => absurd h (by decide)
          refine ex_ret (ev_if (et_test (ev_isN (ev_var rfl) ht)) (fun h => absurd h (by decide)) fun _ => ?_) fun v => rfl
          refine ev_is (ev_and (b := true) (ev_isT (ev_var rfl) (hty.trans ht) rfl) fun _ => ev_is (ev_op (ev_op (ev_tp (ev_var rfl) (he.trans h1)) ev_bl op_isBD) (ev_op (ev_tp (ev_var rfl) h1) ev_bl op_isBD) op_eqB) ?_) rfl
          simp
        | int i =>
          have ht : tyD x1 = some "int" := by rw [← tyD_top, h1]; rfl
          refine ex_when (tst (c := false) ht rfl) (fun h => absurd h (by decide)) fun _ => ?_
          refine ex_when (et_B (ev_isT (ev_var rfl) ht rfl)) (fun _ => ?_) fun h => absurd h (by decide)
          refine ex_ret (ev_is (ev_and (b := true) (ev_isT (b := true) (ev_var rfl) (hty.trans ht) rfl) fun _ => ev_is (ev_and (ev_not (a := false) (ev_isT (b := false) (ev_var rfl) (hty.trans ht) rfl)) fun _ => ev_op (ev_op (ev_cb (ea_cons (ev_tp (ev_var rfl) (he.trans h1)) ea_nil) cb_int) (ev_tp (ev_var rfl) h1) op_subI) ev_int op_eqI) ?_) rfl) fun v => rfl
          simp
        | str i =>
          have ht : tyD x1 = some "str" := by rw [← tyD_top, h1]; rfl
          refine ex_when (tst (c := false) ht rfl) (fun h => absurd h (by decide)) fun _ => ?_
          refine ex_when (et_B (ev_isT (ev_var rfl) ht rfl)) (fun h => absurd h (by decide)) fun _ => ?_
          refine ex_when (et_B (ev_isT (ev_var rfl) ht rfl)) (fun _ => ?_) fun h => absurd h (by decide)
          refine ex_ret (ev_is (ev_and (ev_isT (b := true) (ev_var rfl) (hty.trans ht) rfl) fun _ => ev_op (ev_tp (ev_var rfl) (he.trans h1)) (ev_tp (ev_var rfl) h1) op_eqStr) ?_) fun v => rfl
          simp
        | _ => rw [h1] at hA; cases hA
      · obtain ⟨ty, L, ht0, ht1, hN, hb, hi, hs, hdd, hL, hTu⟩ : ∃ (ty : String) (L : Bool), tyD x0 = some ty ∧ tyD x1 = some ty ∧ decide (ty = "NoneType") = false ∧ kitB ty "bool" = some false ∧ kitB ty "int" = some false ∧ kitB ty "str" = some false ∧ kitB ty "dict" = some false ∧ kitB ty "list" = some L ∧ kitB ty "tuple" = some (!L) := by
          rcases hT with ⟨a0, a1⟩ | ⟨a0, a1⟩
          · exact ⟨"tuple", false, by rw [← tyD_top, a0]; rfl, by rw [← tyD_top, a1]; rfl, rfl, rfl, rfl, rfl, rfl, rfl, rfl⟩
          · exact ⟨"list", true, by rw [← tyD_top, a0]; rfl, by rw [← tyD_top, a1]; rfl, rfl, rfl, rfl, rfl, rfl, rfl, rfl⟩
        have hx0 : x0.top = .tup xs ∨ x0.top = .lst xs := hT.imp (fun h => h.1) (fun h => h.1)
        have hx1 : x1.top = .tup ys ∨ x1.top = .lst ys := hT.imp (fun h => h.2) (fun h => h.2)
        refine ex_when (tst ht1 hb) (fun h => by rw [hN] at h; cases h) fun _ => ?_
        refine ex_when (et_B (ev_isT (ev_var rfl) ht1 hi)) (fun h => nomatch h) fun _ => ?_
        refine ex_when (et_B (ev_isT (ev_var rfl) ht1 hs)) (fun h => nomatch h) fun _ => ?_
        refine ex_when (et_B (ev_isT (ev_var rfl) ht1 hdd)) (fun h => nomatch h) fun _ => ?_
        refine ex_when (b := false) (et_is (et_or (et_not (et_B (ev_isi2 (ev_var rfl) ht1 hL hTu))) fun _ => et_not (et_B (ev_isi2 (ev_var rfl) ht0 hL hTu))) (by cases L <;> rfl)) (fun h => nomatch h) fun _ => ?_
        refine ex_when (b := false) (et_is (et_or (et_test (ev_op (ev_isT (ev_var rfl) ht0 hL) (ev_isT (ev_var rfl) ht1 hL) op_neB)) fun _ => et_test (ev_op (ev_cb (ea_cons (ev_top (ev_var rfl)) ea_nil) (cb_lenB hx0)) (ev_cb (ea_cons (ev_top (ev_var rfl)) ea_nil) (cb_lenB hx1)) op_neI)) (by rw [hlen]; simp)) (fun h => nomatch h) fun _ => ?_
        have hnil : keep (fun _ => false) (fun _ => D.non) ys.length = [] := by unfold keep; simp
        refine ex_ret (ev_op (ev_is (ev_lcRf (n := ys.length) (f := fun _ => false) (F := fun _ => .non) (ev_cb (ea_cons (ev_top (ev_var rfl)) ea_nil) (cb_lenB hx1)) (by omega) (by decide) fun i v hi => ⟨?_, fun h => nomatch h⟩) (by rw [hnil])) (ev_lst ea_nil (sz 0)) op_eqNil) fun v => rfl
        have e0 : xs[i]? = some xs[i] := List.getElem?_eq_getElem (by omega)
        have e1 : ys[i]? = some ys[i] := List.getElem?_eq_getElem hi
        exact et_is (et_not (et_B (ev_callSm (ea_cons (ev_op (ev_top (ev_var rfl)) (ev_var rfl) (op_ix hx0 (atI_natD e0))) (ea_cons (ev_op (ev_top (ev_var rfl)) (ev_var rfl) (op_ix hx1 (atI_natD e1))) ea_nil)) (hall i _ _ e0 e1)))) rfl
    · obtain ⟨m, rfl⟩ : ∃ m, n = m + 1 := ⟨n - 1, by omega⟩
      let kds : List (Key × D) := kvs.map fun kv => (kv.1, match kv.2 with | .int i => D.int i | _ => D.non)
      have hkd : kds = [] ∨ ∃ k i, kds = [(k, .int i)] := by
        rcases hk with rfl | ⟨k, i, rfl⟩
        · exact .inl rfl
        · exact .inr ⟨k, i, rfl⟩
      let G : Hp := fun b => if b = a then H a else none
      have hG : G a = some (.dK kvs) := by show (if a = a then H a else none) = _; rw [if_pos rfl, ha]
      have e : Ex G H := fun b o z => by
        by_cases hb : b = a
        · rw [hb] at z ⊢; rw [hG] at z; rw [ha]; exact z
        · have : G b = none := if_neg hb
          rw [this] at z; cases z
      have dk : DatK K G kvs kds := by
        rcases hk with rfl | ⟨k, i, rfl⟩
        · exact .nil
        · exact .cons (.int i) .nil
      have dv : Dat K G (.ref a) (.dct kds) := .dct hG dk
      refine EX.fin (W := fun _ _ _ _ => False) (d := .bl true) (good_start e (.cons dv (.cons dv .nil)) n_law_same) (fun v G' H' t dv => by obtain rfl := dv.blV; exact q H' t.hh) ?_
      show EX K ⟨G, H, none⟩ _ _ [Sl.val (.ref a) (.dct kds), Sl.val (.ref a) (.dct kds), Sl.un, Sl.un] _
      refine ex_when (b := false) (et_is (et_or (et_test (ev_isN (t := "dict") (ev_var rfl) rfl)) fun _ => et_B (ev_isT (b := false) (ev_var rfl) rfl rfl)) rfl) (fun h => nomatch h) fun _ => ?_
      refine ex_when (b := false) (et_B (ev_isT (ev_var rfl) rfl rfl)) (fun h => nomatch h) fun _ => ?_
      refine ex_when (b := false) (et_B (ev_isT (ev_var rfl) rfl rfl)) (fun h => nomatch h) fun _ => ?_
      refine ex_when (b := true) (et_B (ev_isT (ev_var rfl) rfl rfl)) (fun _ => ?_) fun h => nomatch h
      refine ex_when (b := false) (et_is (et_or (et_not (et_B (ev_isT (b := true) (ev_var rfl) rfl rfl))) fun _ => et_test (ev_op (ev_cb (ea_cons (ev_var rfl) ea_nil) cb_lenBD) (ev_cb (ea_cons (ev_var rfl) ea_nil) cb_lenBD) op_neI)) (by simp)) (fun h => nomatch h) fun _ => ?_
      exact ex_ret (ev_op (ev_dlc rfl rfl hkd rfl) (ev_lst ea_nil (sz 0)) op_eqNil) fun v => rfl
theorem ok_law_same (T : Tx K mg) : ∀ n, FnOk P w K mg base CX0 n T.f_law_same T.d_law_same p_law_same (spSm K n)
  | 0 => ⟨fun vs H Q E h => h.elim, fun _ _ _ _ _ _ _ _ _ _ _ _ _ h => h.elim⟩
  | n + 1 => ok_same_step T n (ok_law_same T n)

theorem ty_dl {x : D} {t : String} (e : tyD x = some t) : (∃ ds, t = "list" ∧ x.top = .lst ds) ∨ (∃ ds, t = "dict" ∧ x.top = .dct ds) ∨ (kitB t "list" = some false ∧ kitB t "dict" = some false) := by
  have nt := top_no (d := x)
  rw [← tyD_top] at e
  generalize x.top = y at e nt
  cases y with
  | lst ds => cases e; exact .inl ⟨ds, rfl, rfl⟩
  | dct ds => cases e; exact .inr (.inl ⟨ds, rfl, rfl⟩)
  | idn v d => exact absurd rfl (nt v d)
  | op v => cases e
  | rng _ _ => cases e
  | exc _ => cases e
  | set _ _ _ => cases e
  | _ => cases e; exact .inr (.inr ⟨rfl, rfl⟩)
def R_law_copy : List D → D → Prop
  | [x], d => tyD x ≠ none ∧ d = x.top
  | _, _ => False
theorem ok_law_copy (T : Tx K mg) : FnOk P w K mg base CX0 1 T.f_law_copy T.d_law_copy p_law_copy (spD K R_law_copy) := by
  refine T.F_law_copy.ok sc_law_copy (fun vs H Q E h => ?_) (fun cdv A outer s H vs Q E hr h => ?_)
  · obtain ⟨G, ds, d, e, hd, hR, q⟩ := h
    rw [hd.length]
    match ds, hR with
    | [_], _ => rfl
  · refine ⟨_, (pss_one (ps_ret (pe_ifExp (pt_val (pe_callB (call_isiK K) (by rfl) T.m_isinstance (by decide +kernel) (pa_cons (pv 0) (pa_cons (pe_bltn (v := .ty "list") (by rfl) T.m_list (by decide +kernel) rfl) pa_nil)))) (pe_callTy (call_list_ofK K) (by rfl) T.m_list (by decide +kernel) (pa_cons (pv 0) pa_nil)) (pe_ifExp (pt_val (pe_callB (call_isiK K) (by rfl) T.m_isinstance (by decide +kernel) (pa_cons (pv 0) (pa_cons (pe_bltn (v := .ty "dict") (by rfl) T.m_dict (by decide +kernel) rfl) pa_nil)))) (pe_callTy call_dictOf (by rfl) T.m_dict (by decide +kernel) (pa_cons (pv 0) pa_nil)) (pv 0))))), ?_⟩
    obtain ⟨G, ds, d, e, hd, hR, q⟩ := h
    have hl : ∃ x0, ds = [x0] := by
      match ds, hR with
      | [x0], _ => exact ⟨x0, rfl⟩
    obtain ⟨x0, rfl⟩ := hl
    cases hd with
    | @cons v0 vs0 _ _ dv0 hd =>
    cases hd
    refine EX.fin (W := fun _ _ _ _ => False) (good_start e ((.cons dv0 .nil)) n_law_copy) q ?_
    show EX K ⟨G, H, none⟩ _ _ [Sl.val v0 x0] _
    obtain ⟨h1, rfl⟩ := hR
    obtain ⟨t, ht⟩ := Option.ne_none_iff_exists'.mp h1
    rcases ty_dl ht with ⟨es, rfl, hx⟩ | ⟨es, rfl, hx⟩ | ⟨h1, h2⟩
    · exact ex_ret (ev_if (b := true) (et_B (ev_isT (ev_var rfl) ht rfl)) (fun _ => by rw [hx]; exact ev_cb (ea_cons (ev_tp (ev_var rfl) hx) ea_nil) cb_listOf) fun h => nomatch h) fun v => rfl
    · exact ex_ret (ev_if (b := false) (et_B (ev_isT (ev_var rfl) ht rfl)) (fun h => nomatch h) fun _ => ev_if (b := true) (et_B (ev_isT (ev_var rfl) ht rfl)) (fun _ => by rw [hx]; exact ev_cb (ea_cons (ev_tp (ev_var rfl) hx) ea_nil) cb_dictOf) fun h => nomatch h) fun v => rfl
    · exact ex_ret (ev_if (b := false) (et_B (ev_isT (ev_var rfl) ht h1)) (fun h => nomatch h) fun _ => ev_if (b := false) (et_B (ev_isT (ev_var rfl) ht h2)) (fun h => nomatch h) fun _ => ev_top (ev_var rfl)) fun v => rfl
theorem go_t {A B : Prop} {b : Bool} (hb : b = true) (h : A) : if b = true then A else B := by rw [if_pos hb]; exact h
theorem go_f {A B : Prop} {b : Bool} (hb : b = false) (h : B) : if b = true then A else B := by rw [hb, if_neg Bool.false_ne_true]; exact h
theorem atom_top {d : D} (h : isAtom d = true) : d.top = d := by cases d <;> first | rfl | cases h
theorem Sm_atom {d : D} (h : isAtom d = true) : ∀ n, Sm n d d
  | 0 => ⟨rfl, by rw [atom_top h]; exact h⟩
  | n + 1 => .inl ⟨rfl, by rw [atom_top h]; exact h⟩
theorem atomsL {G G' : Hp} : ∀ (ds : List D) (xs : List V), (∀ x ∈ ds, isAtom x = true) → DatL K G xs ds → DatL K G' xs ds
  | [], _, _, h => by cases h; exact .nil
  | d :: ds, _, h, hh => by
    cases hh with
    | cons a t =>
      refine .cons ?_ (atomsL ds _ (fun x hx => h x (List.mem_cons_of_mem _ hx)) t)
      have hd := h d List.mem_cons_self
      cases a with
      | non => exact .non
      | bl b => exact .bl b
      | int b => exact .int b
      | str b => exact .str b
      | _ => cases hd
theorem Sm_atoms {ds : List D} {d : D} (hd : d.top = .lst ds) (hl : ds.length < 10000) (h : ∀ x ∈ ds, isAtom x = true) (n : Nat) : Sm (n + 1) d d :=
  .inr ⟨ds, ds, .inr ⟨hd, hd⟩, rfl, hl, fun i a b ha hb => by
    rw [ha] at hb
    obtain rfl := Option.some.inj hb
    exact Sm_atom (h a (List.mem_of_getElem? ha)) n⟩
theorem same_call {H G : Hp} {v : V} {d : D} {Q : VK} {E : XK} {n : Nat} (e : Ex G H) (dv : Dat K G v d) (hs : Sm n d d) (q : ∀ H', Ex H H' → Q (.bl true) H') : spSm K (n + 1) [v, v] H Q E :=
  .inl ⟨G, [d, d], .bl true, e, .cons dv (.cons dv .nil), ⟨hs, rfl⟩, fun u G1 H1 t1 du => by obtain rfl := du.blV; exact q H1 t1.hh⟩
theorem Sm_mono : ∀ {n : Nat} {x y : D}, Sm n x y → Sm (n + 1) x y
  | 0, _, _, h => .inl h
  | n + 1, x, y, h => by
    rcases h with h | ⟨xs, ys, h1, h2, h3, h4⟩
    · exact .inl h
    · exact .inr ⟨xs, ys, h1, h2, h3, fun i a b ha hb => Sm_mono (h4 i a b ha hb)⟩
theorem Sm_le {x y : D} {n m : Nat} (h : Sm n x y) (l : n ≤ m) : Sm m x y := by
  induction l with
  | refl => exact h
  | step _ ih => exact Sm_mono ih
theorem Sm_items {d : D} {ds : List D} (hd : d.top = .lst ds ∨ d.top = .tup ds) (hl : ds.length < 10000) {n : Nat} (h : ∀ x ∈ ds, Sm n x x) : Sm (n + 1) d d :=
  .inr ⟨ds, ds, hd.elim (fun h => .inr ⟨h, h⟩) (fun h => .inl ⟨h, h⟩), rfl, hl, fun i a b ha hb => by
    rw [ha] at hb
    obtain rfl := Option.some.inj hb
    exact h a (List.mem_of_getElem? ha)⟩
def delG (G : Hp) (a : Addr) : Hp := fun b => if b = a then none else G b
theorem delG_ne {G : Hp} {a b : Addr} (h : b ≠ a) : delG G a b = G b := if_neg h
theorem rd_del {G : Hp} {a b : Addr} {u : HO} (hne : b ≠ a) (h : Rd G b u) : Rd (delG G a) b u := by
  rcases h with h | ⟨o, h⟩
  · exact .inl (by rw [delG_ne hne]; exact h)
  · exact .inr ⟨o, by rw [delG_ne hne]; exact h⟩
/-- the items of a list do not lead back to it -/
theorem unself {G : Hp} {a : Addr} {xs : List V} (hG : G a = some (.lst xs)) : ∀ (n : Nat) (ds : List D), DatL K G xs ds → (∀ x ∈ ds, Sm n x x) → ∃ es, es.length = ds.length ∧ DatL K (delG G a) xs es ∧ ∀ x ∈ es, Sm n x x := by
  intro n
  induction n using Nat.strongRecOn with
  | _ n ih =>
    intro ds hd hs
    by_cases c : ∃ k, k < n ∧ ∃ es, DatL K G xs es ∧ ∀ x ∈ es, Sm k x x
    · obtain ⟨k, hk, es, h1, h2⟩ := c
      obtain ⟨es', h3, h4, h5⟩ := ih k hk es h1 h2
      exact ⟨es', by rw [h3, ← h1.length, hd.length], h4, fun x hx => Sm_le (h5 x hx) (by omega)⟩
    · have key : ∀ m, m ≤ n → ∀ (v : V) (d : D), Sm m d d → Dat K G v d → ∃ d', Dat K (delG G a) v d' ∧ Sm m d' d' := by
        intro m
        induction m with
        | zero =>
          intro _ v d h hv
          obtain ⟨_, h⟩ := h
          have hv' := hv.top
          refine ⟨d.top, ?_, ⟨rfl, by rw [atom_top h]; exact h⟩⟩
          generalize d.top = t at h hv'
          cases hv' with
          | non => exact .non
          | bl b => exact .bl b
          | int b => exact .int b
          | str b => exact .str b
          | _ => cases h
        | succ m ihm =>
          intro hm v d h hv
          have hv' := hv.top
          have hL : ∀ (ys : List V) (cs : List D), DatL K G ys cs → (∀ x ∈ cs, Sm m x x) → ∃ cs', cs'.length = cs.length ∧ DatL K (delG G a) ys cs' ∧ ∀ x ∈ cs', Sm m x x := by
            intro ys cs
            induction cs generalizing ys with
            | nil => intro h _; cases h; exact ⟨[], rfl, .nil, fun x hx => nomatch hx⟩
            | cons c cs ihc =>
              intro h hh
              cases h with
              | cons p q =>
              obtain ⟨c', h1, h2⟩ := ihm (by omega) _ _ (hh c List.mem_cons_self) p
              obtain ⟨cs', h3, h4, h5⟩ := ihc _ q fun x hx => hh x (List.mem_cons_of_mem _ hx)
              exact ⟨c' :: cs', by rw [List.length_cons, List.length_cons, h3], .cons h1 h4, fun x hx => by
                rcases List.mem_cons.mp hx with rfl | hx
                · exact h2
                · exact h5 x hx⟩
          rcases h with ⟨_, h⟩ | ⟨ys, zs, h1, h2, h3, h4⟩
          · refine ⟨d.top, ?_, Sm_le (n := 0) ⟨rfl, by rw [atom_top h]; exact h⟩ (by omega)⟩
            generalize d.top = t at h hv'
            cases hv' with
            | non => exact .non
            | bl b => exact .bl b
            | int b => exact .int b
            | str b => exact .str b
            | _ => cases h
          · rcases h1 with ⟨e1, e2⟩ | ⟨e1, e2⟩
            · rw [e1] at e2 hv'
              cases e2
              have hh : ∀ x ∈ ys, Sm m x x := fun x hx => by
                obtain ⟨i, hi⟩ := List.mem_iff_getElem?.mp hx
                exact h4 i x x hi hi
              obtain ⟨p, us, rfl, hp, hu⟩ := hv'.tupV
              obtain ⟨cs', g1, g2, g3⟩ := hL us ys hu hh
              refine ⟨.tup cs', .tup ?_ g2, Sm_items (.inr rfl) (by rw [g1]; exact h3) g3⟩
              rcases hp with hp | hp
              · refine .inl (rd_del (fun z => ?_) hp)
                subst z
                rcases hp with hp | ⟨o, hp⟩
                · rw [hG] at hp; cases hp
                · rw [hG] at hp; cases hp
              · exact .inr hp
            · rw [e1] at e2 hv'
              cases e2
              have hh : ∀ x ∈ ys, Sm m x x := fun x hx => by
                obtain ⟨i, hi⟩ := List.mem_iff_getElem?.mp hx
                exact h4 i x x hi hi
              obtain ⟨p, us, rfl, hp, hu⟩ := hv'.lstV
              by_cases z : p = a
              · subst z
                rw [hG] at hp
                cases hp
                exact absurd ⟨m, by omega, ys, hu, hh⟩ c
              · obtain ⟨cs', g1, g2, g3⟩ := hL us ys hu hh
                exact ⟨.lst cs', .lst (by rw [delG_ne z]; exact hp) g2, Sm_items (.inl rfl) (by rw [g1]; exact h3) g3⟩
      have all : ∀ (ys : List V) (cs : List D), DatL K G ys cs → (∀ x ∈ cs, Sm n x x) → ∃ cs', cs'.length = cs.length ∧ DatL K (delG G a) ys cs' ∧ ∀ x ∈ cs', Sm n x x := by
        intro ys cs
        induction cs generalizing ys with
        | nil => intro h _; cases h; exact ⟨[], rfl, .nil, fun x hx => nomatch hx⟩
        | cons c cs ihc =>
          intro h hh
          cases h with
          | cons p q =>
          obtain ⟨c', h1, h2⟩ := key n (Nat.le_refl _) _ _ (hh c List.mem_cons_self) p
          obtain ⟨cs', h3, h4, h5⟩ := ihc _ q fun x hx => hh x (List.mem_cons_of_mem _ hx)
          exact ⟨c' :: cs', by rw [List.length_cons, List.length_cons, h3], .cons h1 h4, fun x hx => by
            rcases List.mem_cons.mp hx with rfl | hx
            · exact h2
            · exact h5 x hx⟩
      exact all xs ds hd hs
/-- a value that may stand as a wrong argument -/
def OkV (d : D) : Prop := (Sm 5 d d ∧ ∃ t, tyD d = some t ∧ kitB t "list" = some false ∧ kitB t "dict" = some false) ∨ (∃ ds, d.top = .lst ds ∧ ds.length < 1000 ∧ ∀ x ∈ ds, Sm 4 x x) ∨ d.top = .dct []
def spSO (K : PySem.W.Frag) : Sp := fun vs H Q _ => ∃ (G : Hp) (v : V) (d : D), vs = [v, v] ∧ Ex G H ∧ Dat K G v d ∧ OkV d ∧ ∀ H', Ex H H' → Q (.bl true) H'
theorem ok_law_same_object (T : Tx K mg) : FnOk P w K mg base CX0 7 T.f_law_same_object T.d_law_same_object p_law_same_object (spSO K) := by
  refine T.F_law_same_object.ok sc_law_same_object (fun vs H Q E h => ?_) (fun cdv A outer s H vs Q E hr h => ?_)
  · obtain ⟨_, _, _, rfl, _⟩ := h; rfl
  · refine ⟨_, (pss_cons (ps_if (pt_not (pt_val (pe_call (ok_law_same T 6) (hr.mono (by omega)) (by rfl) T.g_law_same T.F_law_same.kp T.b_law_same .nil pass0 (pa_cons (pv 0) (pa_cons (pv 1) pa_nil))))) (pss_one (ps_ret pe_bl)) pss_nil)
      (pss_cons (ps_if (pt_val (pe_callB (call_isiK K) (by rfl) T.m_isinstance (by decide +kernel) (pa_cons (pv 1) (pa_cons (pe_bltn (v := .ty "list") (by rfl) T.m_list (by decide +kernel) rfl) pa_nil)))) (pss_cons (ps_expr (pe_bmK K PySem.F.plainAttrs_list PySem.F.slot_list_append PySem.F.type_list_append mt_append (pv 1) (pa_cons pe_str pa_nil)))
      (pss_cons (ps_set (i := 2) sc_law_same_object.nd rfl (.inl rfl) (pe_call (ok_law_same T 6) (hr.mono (by omega)) (by rfl) T.g_law_same T.F_law_same.kp T.b_law_same .nil pass0 (pa_cons (pv 0) (pa_cons (pv 1) pa_nil))))
      (pss_cons (ps_expr (pe_bm0 PySem.F.plainAttrs_list PySem.F.slot_list_pop PySem.F.type_list_pop mt_pop (pv 1)))
      (pss_one (ps_ret (pv 2)))))) pss_nil)
      (pss_cons (ps_if (pt_val (pe_callB (call_isiK K) (by rfl) T.m_isinstance (by decide +kernel) (pa_cons (pv 1) (pa_cons (pe_bltn (v := .ty "dict") (by rfl) T.m_dict (by decide +kernel) rfl) pa_nil)))) (pss_cons (ps_dput (hu_of hr) (pv 1) pe_str pe_int (by rfl))
      (pss_cons (ps_set (i := 2) sc_law_same_object.nd rfl (.inl rfl) (pe_call (ok_law_same T 6) (hr.mono (by omega)) (by rfl) T.g_law_same T.F_law_same.kp T.b_law_same .nil pass0 (pa_cons (pv 0) (pa_cons (pv 1) pa_nil))))
      (pss_cons (ps_expr (pe_dpop1 (pv 1) pe_str ⟨by rfl, by rfl, by rfl, by rfl⟩))
      (pss_one (ps_ret (pv 2)))))) pss_nil)
      (pss_one (ps_ret pe_bl))))), ?_⟩
    obtain ⟨G, v, d, rfl, e, dv, hd, q⟩ := h
    rcases hd with ⟨hs, t, ht, h1, h2⟩ | ⟨ds, hx, hl, hat⟩ | hx
    · refine ⟨v, rfl, v, rfl, same_call e dv hs fun H1 e1 => ⟨true, rfl, go_f rfl ?_⟩⟩
      refine ⟨v, rfl, _, _, _, _, false, rfl, .ty _, dv.ty (e.trans e1) ht, kit_ty h1, _, rfl, go_f rfl ?_⟩
      refine ⟨v, rfl, _, _, _, _, false, rfl, .ty _, dv.ty (e.trans e1) ht, kit_ty h2, _, rfl, go_f rfl ?_⟩
      exact q H1 e1
    · have hd := dv.top
      rw [hx] at hd
      cases hd with
      | @lst a xs _ ga dx =>
      have hlx : xs.length < 1000 := by rw [dx.length]; exact hl
      obtain ⟨es, hel, des, hes⟩ := unself ga 4 ds dx hat
      refine ⟨.ref a, rfl, .ref a, rfl, same_call e dv (Sm_items (.inl hx) (by omega) hat) fun H1 e1 => ⟨true, rfl, go_f rfl ?_⟩⟩
      have h1 : H1 a = some (.lst xs) := e1 _ _ (e _ _ ga)
      refine ⟨.ref a, rfl, _, _, _, _, true, rfl, .ty _, .base (.lst h1), kit_ty (a := "list") rfl, _, rfl, go_t rfl ?_⟩
      refine ⟨.ref a, rfl, .inl ⟨rfl, xs, .of h1⟩, a, xs, _, rfl, rfl, h1, small1000 (by omega), ?_⟩
      have eD : Ex (delG G a) (upd (delG G a) a (.lst (xs ++ [.str "more"]))) := .new (if_pos rfl)
      have hat2 : ∀ x ∈ es ++ [D.str "more"], Sm 4 x x := fun x hx => by
        rcases List.mem_append.mp hx with h | h
        · exact hes x h
        · rw [List.mem_singleton.mp h]; exact Sm_atom rfl 4
      refine ⟨.ref a, rfl, .ref a, rfl, same_call (G := upd (delG G a) a (.lst (xs ++ [.str "more"]))) (d := .lst (es ++ [.str "more"])) (fun b o z => ?_) (.lst upd_same ((des.up eD).append (.one (.str _)))) (Sm_items (.inl rfl) (by rw [List.length_append, hel]; show ds.length + 1 < 10000; omega) hat2) fun H3 e3 => ?_⟩
      · by_cases hb : b = a
        · rw [hb, upd_same] at z ⊢; exact z
        · rw [upd_ne hb, delG_ne hb] at z
          rw [upd_ne hb]
          exact e1 _ _ (e _ _ z)
      have h3 : H3 a = some (.lst (xs ++ [.str "more"])) := e3 _ _ upd_same
      refine ⟨.ref a, rfl, .inl ⟨rfl, _, .of h3⟩, a, _, .str "more", rfl, rfl, h3, by simp, ?_⟩
      refine ⟨.bl true, rfl, q _ fun b o z => ?_⟩
      by_cases hb : b = a
      · rw [hb, upd_same, List.dropLast_concat]
        rw [hb, e _ _ ga] at z
        exact z
      · rw [upd_ne hb]
        exact e3 _ _ (by rw [upd_ne hb]; exact e1 _ _ z)
    · have hd := dv.top
      rw [hx] at hd
      cases hd with
      | @dct a kvs _ ga dk =>
      cases dk
      have ha := e _ _ ga
      refine ⟨.ref a, rfl, .ref a, rfl, .inr ⟨by decide, a, [], rfl, ha, .inl rfl, fun H1 e1 => ⟨true, rfl, go_f rfl ?_⟩⟩⟩
      have h1 : H1 a = some (.dK []) := e1 _ _ ha
      refine ⟨.ref a, rfl, _, _, _, _, false, rfl, .ty _, .base (.dK h1), kit_ty (a := "dict") rfl, _, rfl, go_f rfl ?_⟩
      refine ⟨.ref a, rfl, _, _, _, _, true, rfl, .ty _, .base (.dK h1), kit_ty (a := "dict") rfl, _, rfl, go_t rfl ?_⟩
      refine ⟨.ref a, rfl, a, _, rfl, DPut.k (k := .inr "more") h1 (small1000 (by decide)), ?_⟩
      refine ⟨.ref a, rfl, .ref a, rfl, .inr ⟨by decide, a, _, rfl, upd_same, .inr ⟨.inr "more", 1, rfl⟩, fun H3 e3 => ?_⟩⟩
      have h3 : H3 a = some (.dK [(.inr "more", .int 1)]) := e3 _ _ upd_same
      refine ⟨.ref a, rfl, a, rfl, .inl ⟨_, .inl h3⟩, _, .inr "more", _, h3, rfl, rfl, ?_⟩
      refine ⟨.bl true, rfl, q _ fun b o z => ?_⟩
      by_cases hb : b = a
      · rw [hb, upd_same]
        rw [hb, ha] at z
        exact z
      · rw [upd_ne hb]
        exact e3 _ _ (by rw [upd_ne hb]; exact e1 _ _ z)

end
end Kx


set_option Elab.async false
set_option linter.all false
set_option maxRecDepth 100000
set_option maxHeartbeats 2000000
namespace Kx
open PySem PySem.Spec PyProof.Rows L2 DL
section
variable {P : Program} {w : World} {K : PySem.W.Frag} {mg : Str → Option Value} {base : Heap}
theorem cb_listOfT {K : PySem.W.Frag} {ds : List D} : CbD K (rListOf K) [.tup ds] (.lst ds) := fun G H vs e dl Q q => by
  cases dl with | cons dv t =>
  cases t
  obtain ⟨a, xs, rfl, ht, hd⟩ := dv.tupV
  exact ⟨a, xs, rfl, .inr (ex_t e ht), fun p hp => q _ (upd G p (.lst xs)) _ (.new e hp) (.lst upd_same (hd.up (.new (e.back hp))))⟩
theorem ev_catOwn {K : PySem.W.Frag} {β : Bas} {env : Env'} {te : TE} {i : Nat} {a : Addr} {ds es : List D} (hi : env[i]? = some (.own a ds)) (he : EV K β te env (.lst es)) (hl : ds.length + es.length ≤ sizeLine) : EV K β (tOp rCat (tVar i) te) env (.lst (ds ++ es)) := fun σ G H g Q q => by
  obtain ⟨h1, _⟩ := g.own hi
  refine ⟨.ref a, h1, he σ G H g _ fun v2 G2 H2 t2 d2 => ?_⟩
  obtain ⟨_, _, _, xs, h4, h5⟩ := (g.up t2).own hi
  obtain ⟨b, ys, rfl, hb, hy⟩ := d2.lstV
  exact ⟨a, b, xs, ys, rfl, rfl, h4, t2.gh _ _ hb, by rw [h5.length, hy.length]; exact hl, fun p hp => q _ (upd G2 p (.lst (xs ++ ys))) _ (t2.trans (.new t2.gh hp)) (.lst upd_same ((h5.append hy).up (.new (t2.gh.back hp))))⟩
def oddsD (n : Nat) : List D := [.int (n : Nat), .int (-1), .bl true, .non, .str "0", .tup [.int 0], .lst [.int 0], .int (10 ^ 30)]
def oddT (n : Nat) (f : Nat → Nat → Nat) (o : D) : D := .tup ((rowsT n f).dropLast ++ [.tup ((rowL n (f (n - 1))).dropLast ++ [o])])
def noA (n : Nat) (f : Nat → Nat → Nat) : List D := [.non, .int 7, .int (-1), .str "0", .str "", .bl true, .tup [], .lst [], .dct [], .lst (rowsL n f), .lst (rowsT n f), .tup (rowsL n f), .tup (rowsT n f).tail, .tup (rowsT n f ++ [rowD n (f 0)]),
  .tup ([.tup (rowL n (f 0)).tail] ++ (rowsT n f).tail), .tup ([.tup (rowL n (f 0) ++ [.int 0])] ++ (rowsT n f).tail)]
def noC (n : Nat) (f : Nat → Nat → Nat) : List D := [.tup (List.replicate 11 (.tup (List.replicate 11 (.int 0)))), .tup (List.replicate (n + 1) (rowD n (f 0))), .tup [.tup []], .tup (List.replicate n (.int 0))]
def noTabs (n : Nat) (f : Nat → Nat → Nat) : List D := noA n f ++ (oddsD n).map (oddT n f) ++ noC n f
def R_law_no_tables : List D → D → Prop
  | [t], d => ∃ (n : Nat) (f : Nat → Nat → Nat), t = tblD n f ∧ TabOk n f ∧ d = .lst (noTabs n f)
  | _, _ => False
theorem rep1 {α : Type} (a : α) (k : Nat) : (List.replicate k [a]).flatten = List.replicate k a := by
  induction k with
  | zero => rfl
  | succ k ih => rw [List.replicate_succ, List.flatten_cons, ih]; rfl
theorem atI_rowsLast {n : Nat} {f : Nat → Nat → Nat} (h : 1 ≤ n) : atI (rowsT n f) (-1) = some (rowD n (f (n - 1))) := by
  have h2 : (rowsT n f).length = n := by unfold rowsT; simp
  unfold atI ixN
  rw [h2, if_neg (by decide), if_pos (by omega)]
  show (rowsT n f)[((-1 : Int) + (n : Int)).toNat]? = _
  rw [show ((-1 : Int) + (n : Int)).toNat = n - 1 by omega]
  unfold rowsT
  rw [List.getElem?_map, List.getElem?_range (by omega)]
  rfl
theorem ok_law_no_tables (T : Tx K mg) : FnOk P w K mg base CX0 1 T.f_law_no_tables T.d_law_no_tables p_law_no_tables (spD K R_law_no_tables) := by
  refine T.F_law_no_tables.ok sc_law_no_tables (fun vs H Q E h => ?_) (fun cdv A outer s H vs Q E hr h => ?_)
  · obtain ⟨G, ds, d, e, hd, hR, q⟩ := h
    rw [hd.length]
    match ds, hR with
    | [_], _ => rfl
  · refine ⟨_, (pss_cons (ps_set (i := 1) sc_law_no_tables.nd rfl (.inl rfl) (pe_callB (call_lenK K) (by rfl) T.m_len (by decide +kernel) (pa_cons (pv 0) pa_nil)))
      (pss_cons (ps_par (i := 2) (j := 3) rfl sc_law_no_tables.nd rfl rfl (by decide) rfl rfl (pa_cons (pe_lc (own := [("row", 6)]) rfl sc_law_no_tables.nd (pi_tupK K (pv 0)) (blkOk_by (by rfl)) (fun _ _ _ _ _ => pg_name (i := 6) sc_law_no_tables.nd rfl (by first | exact .inl rfl | exact .inr rfl)) (fun _ _ _ _ _ => pts_nil) (fun _ _ _ _ _ => (pe_callTy (call_list_ofK K) (by rfl) T.m_list (by decide +kernel) (pa_cons (pv 6) pa_nil)))) (pa_cons (pe_ix (ix_seqK K) (pv 0) pe_int (fun _ _ => rfl)) pa_nil)) (by rfl))
      (pss_cons (ps_set (i := 4) sc_law_no_tables.nd rfl (.inl rfl) (pe_lst (pa_cons pe_non (pa_cons pe_int (pa_cons (pe_un un_neg pe_int) (pa_cons pe_str (pa_cons pe_str (pa_cons pe_bl (pa_cons (pe_tup pa_nil) (pa_cons (pe_lst pa_nil) (pa_cons pe_dnewK (pa_cons (pv 2) (pa_cons (pe_callTy (call_list_ofK K) (by rfl) T.m_list (by decide +kernel) (pa_cons (pv 0) pa_nil)) (pa_cons (pe_tupleOfK K (by rfl) T.m_tuple (pv 2)) (pa_cons (pe_slice (sl_tupAK K) (pv 0) (po_some pe_int) po_none) (pa_cons (pe_op (op_catAK K) (pv 0) (pe_tup (pa_cons (pv 3) pa_nil))) (pa_cons (pe_op (op_catAK K) (pe_tup (pa_cons (pe_slice (sl_tupAK K) (pv 3) (po_some pe_int) po_none) pa_nil)) (pe_slice (sl_tupAK K) (pv 0) (po_some pe_int) po_none)) (pa_cons (pe_op (op_catAK K) (pe_tup (pa_cons (pe_op (op_catAK K) (pv 3) (pe_tup (pa_cons pe_int pa_nil))) pa_nil)) (pe_slice (sl_tupAK K) (pv 0) (po_some pe_int) po_none)) pa_nil))))))))))))))))))
      (pss_cons (ps_for PassesOwn.never rfl (pi_listK K (pe_lst (pa_cons (pv 1) (pa_cons (pe_un un_neg pe_int) (pa_cons pe_bl (pa_cons pe_non (pa_cons pe_str (pa_cons (pe_tup (pa_cons pe_int pa_nil)) (pa_cons (pe_lst (pa_cons pe_int pa_nil)) (pa_cons (pe_op op_pow pe_int pe_int) pa_nil)))))))))) (pg_name (i := 5) sc_law_no_tables.nd rfl (.inl rfl))
      (pss_one (ps_expr (pe_bmK K PySem.F.plainAttrs_list PySem.F.slot_list_append PySem.F.type_list_append mt_append (pv 4) (pa_cons (pe_op (op_catAK K) (pe_slice (sl_tupAK K) (pv 0) po_none (po_some (pe_un un_neg pe_int))) (pe_tup (pa_cons (pe_op (op_catAK K) (pe_slice (sl_tupAK K) (pe_ix (ix_seqK K) (pv 0) (pe_un un_neg pe_int) (fun _ _ => rfl)) po_none (po_some (pe_un un_neg pe_int))) (pe_tup (pa_cons (pv 5) pa_nil))) pa_nil))) pa_nil)))))
      (pss_one (ps_ret (pe_op op_cat (pv 4) (pe_lst (pa_cons (pe_op (op_repT2K (K := K)) (pe_tup (pa_cons (pe_op (op_repT2K (K := K)) (pe_tup (pa_cons pe_int pa_nil)) pe_int) pa_nil)) pe_int) (pa_cons (pe_op (op_repT2K (K := K)) (pe_tup (pa_cons (pv 3) pa_nil)) (pe_op op_add (pv 1) pe_int)) (pa_cons (pe_tup (pa_cons (pe_tup pa_nil) pa_nil)) (pa_cons (pe_op (op_repT2K (K := K)) (pe_tup (pa_cons pe_int pa_nil)) (pv 1)) pa_nil)))))))))))), ?_⟩
    obtain ⟨G, ds, d, e, hd, hR, q⟩ := h
    have hl : ∃ x0, ds = [x0] := by
      match ds, hR with
      | [x0], _ => exact ⟨x0, rfl⟩
    obtain ⟨x0, rfl⟩ := hl
    cases hd with
    | @cons v0 vs0 _ _ dv0 hd =>
    cases hd
    refine EX.fin (W := fun _ _ _ _ => False) (good_start e ((.cons dv0 .nil)) n_law_no_tables) q ?_
    show EX K ⟨G, H, none⟩ _ _ [Sl.val v0 x0, Sl.un, Sl.un, Sl.un, Sl.un, Sl.un, Sl.un] _
    obtain ⟨n, f, rfl, hf, rfl⟩ := hR
    have h10 := hf.n10
    have h1 := hf.n1
    have hT : ∀ {e : Env'}, e[0]? = some (.val v0 (tblD n f)) → EV K ⟨G, H, none⟩ (tVar 0) e (.tup (rowsT n f)) := fun h => ev_var h
    have lT : (rowsT n f).length = n := by unfold rowsT; simp
    have lR : ∀ x, (rowL n (f x)).length = n := fun x => by unfold rowL; simp
    have lL : (rowsL n f).length = n := by unfold rowsL; simp
    refine ex_let (ev_cb (ea_cons (ev_var rfl) ea_nil) cb_lenTbl) fun v1 => ?_
    refine ex_parS (d1 := .lst (rowsL n f)) (d2 := rowD n (f 0)) (ea_cons ?_ (ea_cons (ev_op (hT rfl) (ev_int (i := 0)) (op_ix (.inl rfl) ?_)) ea_nil)) fun v2 v3 => ?_
    · have := ev_lcA (K := K) (β := ⟨G, H, none⟩) (wi := iTup K (tVar 0)) (env := [Sl.val v0 (tblD n f), Sl.val v1 (.int n), Sl.un, Sl.un, Sl.un, Sl.un, Sl.un]) (ds := rowsT n f) (F := fun x => .lst (rowL n (f x))) (te := tCB (rListOf K) (tCons (tVar 6) tNil)) (vs := [6]) (j := 6) (ei_tup (hT rfl)) (by rw [lT, sizeLine_eq]; omega) (by decide) (fun x v d hd => by
        unfold rowsT at hd
        rw [List.getElem?_map] at hd
        cases hx : (List.range n)[x]? with
        | none => rw [hx] at hd; cases hd
        | some y =>
        rw [hx] at hd
        cases hd
        have hxn : x < n := by have := (List.getElem?_eq_some_iff.mp hx).1; simpa using this
        rw [List.getElem?_range hxn] at hx
        cases hx
        exact ev_cb (ea_cons (ev_var rfl) ea_nil) cb_listOfT)
      rw [lT] at this
      exact this
    · unfold atI ixN
      rw [lT, if_pos (by decide), if_pos (by omega)]
      show (rowsT n f)[(0 : Int).toNat]? = _
      unfold rowsT
      rw [List.getElem?_map, show (0 : Int).toNat = 0 from rfl, List.getElem?_range (by omega)]
      rfl
    have hneT : rowsT n f ≠ [] := fun z => by rw [z] at lT; simp at lT; omega
    refine ex_newS (ds := noA n f) (ea_cons ev_non (ea_cons ev_int (ea_cons (ev_un ev_int un_negI) (ea_cons ev_str (ea_cons ev_str (ea_cons ev_bl (ea_cons (ev_tup ea_nil (sz 0)) (ea_cons (ev_lst ea_nil (sz 0)) (ea_cons ev_dnew (ea_cons (ev_var rfl)
      (ea_cons (ev_cb (ea_cons (hT rfl) ea_nil) cb_listOfT) (ea_cons (ev_then (ev_var rfl) un_tupL) (ea_cons (ev_tl (hT rfl)) (ea_cons (ev_op (hT rfl) (ev_tup (ea_cons (ev_var rfl) ea_nil) (sz 1)) (op_catAD (by rw [lT, sizeLine_eq]; simp; omega)))
      (ea_cons (ev_op (ev_tup (ea_cons (ev_tl (ds := rowL n (f 0)) (ev_var rfl)) ea_nil) (sz 1)) (ev_tl (hT rfl)) (op_catAD (by rw [List.length_tail, lT, sizeLine_eq]; simp; omega)))
      (ea_cons (ev_op (ev_tup (ea_cons (ev_op (x := .tup (rowL n (f 0))) (ev_var rfl) (ev_tup (ea_cons ev_int ea_nil) (sz 1)) (op_catAD (by rw [lR, sizeLine_eq]; simp; omega))) ea_nil) (sz 1)) (ev_tl (hT rfl)) (op_catAD (by rw [List.length_tail, lT, sizeLine_eq]; simp; omega))) ea_nil)))))))))))))))) (sz 16) fun p => ?_
    refine ex_forNS (fun i e => ∃ s, e = [Sl.val v0 (tblD n f), Sl.val v1 (.int n), Sl.val v2 (.lst (rowsL n f)), Sl.val v3 (rowD n (f 0)), Sl.own p (noA n f ++ ((oddsD n).take i).map (oddT n f)), s, Sl.un]) (ei_list (ev_lst (ds := oddsD n) (ea_cons (ev_var rfl) (ea_cons (ev_un ev_int un_negI) (ea_cons ev_bl (ea_cons ev_non (ea_cons ev_str (ea_cons (ev_tup (ea_cons ev_int ea_nil) (sz 1)) (ea_cons (ev_lst (ea_cons ev_int ea_nil) (sz 1)) (ea_cons (ev_op ev_int ev_int (op_powI ⟨by decide, by decide, by decide⟩)) ea_nil)))))))) (sz 8))) ⟨_, rfl⟩ ?_ ?_
    · rintro i env' vo o ho ⟨s, rfl⟩
      have hi8 : i < 8 := (List.getElem?_eq_some_iff.mp ho).1
      have hneR : rowL n (f (n - 1)) ≠ [] := fun z => by have := lR (n - 1); rw [z] at this; simp at this; omega
      refine ex_app rfl (d := oddT n f o) (ev_op (ev_init hneT (hT rfl)) (ev_tup (ea_cons (ev_op (ev_init (ds := rowL n (f (n - 1))) hneR (ev_op (hT rfl) (ev_un ev_int un_negI) (op_ix (.inl rfl) (atI_rowsLast h1)))) (ev_tup (ea_cons (ev_var rfl) ea_nil) (sz 1)) (op_catAD (by rw [List.length_dropLast, lR, sizeLine_eq]; simp; omega))) ea_nil) (sz 1)) (op_catAD (by rw [List.length_dropLast, lT, sizeLine_eq]; simp; omega))) ?_ ⟨Sl.val vo o, ?_⟩
      · rw [List.length_append, List.length_map, List.length_take, sizeLine_eq]
        have : (noA n f).length = 16 := rfl
        omega
      · rw [List.take_add_one, ho, List.map_append, ← List.append_assoc]
        rfl
    · rintro env' ⟨s, rfl⟩
      have e8 : (oddsD n).take (oddsD n).length = oddsD n := List.take_length
      rw [e8]
      refine ex_ret (ev_catOwn (es := noC n f) rfl (ev_lst (ea_cons (ev_is (ev_op (ev_tup (ea_cons (ev_op (ev_tup (ea_cons ev_int ea_nil) (sz 1)) ev_int (op_repTD (by decide) (by decide) (fun z => nomatch z) (by decide))) ea_nil) (sz 1)) ev_int (op_repTD (by decide) (by decide) (fun z => nomatch z) (by decide))) ?_)
        (ea_cons (ev_is (ev_op (ev_tup (ea_cons (ev_var rfl) ea_nil) (sz 1)) (ev_op (ev_var rfl) (ev_int (i := 1)) op_addI) (op_repTD (by omega) (by omega) (fun z => nomatch z) (by simp))) ?_)
        (ea_cons (ev_tup (ea_cons (ev_tup ea_nil (sz 0)) ea_nil) (sz 1)) (ea_cons (ev_is (ev_op (ev_tup (ea_cons ev_int ea_nil) (sz 1)) (ev_var rfl) (op_repTD (by omega) (by omega) (fun z => nomatch z) (by simp))) ?_) ea_nil)))) (sz 4)) ?_) fun v => rfl
      · rw [rep1, rep1]
        rfl
      · rw [rep1, show ((n : Int) + 1).toNat = n + 1 by omega]
      · rw [rep1, Int.toNat_natCast]
      · rw [List.length_append, List.length_map, sizeLine_eq]
        have : (noA n f).length = 16 := rfl
        have : (oddsD n).length = 8 := rfl
        have : (noC n f).length = 4 := rfl
        omega

end
end Kx


set_option Elab.async false
set_option linter.all false
set_option maxRecDepth 100000
set_option maxHeartbeats 2000000
namespace Kx
open PySem PySem.Spec PyProof.Rows L2 DL
section
variable {P : Program} {w : World} {K : PySem.W.Frag} {mg : Str → Option Value} {base : Heap}
/-- what a wrong value is like -/
structure Wr (x : D) : Prop where
  top : x.top = x
  ty : tyD x ≠ none
  ok : OkV x
  t3 : Ty3 x
theorem atom_ty {x : D} (h : isAtom x = true) : tyD x ≠ none := by cases x <;> first | (cases h; done) | (intro z; cases z)
theorem atom_items {x : D} (h : isAtom x = true) : itemsD x = none := by cases x <;> first | (cases h; done) | rfl
theorem sm_ty : ∀ {n : Nat} {x : D}, Sm n x x → tyD x ≠ none := by
  intro n x h
  rw [← tyD_top]
  cases n with
  | zero => exact atom_ty h.2
  | succ n =>
    rcases h with h | ⟨ys, zs, h, _⟩
    · exact atom_ty h.2
    · rcases h with ⟨h, _⟩ | ⟨h, _⟩ <;> rw [h] <;> intro z <;> cases z
theorem itemsD_eq {x : D} {es : List D} (h : x.top = .lst es ∨ x.top = .tup es) : itemsD x = some es := by
  unfold itemsD
  rcases h with h | h <;> rw [h]
theorem itemsD_tt {x y : D} (h : x.top = y) (hy : isAtom y = true) : itemsD x = none := by
  unfold itemsD
  rw [h]
  cases y <;> first | (cases hy; done) | rfl
theorem sm_sub {n : Nat} {x : D} {es : List D} (h : Sm n x x) (he : itemsD x = some es) : es.length < 10000 ∧ ∀ z ∈ es, Sm (n - 1) z z := by
  cases n with
  | zero => rw [itemsD_tt rfl h.2] at he; cases he
  | succ n =>
    rcases h with h | ⟨ys, zs, h, h1, h2, h3⟩
    · rw [itemsD_tt rfl h.2] at he; cases he
    · have e1 : itemsD x = some ys := itemsD_eq (h.elim (fun h => .inr h.1) fun h => .inl h.1)
      have e2 : itemsD x = some zs := itemsD_eq (h.elim (fun h => .inr h.2) fun h => .inl h.2)
      rw [e2] at e1 he
      cases e1
      cases he
      exact ⟨h2, fun z hz => by
        obtain ⟨i, hi⟩ := List.mem_iff_getElem?.mp hz
        exact h3 i z z hi hi⟩
theorem ty3_of {x : D} {n : Nat} (h : Sm n x x) : Ty3 x := ⟨sm_ty h, fun ds hd => by
  obtain ⟨h1, h2⟩ := sm_sub h hd
  exact ⟨h1, fun y hy => ⟨sm_ty (h2 y hy), fun es he => by
    obtain ⟨h3, h4⟩ := sm_sub (h2 y hy) he
    exact ⟨h3, fun z hz => sm_ty (h4 z hz)⟩⟩⟩⟩
theorem wr_atom {x : D} (h : isAtom x = true) : Wr x := ⟨atom_top h, atom_ty h, .inl ⟨Sm_atom h 5, by
  cases x <;> first | (cases h; done) | exact ⟨_, rfl, rfl, rfl⟩⟩, ty3_of (Sm_atom h 5)⟩
theorem wr_tup {ds : List D} (hl : ds.length < 10000) (h : ∀ y ∈ ds, Sm 4 y y) : Wr (.tup ds) :=
  have hs : Sm 5 (.tup ds) (.tup ds) := Sm_items (.inr rfl) hl h
  ⟨rfl, sm_ty hs, .inl ⟨hs, _, rfl, rfl, rfl⟩, ty3_of hs⟩
theorem wr_lst {ds : List D} (hl : ds.length < 1000) (h : ∀ y ∈ ds, Sm 4 y y) : Wr (.lst ds) :=
  have hs : Sm 5 (.lst ds) (.lst ds) := Sm_items (.inl rfl) (by omega) h
  ⟨rfl, sm_ty hs, .inr (.inl ⟨ds, rfl, hl, h⟩), ty3_of hs⟩
theorem wr_dct : Wr (.dct []) := ⟨rfl, (fun z => nomatch z), .inr (.inr rfl), ⟨(fun z => nomatch z), fun ds h => nomatch h⟩⟩
theorem smA {ds : List D} (hl : ds.length < 10000) (h : ∀ y ∈ ds, isAtom y = true) : Sm 4 (.tup ds) (.tup ds) := Sm_le (Sm_items (n := 0) (.inr rfl) hl fun y hy => Sm_atom (h y hy) 0) (by omega)
theorem smAL {ds : List D} (hl : ds.length < 10000) (h : ∀ y ∈ ds, isAtom y = true) : Sm 4 (.lst ds) (.lst ds) := Sm_le (Sm_items (n := 0) (.inl rfl) hl fun y hy => Sm_atom (h y hy) 0) (by omega)
theorem rowL_atoms {n : Nat} {f : Nat → Nat} : ∀ y ∈ rowL n f, isAtom y = true := fun y hy => by
  unfold rowL at hy
  obtain ⟨i, _, rfl⟩ := List.mem_map.mp hy
  rfl
theorem sm_row {n : Nat} {f : Nat → Nat} (h : n < 10000) : Sm 4 (rowD n f) (rowD n f) := smA (ds := rowL n f) (by rw [rowL_len]; exact h) rowL_atoms
theorem rowsT_sm {n : Nat} {f : Nat → Nat → Nat} (h : n < 10000) : ∀ y ∈ rowsT n f, Sm 4 y y := fun y hy => by
  unfold rowsT at hy
  obtain ⟨i, _, rfl⟩ := List.mem_map.mp hy
  exact sm_row h
theorem rowsL_sm {n : Nat} {f : Nat → Nat → Nat} (h : n < 10000) : ∀ y ∈ rowsL n f, Sm 4 y y := fun y hy => by
  unfold rowsL at hy
  obtain ⟨i, _, rfl⟩ := List.mem_map.mp hy
  exact smAL (by rw [rowL_len]; exact h) rowL_atoms
theorem isTab_no {ds : List D} {y : D} (hy : y ∈ ds) (h : isTupOf y ds.length = false ∨ areEl y ds.length = false) : isTab (.tup ds) = false := by
  cases q : isTab (.tup ds) with
  | false => rfl
  | true =>
    have q' : (decide (1 ≤ ds.length) && decide (ds.length ≤ 10) && ds.all fun l => isTupOf l ds.length && areEl l ds.length) = true := q
    simp only [Bool.and_eq_true, List.all_eq_true] at q'
    obtain ⟨h1, h2⟩ := q'.2 y hy
    rcases h with h | h
    · rw [h] at h1; cases h1
    · rw [h] at h2; cases h2
theorem tupOf_no {es : List D} {k : Nat} (h : es.length ≠ k) : isTupOf (.tup es) (k : Nat) = false := by
  show decide ((es.length : Int) = (k : Int)) = false
  exact decide_eq_false (by omega)
theorem odd_sm {n : Nat} {o : D} (hn : n ≤ 10) (h : o ∈ oddsD n) : Sm 3 o o ∧ inRg o 0 ((n : Int) - 1) = false := by
  have a : ∀ {x : D}, isAtom x = true → Sm 3 x x := fun h => Sm_atom h 3
  unfold oddsD at h
  simp only [List.mem_cons, List.not_mem_nil, or_false] at h
  rcases h with rfl | rfl | rfl | rfl | rfl | rfl | rfl | rfl
  · refine ⟨a rfl, ?_⟩
    show (decide ((0 : Int) ≤ (n : Int)) && decide ((n : Int) ≤ (n : Int) - 1)) = false
    rw [decide_eq_false (by omega : ¬ (n : Int) ≤ (n : Int) - 1), Bool.and_false]
  · exact ⟨a rfl, rfl⟩
  · exact ⟨a rfl, rfl⟩
  · exact ⟨a rfl, rfl⟩
  · exact ⟨a rfl, rfl⟩
  · exact ⟨Sm_le (Sm_items (n := 0) (.inr rfl) (by decide) fun y hy => by rw [List.mem_singleton.mp hy]; exact Sm_atom rfl 0) (by decide), rfl⟩
  · exact ⟨Sm_le (Sm_items (n := 0) (.inl rfl) (by decide) fun y hy => by rw [List.mem_singleton.mp hy]; exact Sm_atom rfl 0) (by decide), rfl⟩
  · refine ⟨a rfl, ?_⟩
    show (decide ((0 : Int) ≤ 10 ^ 30) && decide ((10 ^ 30 : Int) ≤ (n : Int) - 1)) = false
    rw [decide_eq_false (by omega : ¬ (10 ^ 30 : Int) ≤ (n : Int) - 1), Bool.and_false]
theorem noTabs_wr {n : Nat} {f : Nat → Nat → Nat} (hf : TabOk n f) {x : D} (h : x ∈ noTabs n f) : Wr x ∧ isTab x = false := by
  have h1 := hf.n1
  have h10 := hf.n10
  have hneT : rowsT n f ≠ [] := fun z => by have := rowsT_len (n := n) (f := f); rw [z] at this; simp at this; omega
  unfold noTabs at h
  rcases List.mem_append.mp h with h | h
  rcases List.mem_append.mp h with h | h
  · unfold noA at h
    simp only [List.mem_cons, List.not_mem_nil, or_false] at h
    rcases h with rfl | rfl | rfl | rfl | rfl | rfl | rfl | rfl | rfl | rfl | rfl | rfl | rfl | rfl | rfl | rfl
    · exact ⟨wr_atom rfl, rfl⟩
    · exact ⟨wr_atom rfl, rfl⟩
    · exact ⟨wr_atom rfl, rfl⟩
    · exact ⟨wr_atom rfl, rfl⟩
    · exact ⟨wr_atom rfl, rfl⟩
    · exact ⟨wr_atom rfl, rfl⟩
    · exact ⟨wr_tup (by decide) (fun y hy => nomatch hy), rfl⟩
    · exact ⟨wr_lst (by decide) (fun y hy => nomatch hy), rfl⟩
    · exact ⟨wr_dct, rfl⟩
    · exact ⟨wr_lst (by rw [rowsL_len]; omega) (rowsL_sm (by omega)), rfl⟩
    · exact ⟨wr_lst (by rw [rowsT_len]; omega) (rowsT_sm (by omega)), rfl⟩
    · refine ⟨wr_tup (by rw [rowsL_len]; omega) (rowsL_sm (by omega)), isTab_no (y := .lst (rowL n (f 0))) ?_ (.inl rfl)⟩
      unfold rowsL
      exact List.mem_map.mpr ⟨0, List.mem_range.mpr (by omega), rfl⟩
    · refine ⟨wr_tup (by rw [List.length_tail, rowsT_len]; omega) fun y hy => rowsT_sm (by omega) y (List.mem_of_mem_tail hy), ?_⟩
      by_cases c : n = 1
      · have e : (rowsT n f).tail = [] := List.eq_nil_of_length_eq_zero (by rw [List.length_tail, rowsT_len]; omega)
        rw [e]; rfl
      · refine isTab_no (y := rowD n (f 1)) ?_ (.inl (tupOf_no (es := rowL n (f 1)) ?_))
        · unfold rowsT
          obtain ⟨k, rfl⟩ : ∃ k, n = k + 2 := ⟨n - 2, by omega⟩
          rw [List.range_succ_eq_map, List.map_cons, List.tail_cons, List.map_map]
          exact List.mem_map.mpr ⟨0, List.mem_range.mpr (by omega), rfl⟩
        · rw [rowL_len, List.length_tail, rowsT_len]; omega
    · refine ⟨wr_tup (by rw [List.length_append, rowsT_len]; simp <;> omega) fun y hy => ?_, isTab_no (y := rowD n (f 0)) (List.mem_append.mpr (.inr List.mem_cons_self)) (.inl (tupOf_no (es := rowL n (f 0)) ?_))⟩
      · rcases List.mem_append.mp hy with hy | hy
        · exact rowsT_sm (by omega) y hy
        · rw [List.mem_singleton.mp hy]; exact sm_row (by omega)
      · rw [rowL_len, List.length_append, rowsT_len]; simp
    · refine ⟨wr_tup (by rw [List.length_append, List.length_tail, rowsT_len]; simp <;> omega) fun y hy => ?_, isTab_no (y := .tup (rowL n (f 0)).tail) (List.mem_append.mpr (.inl List.mem_cons_self)) (.inl (tupOf_no ?_))⟩
      · rcases List.mem_append.mp hy with hy | hy
        · rw [List.mem_singleton.mp hy]; exact smA (by rw [List.length_tail, rowL_len]; omega) fun z hz => rowL_atoms z (List.mem_of_mem_tail hz)
        · exact rowsT_sm (by omega) y (List.mem_of_mem_tail hy)
      · rw [List.length_tail, rowL_len, List.length_append, List.length_tail, rowsT_len]; simp <;> omega
    · refine ⟨wr_tup (by rw [List.length_append, List.length_tail, rowsT_len]; simp <;> omega) fun y hy => ?_, isTab_no (y := .tup (rowL n (f 0) ++ [.int 0])) (List.mem_append.mpr (.inl List.mem_cons_self)) (.inl (tupOf_no ?_))⟩
      · rcases List.mem_append.mp hy with hy | hy
        · rw [List.mem_singleton.mp hy]
          refine smA (by rw [List.length_append, rowL_len]; simp <;> omega) fun z hz => ?_
          rcases List.mem_append.mp hz with hz | hz
          · exact rowL_atoms z hz
          · rw [List.mem_singleton.mp hz]; rfl
        · exact rowsT_sm (by omega) y (List.mem_of_mem_tail hy)
      · rw [List.length_append, rowL_len, List.length_append, List.length_tail, rowsT_len]; simp <;> omega
  · obtain ⟨o, ho, rfl⟩ := List.mem_map.mp h
    obtain ⟨s1, s2⟩ := odd_sm h10 ho
    have hlast : Sm 4 (.tup ((rowL n (f (n - 1))).dropLast ++ [o])) (.tup ((rowL n (f (n - 1))).dropLast ++ [o])) := Sm_items (.inr rfl) (by rw [List.length_append, List.length_dropLast, rowL_len]; simp <;> omega) fun z hz => by
      rcases List.mem_append.mp hz with hz | hz
      · exact Sm_atom (rowL_atoms z ((List.dropLast_sublist _).subset hz)) 3
      · rw [List.mem_singleton.mp hz]; exact s1
    refine ⟨wr_tup (by rw [List.length_append, List.length_dropLast, rowsT_len]; simp <;> omega) fun y hy => ?_, isTab_no (y := .tup ((rowL n (f (n - 1))).dropLast ++ [o])) (List.mem_append.mpr (.inr List.mem_cons_self)) (.inr ?_)⟩
    · rcases List.mem_append.mp hy with hy | hy
      · exact rowsT_sm (by omega) y ((List.dropLast_sublist _).subset hy)
      · rw [List.mem_singleton.mp hy]; exact hlast
    · rw [show ((((rowsT n f).dropLast ++ [D.tup ((rowL n (f (n - 1))).dropLast ++ [o])]).length : Nat) : Int) = (n : Int) by rw [List.length_append, List.length_dropLast, rowsT_len]; simp <;> omega]
      show (((rowL n (f (n - 1))).dropLast ++ [o]).all fun y => inRg y 0 ((n : Int) - 1)) = false
      rw [List.all_append, List.all_cons, s2]
      simp
  · unfold noC at h
    simp only [List.mem_cons, List.not_mem_nil, or_false] at h
    rcases h with rfl | rfl | rfl | rfl
    · exact ⟨wr_tup (by decide) fun y hy => by rw [List.eq_of_mem_replicate hy]; exact smA (by decide) fun z hz => by rw [List.eq_of_mem_replicate hz]; rfl, rfl⟩
    · refine ⟨wr_tup (by simp; omega) fun y hy => by rw [List.eq_of_mem_replicate hy]; exact sm_row (by omega), isTab_no (y := rowD n (f 0)) (List.mem_replicate.mpr ⟨by omega, rfl⟩) (.inl (tupOf_no (es := rowL n (f 0)) ?_))⟩
      rw [rowL_len]; simp
    · exact ⟨wr_tup (by decide) fun y hy => by rw [List.mem_singleton.mp hy]; exact smA (by decide) (fun z hz => nomatch hz), rfl⟩
    · exact ⟨wr_tup (by simp; omega) fun y hy => by rw [List.eq_of_mem_replicate hy]; exact Sm_atom rfl 4, isTab_no (y := .int 0) (List.mem_replicate.mpr ⟨by omega, rfl⟩) (.inl rfl)⟩
theorem tbl_wr {n : Nat} {f : Nat → Nat → Nat} (h : n ≤ 10) : Wr (tblD n f) := wr_tup (ds := rowsT n f) (by rw [rowsT_len]; omega) (rowsT_sm (by omega))
theorem isSemi_no {x : D} (h : isTab x = false) : isSemi x = false := by unfold isSemi; rw [h]; rfl

def nsF (x y : Nat) : Nat := if x = 1 ∧ y = 0 then 1 else 0
def R_law_no_semigroup : List D → D → Prop
  | [m], d => ∃ k : Nat, 2 ≤ k ∧ k ≤ 6 ∧ m = .int (k : Nat) ∧ d = tblD k nsF
  | _, _ => False
theorem ok_law_no_semigroup (T : Tx K mg) : FnOk P w K mg base CX0 1 T.f_law_no_semigroup T.d_law_no_semigroup p_law_no_semigroup (spD K R_law_no_semigroup) := by
  refine T.F_law_no_semigroup.ok sc_law_no_semigroup (fun vs H Q E h => ?_) (fun cdv A outer s H vs Q E hr h => ?_)
  · obtain ⟨G, ds, d, e, hd, hR, q⟩ := h
    rw [hd.length]
    match ds, hR with
    | [_], _ => rfl
  · refine ⟨_, (pss_one (ps_ret (pe_op (op_catAK K) (pe_tup (pa_cons (pe_op (op_repT2K (K := K)) (pe_tup (pa_cons pe_int pa_nil)) (pv 0)) (pa_cons (pe_op (op_catTK K) (pe_tup (pa_cons pe_int pa_nil)) (pe_op (op_repT2K (K := K)) (pe_tup (pa_cons pe_int pa_nil)) (pe_op op_sub (pv 0) pe_int))) pa_nil))) (pe_op (op_repT3K K) (pe_tup (pa_cons (pe_op (op_repT2K (K := K)) (pe_tup (pa_cons pe_int pa_nil)) (pv 0)) pa_nil)) (pe_op op_sub (pv 0) pe_int))))), ?_⟩
    obtain ⟨G, ds, d, e, hd, hR, q⟩ := h
    have hl : ∃ x0, ds = [x0] := by
      match ds, hR with
      | [x0], _ => exact ⟨x0, rfl⟩
    obtain ⟨x0, rfl⟩ := hl
    cases hd with
    | @cons v0 vs0 _ _ dv0 hd =>
    cases hd
    refine EX.fin (W := fun _ _ _ _ => False) (good_start e ((.cons dv0 .nil)) n_law_no_semigroup) q ?_
    show EX K ⟨G, H, none⟩ _ _ [Sl.val v0 x0] _
    obtain ⟨k, h2, h6, rfl, rfl⟩ := hR
    have r0 : EV K ⟨G, H, none⟩ (tOp (rRepT2 K) (tTup (tCons (tC (V.int 0)) tNil)) (tVar 0)) [Sl.val v0 (.int (k : Nat))] (.tup (List.replicate k (.int 0))) := ev_is (ev_op (ev_tup (ea_cons ev_int ea_nil) (sz 1)) (ev_var rfl) (op_repTD (by omega) (by omega) (fun z => nomatch z) (by simp))) (by rw [rep1, Int.toNat_natCast])
    refine ex_ret (ev_is (ev_op (ev_tup (ea_cons r0 (ea_cons (ev_op (ev_tup (ea_cons ev_int ea_nil) (sz 1)) (ev_op (ev_tup (ea_cons ev_int ea_nil) (sz 1)) (ev_op (ev_var rfl) (ev_int (i := 1)) op_subI) (op_repTD (by omega) (by omega) (fun z => nomatch z) (by simp))) (op_catTD (by rw [rep1, sizeLine_eq]; simp <;> omega) (fun z => nomatch z) (fun z => by rw [rep1] at z; have := congrArg List.length z; simp at this; omega))) ea_nil)) (sz 2))
      (ev_op (ev_tup (ea_cons r0 ea_nil) (sz 1)) (ev_is (ev_op (ev_var rfl) (ev_int (i := 2)) op_subI) (show _ = D.int ((k - 2 : Nat) : Int) by congr 1; omega)) (op_repT3D (by omega) (fun z => nomatch z) (by simp))) (op_catAD (by rw [rep1, sizeLine_eq]; simp <;> omega))) ?_) fun v => rfl
    rw [rep1, rep1, show ((k : Int) - 1).toNat = k - 1 by omega]
    obtain rfl | rfl | rfl | rfl | rfl : k = 2 ∨ k = 3 ∨ k = 4 ∨ k = 5 ∨ k = 6 := by omega
    all_goals rfl
theorem isSemi_ns {k : Nat} (h2 : 2 ≤ k) (h6 : k ≤ 6) : isSemi (tblD k nsF) = false := by
  obtain rfl | rfl | rfl | rfl | rfl : k = 2 ∨ k = 3 ∨ k = 4 ∨ k = 5 ∨ k = 6 := by omega
  all_goals rfl

end
end Kx


set_option Elab.async false
set_option linter.all false
set_option maxRecDepth 100000
set_option maxHeartbeats 2000000
namespace Kx
open PySem PySem.Spec PyProof.Rows L2 DL
section
variable {P : Program} {w : World} {K : PySem.W.Frag} {mg : Str → Option Value} {base : Heap}
theorem rowD_N {n : Nat} {g : Nat → Nat} : rowD n g = tupN ((List.range n).map g) := by
  show D.tup ((List.range n).map fun y => D.int (g y : Nat)) = D.tup (((List.range n).map g).map fun i => D.int (i : Nat))
  rw [List.map_map]
  rfl
theorem lstN_map {n : Nat} {g : Nat → Nat} : lstN ((List.range n).map g) = (List.range n).map fun y => D.int (g y : Nat) := by
  unfold lstN
  rw [List.map_map]
  rfl
theorem map_eqN {n : Nat} {g h : Nat → Nat} : decide ((List.range n).map g = (List.range n).map h) = allN n fun x => decide (g x = h x) := bool_congr (by
  rw [decide_eq_true_eq, allN_iff, List.map_inj_left]
  exact ⟨fun z x hx => decide_eq_true (z x (List.mem_range.mpr hx)), fun z x hx => of_decide_eq_true (z x (List.mem_range.mp hx))⟩)
theorem range_map (n : Nat) : List.range n = (List.range n).map fun x => x := (List.map_id _).symm
theorem rep_mapN {n e : Nat} : List.replicate n (D.int (e : Nat)) = lstN ((List.range n).map fun _ => e) := by
  rw [lstN_map]
  induction n with
  | zero => rfl
  | succ n ih => rw [List.replicate_succ', ih, List.range_succ, List.map_append]; rfl
def hd2 : List Nat → List Nat → D
  | a :: _, _ :: _ => .int (a : Nat)
  | _, _ => .non
theorem hd_two {L R O : List Nat} (hO : ∀ e, e ∈ O ↔ e ∈ L ∧ e ∈ R) (hu : ∀ a ∈ L, ∀ b ∈ R, a = b) : hdD O = hd2 L R := by
  cases O with
  | nil =>
    cases L with
    | nil => rfl
    | cons a L =>
      cases R with
      | nil => rfl
      | cons b R =>
        exfalso
        have e := hu a List.mem_cons_self b List.mem_cons_self
        subst e
        have := (hO a).mpr ⟨List.mem_cons_self, List.mem_cons_self⟩
        cases this
  | cons o O =>
    obtain ⟨h1, h2⟩ := (hO o).mp List.mem_cons_self
    cases L with
    | nil => cases h1
    | cons a L =>
      cases R with
      | nil => cases h2
      | cons b R =>
        have e1 := hu o h1 b List.mem_cons_self
        have e2 := hu a List.mem_cons_self b List.mem_cons_self
        show D.int (o : Nat) = D.int (a : Nat)
        rw [e1, e2]
theorem one_mem {n : Nat} {f : Tab} (e : Nat) : e ∈ oneL n f ↔ e ∈ lidL n f ∧ e ∈ ridL n f := by
  unfold oneL lidL ridL
  rw [fltN_mem, fltN_mem, fltN_mem, allN_iff, allN_iff, allN_iff]
  constructor
  · rintro ⟨h, hx⟩
    exact ⟨⟨h, fun x q => (Bool.and_eq_true_iff.mp (hx x q)).1⟩, h, fun x q => decide_eq_true (of_decide_eq_true (Bool.and_eq_true_iff.mp (hx x q)).2).symm⟩
  · rintro ⟨⟨h, h1⟩, _, h2⟩
    exact ⟨h, fun x q => Bool.and_eq_true_iff.mpr ⟨h1 x q, decide_eq_true (of_decide_eq_true (h2 x q)).symm⟩⟩
theorem one_uni {n : Nat} {f : Tab} : ∀ a ∈ lidL n f, ∀ b ∈ ridL n f, a = b := fun a ha b hb => by
  unfold lidL at ha
  unfold ridL at hb
  rw [fltN_mem, allN_iff] at ha hb
  have h1 := of_decide_eq_true (ha.2 b hb.1)
  have h2 := of_decide_eq_true (hb.2 a ha.1)
  rw [← h2, h1]
theorem zer_mem {n : Nat} {f : Tab} (e : Nat) : e ∈ zerL n f ↔ e ∈ lzeL n f ∧ e ∈ rzeL n f := by
  unfold zerL lzeL rzeL
  rw [fltN_mem, fltN_mem, fltN_mem, allN_iff, allN_iff, allN_iff]
  constructor
  · rintro ⟨h, hx⟩
    exact ⟨⟨h, fun x q => (Bool.and_eq_true_iff.mp (hx x q)).1⟩, h, fun x q => decide_eq_true (of_decide_eq_true (Bool.and_eq_true_iff.mp (hx x q)).2).symm⟩
  · rintro ⟨⟨h, h1⟩, _, h2⟩
    exact ⟨h, fun x q => Bool.and_eq_true_iff.mpr ⟨h1 x q, decide_eq_true (of_decide_eq_true (h2 x q)).symm⟩⟩
theorem zer_uni {n : Nat} {f : Tab} : ∀ a ∈ lzeL n f, ∀ b ∈ rzeL n f, a = b := fun a ha b hb => by
  unfold lzeL at ha
  unfold rzeL at hb
  rw [fltN_mem, allN_iff] at ha hb
  have h1 := of_decide_eq_true (ha.2 b hb.1)
  have h2 := of_decide_eq_true (hb.2 a ha.1)
  rw [← h1, h2]
theorem sum_cast : ∀ l : List Nat, (l.map fun x => ((x : Nat) : Int)).sum = ((l.sum : Nat) : Int)
  | [] => rfl
  | a :: l => by
    rw [List.map_cons, List.sum_cons, List.sum_cons, sum_cast l]
    omega
theorem op_notNI {i : Int} : OpD K rNotN (.int i) .non (.bl true) := fun G H v1 v2 e d1 d2 Q q => by
  cases d2
  rw [d1.intV]
  exact ⟨rfl, q _ G H (.refl e) (.bl _)⟩
/-- what the law finds of the units -/
theorem uni_law {n : Nat} {f : Tab} {p : Nat → Bool} (h0 : oneL n f = [] → ∀ x, p x = false) (h1 : ∀ e l, oneL n f = e :: l → ∀ x, p x = !decide ((fltN n fun y => decide (f x y = e) && decide (f y x = e)) = [])) : fltN n p = uniL n f := by
  unfold uniL
  cases q : oneL n f with
  | nil =>
    have h := h0 q
    show fltN n p = []
    unfold fltN
    rw [List.filter_eq_nil_iff]
    exact fun x _ => by rw [h x]; exact Bool.false_ne_true
  | cons e l =>
    refine fltN_congr fun x _ => ?_
    rw [h1 e l q x]
    refine bool_congr ?_
    rw [anyN_iff, Bool.not_eq_true', decide_eq_false_iff_not]
    constructor
    · intro h
      obtain ⟨y, hy⟩ := List.exists_mem_of_ne_nil _ h
      rw [fltN_mem] at hy
      obtain ⟨h1, h2⟩ := Bool.and_eq_true_iff.mp hy.2
      exact ⟨y, hy.1, Bool.and_eq_true_iff.mpr ⟨h1, decide_eq_true (of_decide_eq_true h2).symm⟩⟩
    · rintro ⟨y, hy, h⟩ z
      obtain ⟨h1, h2⟩ := Bool.and_eq_true_iff.mp h
      have : y ∈ fltN n fun y => decide (f x y = e) && decide (f y x = e) := fltN_mem.mpr ⟨hy, Bool.and_eq_true_iff.mpr ⟨h1, decide_eq_true (of_decide_eq_true h2).symm⟩⟩
      rw [z] at this
      cases this
def puni (n : Nat) (f : Tab) (x : Nat) : Bool := match oneL n f with
  | [] => false
  | e :: _ => !decide ((fltN n fun y => decide (f x y = e) && decide (f y x = e)) = [])
theorem puni_eq {n : Nat} {f : Tab} : fltN n (puni n f) = uniL n f := uni_law (fun h x => by unfold puni; rw [h]) fun e l h x => by unfold puni; rw [h]
def R_law_common : List D → D → Prop
  | [x, y], d => ∃ a b : Nat, a ≤ 1000 ∧ b ≤ 1000 ∧ x = .int (a : Nat) ∧ y = .int (b : Nat) ∧ d = .int (Nat.gcd a b : Nat)
  | _, _ => False
theorem ok_law_common (T : Tx K mg) : FnOk P w K mg base CX0 1 T.f_law_common T.d_law_common p_law_common (spD K R_law_common) := by
  refine T.F_law_common.ok sc_law_common (fun vs H Q E h => ?_) (fun cdv A outer s H vs Q E hr h => ?_)
  · obtain ⟨G, ds, d, e, hd, hR, q⟩ := h
    rw [hd.length]
    match ds, hR with
    | [_, _], _ => rfl
  · refine ⟨_, (pss_cons (ps_while PassesOwn.never (pt_cmpR op_gt (pv 1) pe_int (nomark _)) (pss_one (ps_par (i := 0) (j := 1) rfl sc_law_common.nd rfl rfl (by decide) rfl rfl (pa_cons (pv 1) (pa_cons (pe_op op_sub (pv 0) (pe_op op_mul (pe_op op_fdiv (pv 0) (pv 1)) (pv 1))) pa_nil)) (by rfl))))
      (pss_one (ps_ret (pv 0)))), ?_⟩
    obtain ⟨G, ds, d, e, hd, hR, q⟩ := h
    have hl : ∃ x0 x1, ds = [x0, x1] := by
      match ds, hR with
      | [x0, x1], _ => exact ⟨x0, x1, rfl⟩
    obtain ⟨x0, x1, rfl⟩ := hl
    cases hd with
    | @cons v0 vs0 _ _ dv0 hd =>
    cases hd with
    | @cons v1 vs1 _ _ dv1 hd =>
    cases hd
    refine EX.fin (W := fun _ _ _ _ => False) (good_start e ((.cons dv0 (.cons dv1 .nil))) n_law_common) q ?_
    show EX K ⟨G, H, none⟩ _ _ [Sl.val v0 x0, Sl.val v1 x1] _
    obtain ⟨a, b, ha, hb, rfl, rfl, rfl⟩ := hR
    refine ex_whileS (tt := fun e => decide (0 < slotInt e 1)) (fun e => ∃ (p q : Nat) (u1 u2 : V), Nat.gcd p q = Nat.gcd a b ∧ p ≤ 1000 ∧ q ≤ 1000 ∧ e = [Sl.val u1 (.int (p : Nat)), Sl.val u2 (.int (q : Nat))]) (fun e => (slotInt e 1).toNat) ⟨a, b, _, _, rfl, ha, hb, rfl⟩ ?_ ?_ ?_
    · rintro env' ⟨p, q, u1, u2, h1, h2, h3, rfl⟩
      exact et_test (ev_op (ev_var rfl) ev_int op_gtI)
    · rintro env' ⟨p, q, u1, u2, h1, h2, h3, rfl⟩ ht
      have hq : (0 : Int) < ((q : Nat) : Int) := of_decide_eq_true ht
      have hq' : 0 < q := by omega
      have hpq : p / q ≤ 1000 := Nat.le_trans (Nat.div_le_self p q) h2
      have hm : q * (p / q) + p % q = p := Nat.div_add_mod p q
      have hlt : p % q < q := Nat.mod_lt p hq'
      refine ex_par (d1 := .int (q : Nat)) (d2 := .int ((p % q : Nat) : Int)) (ea_cons (ev_var rfl) (ea_cons (ev_is (ev_op (ev_var rfl) (ev_op (ev_op (ev_var rfl) (ev_var rfl) (op_fdivI (by omega))) (ev_var rfl) (op_mulI (.inr ⟨by omega, by omega⟩))) op_subI) ?_) ea_nil)) fun w1 w2 => ⟨⟨q, p % q, w1, w2, ?_, h3, by omega, rfl⟩, ?_⟩
      · congr 1
        have e : ((p : Int) / (q : Int)) * (q : Int) = ((q * (p / q) : Nat) : Int) := by
          rw [int_quo, Int.mul_comm]
          rfl
        rw [e]
        omega
      · rw [← h1, Nat.gcd_comm q, ← Nat.gcd_rec, Nat.gcd_comm]
      · show (((p % q : Nat) : Int)).toNat < (((q : Nat) : Int)).toNat
        omega
    · rintro env' ⟨p, q, u1, u2, h1, h2, h3, rfl⟩ ht
      have hq : ¬ (0 : Int) < ((q : Nat) : Int) := of_decide_eq_false ht
      have : q = 0 := by omega
      subst this
      rw [Nat.gcd_zero_right] at h1
      exact ex_ret (ev_is (ev_var rfl) (by rw [h1])) fun v => rfl
def colsD (n : Nat) (f : Tab) : D := .lst ((List.range n).map fun y => .lst (lstN ((List.range n).map fun x => f x y)))
theorem ev_col {β : Bas} {env : Env'} {ta tb : TE} {n y : Nat} {f : Tab} (h : EV K β ta env (colsD n f)) (hy : EV K β tb env (.int (y : Nat))) (hl : y < n) : EV K β (tOp (rIx K) ta tb) env (.lst (lstN ((List.range n).map fun x => f x y))) :=
  ev_op h hy (op_ix (.inr rfl) (atI_natD (by rw [List.getElem?_map, List.getElem?_range hl]; rfl)))
theorem ev_rowL {β : Bas} {env : Env'} {ta tb : TE} {n x : Nat} {f : Tab} (h : EV K β ta env (tblD n f)) (hx : EV K β tb env (.int (x : Nat))) (hl : x < n) : EV K β (tCB (rListOf K) (tCons (tOp (rIx K) ta tb) tNil)) env (.lst (lstN ((List.range n).map (f x)))) :=
  ev_cb (ea_cons (ev_is (ev_tbl h hx hl) rowD_N) ea_nil) cb_listOfT
def R_law_dues : List D → D → Prop
  | [t], d => ∃ n f, SgOk n f ∧ t = tblD n f ∧ d = .lst (resD n f)
  | _, _ => False
theorem ok_law_dues (T : Tx K mg) : FnOk P w K mg base CX0 2 T.f_law_dues T.d_law_dues p_law_dues (spD K R_law_dues) := by
  refine T.F_law_dues.ok sc_law_dues (fun vs H Q E h => ?_) (fun cdv A outer s H vs Q E hr h => ?_)
  · obtain ⟨G, ds, d, e, hd, hR, q⟩ := h
    rw [hd.length]
    match ds, hR with
    | [_], _ => rfl
  · refine ⟨_, (pss_cons (ps_set (i := 1) sc_law_dues.nd rfl (.inr rfl) (pe_listRg rfl (by rfl) T.m_list (prg_1 (by rfl) T.m_range (pe_callB (call_lenK K) (by rfl) T.m_len (by decide +kernel) (pa_cons (pv 0) pa_nil)))))
      (pss_cons (ps_set (i := 2) sc_law_dues.nd rfl (.inr rfl) (pe_lc (own := [("y", 17)]) rfl sc_law_dues.nd (pi_listK K (pv 1)) (blkOk_by (by rfl)) (fun _ _ _ _ _ => pg_name (i := 17) sc_law_dues.nd rfl (by first | exact .inl rfl | exact .inr rfl)) (fun _ _ _ _ _ => pts_nil) (fun _ _ _ _ _ => (pe_lc (own := [("x", 16)]) rfl sc_law_dues.nd (pi_listK K (pv 1)) (blkOk_by (by rfl)) (fun _ _ _ _ _ => pg_name (i := 16) sc_law_dues.nd rfl (by first | exact .inl rfl | exact .inr rfl)) (fun _ _ _ _ _ => pts_nil) (fun _ _ _ _ _ => (pe_ix (ix_seqK K) (pe_ix (ix_seqK K) (pv 0) (pv 16) (fun _ _ => rfl)) (pv 17) (fun _ _ => rfl)))))))
      (pss_cons (ps_set (i := 3) sc_law_dues.nd rfl (.inl rfl) (pe_tupleOfK K (by rfl) T.m_tuple (pe_lc (own := [("x", 16)]) rfl sc_law_dues.nd (pi_listK K (pv 1)) (blkOk_by (by rfl)) (fun _ _ _ _ _ => pg_name (i := 16) sc_law_dues.nd rfl (by first | exact .inl rfl | exact .inr rfl)) (fun _ _ _ _ _ => (pts_one (pt_cmpR op_eq (pe_ix (ix_seqK K) (pe_ix (ix_seqK K) (pv 0) (pv 16) (fun _ _ => rfl)) (pv 16) (fun _ _ => rfl)) (pv 16) (nomark _)))) (fun _ _ _ _ _ => (pv 16)))))
      (pss_cons (ps_par (i := 4) (j := 5) rfl sc_law_dues.nd rfl rfl (by decide) rfl rfl (pa_cons (pe_tupleOfK K (by rfl) T.m_tuple (pe_lc (own := [("e", 18)]) rfl sc_law_dues.nd (pi_listK K (pv 1)) (blkOk_by (by rfl)) (fun _ _ _ _ _ => pg_name (i := 18) sc_law_dues.nd rfl (by first | exact .inl rfl | exact .inr rfl)) (fun _ _ _ _ _ => (pts_one (pt_cmpR (op_eqDK K hr.units) (pe_callTy (call_list_ofK K) (by rfl) T.m_list (by decide +kernel) (pa_cons (pe_ix (ix_seqK K) (pv 0) (pv 18) (fun _ _ => rfl)) pa_nil)) (pv 1) (nomark _)))) (fun _ _ _ _ _ => (pv 18)))) (pa_cons (pe_tupleOfK K (by rfl) T.m_tuple (pe_lc (own := [("e", 18)]) rfl sc_law_dues.nd (pi_listK K (pv 1)) (blkOk_by (by rfl)) (fun _ _ _ _ _ => pg_name (i := 18) sc_law_dues.nd rfl (by first | exact .inl rfl | exact .inr rfl)) (fun _ _ _ _ _ => (pts_one (pt_cmpR (op_eqDK K hr.units) (pe_ix (ix_seqK K) (pv 2) (pv 18) (fun _ _ => rfl)) (pv 1) (nomark _)))) (fun _ _ _ _ _ => (pv 18)))) pa_nil)) (by rfl))
      (pss_cons (ps_par (i := 6) (j := 7) rfl sc_law_dues.nd rfl rfl (by decide) rfl rfl (pa_cons (pe_tupleOfK K (by rfl) T.m_tuple (pe_lc (own := [("e", 18)]) rfl sc_law_dues.nd (pi_listK K (pv 1)) (blkOk_by (by rfl)) (fun _ _ _ _ _ => pg_name (i := 18) sc_law_dues.nd rfl (by first | exact .inl rfl | exact .inr rfl)) (fun _ _ _ _ _ => (pts_one (pt_cmpR (op_eqDK K hr.units) (pe_callTy (call_list_ofK K) (by rfl) T.m_list (by decide +kernel) (pa_cons (pe_ix (ix_seqK K) (pv 0) (pv 18) (fun _ _ => rfl)) pa_nil)) (pe_op op_rep (pe_lst (pa_cons (pv 18) pa_nil)) (pe_callB (call_lenK K) (by rfl) T.m_len (by decide +kernel) (pa_cons (pv 1) pa_nil))) (nomark _)))) (fun _ _ _ _ _ => (pv 18)))) (pa_cons (pe_tupleOfK K (by rfl) T.m_tuple (pe_lc (own := [("e", 18)]) rfl sc_law_dues.nd (pi_listK K (pv 1)) (blkOk_by (by rfl)) (fun _ _ _ _ _ => pg_name (i := 18) sc_law_dues.nd rfl (by first | exact .inl rfl | exact .inr rfl)) (fun _ _ _ _ _ => (pts_one (pt_cmpR (op_eqDK K hr.units) (pe_ix (ix_seqK K) (pv 2) (pv 18) (fun _ _ => rfl)) (pe_op op_rep (pe_lst (pa_cons (pv 18) pa_nil)) (pe_callB (call_lenK K) (by rfl) T.m_len (by decide +kernel) (pa_cons (pv 1) pa_nil))) (nomark _)))) (fun _ _ _ _ _ => (pv 18)))) pa_nil)) (by rfl))
      (pss_cons (ps_set (i := 8) sc_law_dues.nd rfl (.inr rfl) (pe_ifExp (PW.pt (pw_and (pt_cmpR (op_neD hr.units) (pv 4) (pe_tup pa_nil) (nomark _)) (pw_and1 (pt_cmpR (op_neD hr.units) (pv 5) (pe_tup pa_nil) (nomark _))))) (pe_ix (ix_seqK K) (pv 4) pe_int (fun _ _ => rfl)) pe_non))
      (pss_cons (ps_set (i := 9) sc_law_dues.nd rfl (.inl rfl) (pe_ifExp (PW.pt (pw_and (pt_cmpR (op_neD hr.units) (pv 6) (pe_tup pa_nil) (nomark _)) (pw_and1 (pt_cmpR (op_neD hr.units) (pv 7) (pe_tup pa_nil) (nomark _))))) (pe_ix (ix_seqK K) (pv 6) pe_int (fun _ _ => rfl)) pe_non))
      (pss_cons (ps_set (i := 10) sc_law_dues.nd rfl (.inl rfl) (pe_tupleOfK K (by rfl) T.m_tuple (pe_lc (own := [("x", 16)]) rfl sc_law_dues.nd (pi_listK K (pv 1)) (blkOk_by (by rfl)) (fun _ _ _ _ _ => pg_name (i := 16) sc_law_dues.nd rfl (by first | exact .inl rfl | exact .inr rfl)) (fun _ _ _ _ _ => (pts_one (pt_cmpR (op_eqDK K hr.units) (pe_callTy (call_list_ofK K) (by rfl) T.m_list (by decide +kernel) (pa_cons (pe_ix (ix_seqK K) (pv 0) (pv 16) (fun _ _ => rfl)) pa_nil)) (pe_ix (ix_seqK K) (pv 2) (pv 16) (fun _ _ => rfl)) (nomark _)))) (fun _ _ _ _ _ => (pv 16)))))
      (pss_cons (ps_set (i := 11) sc_law_dues.nd rfl (.inl rfl) (pe_callB (cr_sum rfl) (by rfl) T.m_sum (by decide +kernel) (pa_cons (pe_lc (own := [("x", 16)]) rfl sc_law_dues.nd (pi_listK K (pv 1)) (blkOk_by (by rfl)) (fun _ _ _ _ _ => pg_name (i := 16) sc_law_dues.nd rfl (by first | exact .inl rfl | exact .inr rfl)) (fun _ _ _ _ _ => pts_nil) (fun _ _ _ _ _ => (pe_callB (call_lenK K) (by rfl) T.m_len (by decide +kernel) (pa_cons (pe_lc (own := [("y", 17)]) rfl sc_law_dues.nd (pi_listK K (pv 1)) (blkOk_by (by rfl)) (fun _ _ _ _ _ => pg_name (i := 17) sc_law_dues.nd rfl (by first | exact .inl rfl | exact .inr rfl)) (fun _ _ _ _ _ => (pts_one (pt_cmpR op_eq (pe_ix (ix_seqK K) (pe_ix (ix_seqK K) (pv 0) (pv 16) (fun _ _ => rfl)) (pv 17) (fun _ _ => rfl)) (pe_ix (ix_seqK K) (pe_ix (ix_seqK K) (pv 0) (pv 17) (fun _ _ => rfl)) (pv 16) (fun _ _ => rfl)) (nomark _)))) (fun _ _ _ _ _ => (pv 17))) pa_nil)))) pa_nil)))
      (pss_cons (ps_set (i := 12) sc_law_dues.nd rfl (.inl rfl) (pe_op op_mul (pe_callB (call_lenK K) (by rfl) T.m_len (by decide +kernel) (pa_cons (pv 1) pa_nil)) (pe_callB (call_lenK K) (by rfl) T.m_len (by decide +kernel) (pa_cons (pv 1) pa_nil))))
      (pss_cons (ps_set (i := 13) sc_law_dues.nd rfl (.inl rfl) (pe_call (ok_law_common T) (hr.mono (by omega)) (by rfl) T.g_law_common T.F_law_common.kp T.b_law_common .nil pass0 (pa_cons (pv 11) (pa_cons (pv 12) pa_nil))))
      (pss_cons (ps_set (i := 14) sc_law_dues.nd rfl (.inl rfl) (pe_tup (pa_cons (pe_tupleOfK K (by rfl) T.m_tuple (pe_lc (own := [("x", 16)]) rfl sc_law_dues.nd (pi_listK K (pv 1)) (blkOk_by (by rfl)) (fun _ _ _ _ _ => pg_name (i := 16) sc_law_dues.nd rfl (by first | exact .inl rfl | exact .inr rfl)) (fun _ _ _ _ _ => (pts_one (pt_cmpR op_eq (pe_callB (call_lenS w) (by rfl) T.m_len (by decide +kernel) (pa_cons (pe_callTy (call_setOfK K w) (by rfl) T.m_set (by decide +kernel) (pa_cons (pe_ix (ix_seqK K) (pv 0) (pv 16) (fun _ _ => rfl)) pa_nil)) pa_nil)) (pe_callB (call_lenK K) (by rfl) T.m_len (by decide +kernel) (pa_cons (pv 1) pa_nil)) (nomark _)))) (fun _ _ _ _ _ => (pv 16)))) (pa_cons (pe_tupleOfK K (by rfl) T.m_tuple (pe_lc (own := [("x", 16)]) rfl sc_law_dues.nd (pi_listK K (pv 1)) (blkOk_by (by rfl)) (fun _ _ _ _ _ => pg_name (i := 16) sc_law_dues.nd rfl (by first | exact .inl rfl | exact .inr rfl)) (fun _ _ _ _ _ => (pts_one (pt_cmpR op_eq (pe_callB (call_lenS w) (by rfl) T.m_len (by decide +kernel) (pa_cons (pe_callTy (call_setOfK K w) (by rfl) T.m_set (by decide +kernel) (pa_cons (pe_ix (ix_seqK K) (pv 2) (pv 16) (fun _ _ => rfl)) pa_nil)) pa_nil)) (pe_callB (call_lenK K) (by rfl) T.m_len (by decide +kernel) (pa_cons (pv 1) pa_nil)) (nomark _)))) (fun _ _ _ _ _ => (pv 16)))) pa_nil))))
      (pss_cons (ps_set (i := 15) sc_law_dues.nd rfl (.inl rfl) (pe_tupleOfK K (by rfl) T.m_tuple (pe_lc (own := [("x", 16)]) rfl sc_law_dues.nd (pi_listK K (pv 1)) (blkOk_by (by rfl)) (fun _ _ _ _ _ => pg_name (i := 16) sc_law_dues.nd rfl (by first | exact .inl rfl | exact .inr rfl)) (fun _ _ _ _ _ => (pts_one (PW.pt (pw_and (pt_cmpR op_notN1 (pv 8) pe_non (nomark _)) (pw_and1 (pt_cmpR (op_neDK K hr.units) (pe_lc (own := [("y", 17)]) rfl sc_law_dues.nd (pi_listK K (pv 1)) (blkOk_by (by rfl)) (fun _ _ _ _ _ => pg_name (i := 17) sc_law_dues.nd rfl (by first | exact .inl rfl | exact .inr rfl)) (fun _ _ _ _ _ => (pts_one (PW.pt (pw_and (pt_cmpR op_eq (pe_ix (ix_seqK K) (pe_ix (ix_seqK K) (pv 0) (pv 16) (fun _ _ => rfl)) (pv 17) (fun _ _ => rfl)) (pv 8) (nomark _)) (pw_and1 (pt_cmpR op_eq (pe_ix (ix_seqK K) (pe_ix (ix_seqK K) (pv 0) (pv 17) (fun _ _ => rfl)) (pv 16) (fun _ _ => rfl)) (pv 8) (nomark _))))))) (fun _ _ _ _ _ => (pv 17))) (pe_lst pa_nil) (nomark _))))))) (fun _ _ _ _ _ => (pv 16)))))
      (pss_one (ps_ret (pe_lst (pa_cons (pv 3) (pa_cons (pv 4) (pa_cons (pv 5) (pa_cons (pv 6) (pa_cons (pv 7) (pa_cons (pv 8) (pa_cons (pv 9) (pa_cons (pv 10) (pa_cons (pe_tup (pa_cons (pe_op op_fdiv (pv 11) (pv 13)) (pa_cons (pe_op op_fdiv (pv 12) (pv 13)) pa_nil))) (pa_cons (pv 14) (pa_cons (pv 15) pa_nil))))))))))))))))))))))))))), ?_⟩
    obtain ⟨G, ds, d, e, hd, hR, q⟩ := h
    have hl : ∃ x0, ds = [x0] := by
      match ds, hR with
      | [x0], _ => exact ⟨x0, rfl⟩
    obtain ⟨x0, rfl⟩ := hl
    cases hd with
    | @cons v0 vs0 _ _ dv0 hd =>
    cases hd
    refine EX.fin (W := fun _ _ _ _ => False) (good_start e ((.cons dv0 .nil)) n_law_dues) q ?_
    show EX K ⟨G, H, none⟩ _ _ [Sl.val v0 x0, Sl.un, Sl.un, Sl.un, Sl.un, Sl.un, Sl.un, Sl.un, Sl.un, Sl.un, Sl.un, Sl.un, Sl.un, Sl.un, Sl.un, Sl.un, Sl.un, Sl.un, Sl.un] _
    obtain ⟨n, f, hs, rfl, rfl⟩ := hR
    have hn := hs.1.n10
    have hn1 := hs.1.n1
    have hl : n < 1000000 := by omega
    refine ex_let (d := .lst (lstN (List.range n))) (ev_is (ev_lstRg1 (ev_cb (ea_cons (ev_var rfl) ea_nil) cb_lenTbl) (by omega) (by omega)) (by rw [Int.toNat_natCast, rgD_rng])) fun v1 => ?_
    refine ex_let (d := colsD n f) (ev_mapI (F := fun y => .lst (lstN ((List.range n).map fun x => f x y))) (ei_list (ev_var rfl)) hl (by decide) fun y v hy => ev_is (ev_mapI (F := fun x => .int (f x y : Nat)) (ei_list (ev_var rfl)) hl (by decide) fun x u hx => ev_row (ev_tbl (ev_var rfl) (ev_var rfl) hx) (ev_var rfl) hy) (by rw [lstN_map])) fun v2 => ?_
    refine ex_let (d := tupN (idemL n f)) (ev_then (ev_fltI (p := fun x => decide (f x x = x)) (ei_list (ev_var rfl)) hl (by decide) (fun x v hx => et_test (ev_op (ev_row (ev_tbl (ev_var rfl) (ev_var rfl) hx) (ev_var rfl) hx) (ev_var rfl) op_eqN)) fun x v hx => ev_var rfl) un_tupN) fun v3 => ?_
    show EX K ⟨G, H, none⟩ _ _ [Sl.val v0 (tblD n f), Sl.val v1 (.lst (lstN (List.range n))), Sl.val v2 (colsD n f), Sl.val v3 (tupN (idemL n f)), Sl.un, Sl.un, Sl.un, Sl.un, Sl.un, Sl.un, Sl.un, Sl.un, Sl.un, Sl.un, Sl.un, Sl.un, Sl.un, Sl.un, Sl.un] _
    have eL : (fltN n fun e => decide ((List.range n).map (f e) = List.range n)) = lidL n f := fltN_congr fun e _ => by
      have h := map_eqN (n := n) (g := f e) (h := fun x => x)
      rw [← range_map n] at h
      exact h
    have eR : (fltN n fun e => decide (((List.range n).map fun x => f x e) = List.range n)) = ridL n f := fltN_congr fun e _ => by
      have h := map_eqN (n := n) (g := fun x => f x e) (h := fun x => x)
      rw [← range_map n] at h
      exact h
    have eL2 : (fltN n fun e => decide ((List.range n).map (f e) = (List.range n).map fun _ => e)) = lzeL n f := fltN_congr fun e _ => map_eqN
    have eR2 : (fltN n fun e => decide (((List.range n).map fun x => f x e) = (List.range n).map fun _ => e)) = rzeL n f := fltN_congr fun e _ => map_eqN
    refine ex_parS (d1 := tupN (lidL n f)) (d2 := tupN (ridL n f)) (ea_cons (ev_is (ev_then (ev_fltI (p := fun e => decide ((List.range n).map (f e) = List.range n)) (ei_list (ev_var rfl)) hl (by decide) (fun e v he => et_test (ev_op (ev_rowL (ev_var rfl) (ev_var rfl) he) (ev_var rfl) op_eqLL)) fun e v he => ev_var rfl) un_tupN) (by rw [eL]))
      (ea_cons (ev_is (ev_then (ev_fltI (p := fun e => decide (((List.range n).map fun x => f x e) = List.range n)) (ei_list (ev_var rfl)) hl (by decide) (fun e v he => et_test (ev_op (ev_col (ev_var rfl) (ev_var rfl) he) (ev_var rfl) op_eqLL)) fun e v he => ev_var rfl) un_tupN) (by rw [eR])) ea_nil)) fun v4 v5 => ?_
    show EX K ⟨G, H, none⟩ _ _ [Sl.val v0 (tblD n f), Sl.val v1 (.lst (lstN (List.range n))), Sl.val v2 (colsD n f), Sl.val v3 (tupN (idemL n f)), Sl.val v4 (tupN (lidL n f)), Sl.val v5 (tupN (ridL n f)), Sl.un, Sl.un, Sl.un, Sl.un, Sl.un, Sl.un, Sl.un, Sl.un, Sl.un, Sl.un, Sl.un, Sl.un, Sl.un] _
    have rep : ∀ {env : Env'} {te : TE} {i : Nat} {e : Nat}, EV K ⟨G, H, none⟩ te env (.int (e : Nat)) → EV K ⟨G, H, none⟩ (tVar i) env (.lst (lstN (List.range n))) → EV K ⟨G, H, none⟩ (tOp rRep (tLst (tCons te tNil)) (tCB (DL.rLen K) (tCons (tVar i) tNil))) env (.lst (lstN ((List.range n).map fun _ => e))) := fun {env te i e} h1 h2 =>
      ev_is (ev_op (ev_lst (ea_cons h1 ea_nil) (sz 1)) (ev_is (ev_cb (ea_cons h2 ea_nil) cb_lenL) (by rw [lstR_len])) (op_repLD (k := (n : Nat)) (by omega) (by omega) (by rw [sizeLine_eq]; simp; omega))) (by rw [rep1, Int.toNat_natCast, rep_mapN])
    refine ex_parS (d1 := tupN (lzeL n f)) (d2 := tupN (rzeL n f)) (ea_cons (ev_is (ev_then (ev_fltI (p := fun e => decide ((List.range n).map (f e) = (List.range n).map fun _ => e)) (ei_list (ev_var rfl)) hl (by decide) (fun e v he => et_test (ev_op (ev_rowL (ev_var rfl) (ev_var rfl) he) (rep (ev_var rfl) (ev_var rfl)) op_eqLL)) fun e v he => ev_var rfl) un_tupN) (by rw [eL2]))
      (ea_cons (ev_is (ev_then (ev_fltI (p := fun e => decide (((List.range n).map fun x => f x e) = (List.range n).map fun _ => e)) (ei_list (ev_var rfl)) hl (by decide) (fun e v he => et_test (ev_op (ev_col (ev_var rfl) (ev_var rfl) he) (rep (ev_var rfl) (ev_var rfl)) op_eqLL)) fun e v he => ev_var rfl) un_tupN) (by rw [eR2])) ea_nil)) fun v6 v7 => ?_
    show EX K ⟨G, H, none⟩ _ _ [Sl.val v0 (tblD n f), Sl.val v1 (.lst (lstN (List.range n))), Sl.val v2 (colsD n f), Sl.val v3 (tupN (idemL n f)), Sl.val v4 (tupN (lidL n f)), Sl.val v5 (tupN (ridL n f)), Sl.val v6 (tupN (lzeL n f)), Sl.val v7 (tupN (rzeL n f)), Sl.un, Sl.un, Sl.un, Sl.un, Sl.un, Sl.un, Sl.un, Sl.un, Sl.un, Sl.un, Sl.un] _
    have hdT : ∀ {env : Env'} {i j : Nat} {L R : List Nat}, EV K ⟨G, H, none⟩ (tVar i) env (tupN L) → EV K ⟨G, H, none⟩ (tVar j) env (tupN R) →
        EV K ⟨G, H, none⟩ (tIf (tAnd (tTest (tOp (rNeD K) (tVar i) (tTup tNil))) (tTest (tOp (rNeD K) (tVar j) (tTup tNil)))) (tOp (rIx K) (tVar i) (tC (.int 0))) (tC .non)) env (hd2 L R) := fun {env i j L R} h1 h2 => by
      have t1 := et_test (ev_op h1 (ev_tup ea_nil (sz 0)) (op_neTN (K := K) (l := L)))
      have t2 := et_test (ev_op h2 (ev_tup ea_nil (sz 0)) (op_neTN (K := K) (l := R)))
      cases L with
      | nil => exact ev_if (b := false) (et_is (et_and t1 fun _ => t2) rfl) (fun h => nomatch h) fun _ => ev_non
      | cons a L =>
        cases R with
        | nil => exact ev_if (b := false) (et_is (et_and t1 fun _ => t2) (by simp)) (fun h => nomatch h) fun _ => ev_non
        | cons b R => exact ev_if (b := true) (et_is (et_and t1 fun _ => t2) (by simp)) (fun _ => ev_op h1 (ev_int (i := 0)) (op_ix (.inl rfl) (atI_natD (j := 0) rfl))) fun h => nomatch h
    refine ex_let (d := hdD (oneL n f)) (ev_is (hdT (ev_var rfl) (ev_var rfl)) (hd_two one_mem one_uni).symm) fun v8 => ?_
    show EX K ⟨G, H, none⟩ _ _ [Sl.val v0 (tblD n f), Sl.val v1 (.lst (lstN (List.range n))), Sl.val v2 (colsD n f), Sl.val v3 (tupN (idemL n f)), Sl.val v4 (tupN (lidL n f)), Sl.val v5 (tupN (ridL n f)), Sl.val v6 (tupN (lzeL n f)), Sl.val v7 (tupN (rzeL n f)), Sl.val v8 (hdD (oneL n f)), Sl.un, Sl.un, Sl.un, Sl.un, Sl.un, Sl.un, Sl.un, Sl.un, Sl.un, Sl.un] _
    refine ex_let (d := hdD (zerL n f)) (ev_is (hdT (ev_var rfl) (ev_var rfl)) (hd_two zer_mem zer_uni).symm) fun v9 => ?_
    show EX K ⟨G, H, none⟩ _ _ [Sl.val v0 (tblD n f), Sl.val v1 (.lst (lstN (List.range n))), Sl.val v2 (colsD n f), Sl.val v3 (tupN (idemL n f)), Sl.val v4 (tupN (lidL n f)), Sl.val v5 (tupN (ridL n f)), Sl.val v6 (tupN (lzeL n f)), Sl.val v7 (tupN (rzeL n f)), Sl.val v8 (hdD (oneL n f)), Sl.val v9 (hdD (zerL n f)), Sl.un, Sl.un, Sl.un, Sl.un, Sl.un, Sl.un, Sl.un, Sl.un, Sl.un] _
    refine ex_let (d := tupN (cenL n f)) (ev_is (ev_then (ev_fltI (p := fun x => decide ((List.range n).map (f x) = (List.range n).map fun y => f y x)) (ei_list (ev_var rfl)) hl (by decide) (fun x v hx => et_test (ev_op (ev_rowL (ev_var rfl) (ev_var rfl) hx) (ev_col (ev_var rfl) (ev_var rfl) hx) op_eqLL)) fun x v hx => ev_var rfl) un_tupN) (congrArg tupN (fltN_congr fun x _ => map_eqN))) fun v10 => ?_
    show EX K ⟨G, H, none⟩ _ _ [Sl.val v0 (tblD n f), Sl.val v1 (.lst (lstN (List.range n))), Sl.val v2 (colsD n f), Sl.val v3 (tupN (idemL n f)), Sl.val v4 (tupN (lidL n f)), Sl.val v5 (tupN (ridL n f)), Sl.val v6 (tupN (lzeL n f)), Sl.val v7 (tupN (rzeL n f)), Sl.val v8 (hdD (oneL n f)), Sl.val v9 (hdD (zerL n f)), Sl.val v10 (tupN (cenL n f)), Sl.un, Sl.un, Sl.un, Sl.un, Sl.un, Sl.un, Sl.un, Sl.un] _
    refine ex_let (d := .int (cntN n f : Nat)) (ev_is (ev_cb (ea_cons (ev_is (ev_mapI (F := fun x => .int ((fltN n fun y => decide (f x y = f y x)).length : Nat)) (ei_list (ev_var rfl)) hl (by decide) fun x v hx => ev_is (ev_cb (ea_cons (ev_fltI (p := fun y => decide (f x y = f y x)) (ei_list (ev_var rfl)) hl (by decide) (fun y u hy => et_test (ev_op (ev_row (ev_tbl (ev_var rfl) (ev_var rfl) hx) (ev_var rfl) hy) (ev_row (ev_tbl (ev_var rfl) (ev_var rfl) hy) (ev_var rfl) hx) op_eqN)) fun y u hy => ev_var rfl) ea_nil) cb_lenL) (by rw [lstN_len]))
      (show _ = D.lst ((((List.range n).map fun x => (fltN n fun y => decide (f x y = f y x)).length).map fun x => ((x : Nat) : Int)).map D.int) by rw [List.map_map, List.map_map]; rfl)) ea_nil) cb_sum) (by rw [sum_cast]; rfl)) fun v11 => ?_
    show EX K ⟨G, H, none⟩ _ _ [Sl.val v0 (tblD n f), Sl.val v1 (.lst (lstN (List.range n))), Sl.val v2 (colsD n f), Sl.val v3 (tupN (idemL n f)), Sl.val v4 (tupN (lidL n f)), Sl.val v5 (tupN (ridL n f)), Sl.val v6 (tupN (lzeL n f)), Sl.val v7 (tupN (rzeL n f)), Sl.val v8 (hdD (oneL n f)), Sl.val v9 (hdD (zerL n f)), Sl.val v10 (tupN (cenL n f)), Sl.val v11 (.int (cntN n f : Nat)), Sl.un, Sl.un, Sl.un, Sl.un, Sl.un, Sl.un, Sl.un] _
    refine ex_let (d := .int ((n * n : Nat) : Int)) (ev_is (ev_op (ev_is (ev_cb (ea_cons (ev_var rfl) ea_nil) cb_lenL) (by rw [lstR_len])) (ev_is (ev_cb (ea_cons (ev_var rfl) ea_nil) cb_lenL) (by rw [lstR_len])) (op_mulI (i := (n : Nat)) (j := (n : Nat)) (.inl ⟨by omega, by omega⟩))) rfl) fun v12 => ?_
    show EX K ⟨G, H, none⟩ _ _ [Sl.val v0 (tblD n f), Sl.val v1 (.lst (lstN (List.range n))), Sl.val v2 (colsD n f), Sl.val v3 (tupN (idemL n f)), Sl.val v4 (tupN (lidL n f)), Sl.val v5 (tupN (ridL n f)), Sl.val v6 (tupN (lzeL n f)), Sl.val v7 (tupN (rzeL n f)), Sl.val v8 (hdD (oneL n f)), Sl.val v9 (hdD (zerL n f)), Sl.val v10 (tupN (cenL n f)), Sl.val v11 (.int (cntN n f : Nat)), Sl.val v12 (.int ((n * n : Nat) : Int)), Sl.un, Sl.un, Sl.un, Sl.un, Sl.un, Sl.un] _
    have hle := cnt_le (n := n) (f := f)
    have hnn : n * n ≤ 100 := Nat.mul_le_mul hn hn
    have hpos : 0 < n * n := Nat.mul_pos hn1 hn1
    have hg0 : 0 < Nat.gcd (cntN n f) (n * n) := Nat.gcd_pos_of_pos_right _ hpos
    have hg1 : Nat.gcd (cntN n f) (n * n) ≤ n * n := Nat.gcd_le_right _ hpos
    refine ex_let (ev_call (ea_cons (ev_var rfl) (ea_cons (ev_var rfl) ea_nil)) ⟨cntN n f, n * n, by omega, by omega, rfl, rfl, rfl⟩) fun v13 => ?_
    show EX K ⟨G, H, none⟩ _ _ [Sl.val v0 (tblD n f), Sl.val v1 (.lst (lstN (List.range n))), Sl.val v2 (colsD n f), Sl.val v3 (tupN (idemL n f)), Sl.val v4 (tupN (lidL n f)), Sl.val v5 (tupN (ridL n f)), Sl.val v6 (tupN (lzeL n f)), Sl.val v7 (tupN (rzeL n f)), Sl.val v8 (hdD (oneL n f)), Sl.val v9 (hdD (zerL n f)), Sl.val v10 (tupN (cenL n f)), Sl.val v11 (.int (cntN n f : Nat)), Sl.val v12 (.int ((n * n : Nat) : Int)), Sl.val v13 (.int (Nat.gcd (cntN n f) (n * n) : Nat)), Sl.un, Sl.un, Sl.un, Sl.un, Sl.un] _
    have lenE : ∀ {env : Env'} {i : Nat}, EV K ⟨G, H, none⟩ (tVar i) env (.lst (lstN (List.range n))) → EV K ⟨G, H, none⟩ (tCB (DL.rLen K) (tCons (tVar i) tNil)) env (.int (n : Nat)) := fun h => ev_is (ev_cb (ea_cons h ea_nil) cb_lenL) (by rw [lstR_len])
    refine ex_let (d := cancD n f) (ev_tup (ea_cons (ev_then (ev_fltI (p := fun x => decide (dcount (rowI n f x) = n)) (ei_list (ev_var rfl)) hl (by decide) (fun x v hx => et_test (ev_op (ev_cb (ds := [setW w (rowI n f x)]) (ea_cons (ev_cb (ea_cons (ev_tbl (ev_var rfl) (ev_var rfl) hx) ea_nil) (cb_setRow (by omega))) ea_nil) (cb_lenS (S := fun j => decide (j ∈ rowI n f x)) (n := dcount (rowI n f x)))) (lenE (ev_var rfl)) op_eqN)) fun x v hx => ev_var rfl) un_tupN)
      (ea_cons (ev_then (ev_fltI (p := fun x => decide (dcount (colI n f x) = n)) (ei_list (ev_var rfl)) hl (by decide) (fun x v hx => et_test (ev_op (ev_cb (ds := [setW w (colI n f x)]) (ea_cons (ev_cb (ea_cons (ev_col (ev_var rfl) (ev_var rfl) hx) ea_nil) (cb_setOf (ns := colI n f x) (.inr ?_) ?_)) ea_nil) (cb_lenS (S := fun j => decide (j ∈ colI n f x)) (n := dcount (colI n f x)))) (lenE (ev_var rfl)) op_eqN)) fun x v hx => ev_var rfl) un_tupN) ea_nil)) (sz 2)) fun v14 => ?_
    · rw [lstN_map]
      unfold colI
      rw [List.map_map]
      rfl
    · unfold colI
      simp
      omega
    show EX K ⟨G, H, none⟩ _ _ [Sl.val v0 (tblD n f), Sl.val v1 (.lst (lstN (List.range n))), Sl.val v2 (colsD n f), Sl.val v3 (tupN (idemL n f)), Sl.val v4 (tupN (lidL n f)), Sl.val v5 (tupN (ridL n f)), Sl.val v6 (tupN (lzeL n f)), Sl.val v7 (tupN (rzeL n f)), Sl.val v8 (hdD (oneL n f)), Sl.val v9 (hdD (zerL n f)), Sl.val v10 (tupN (cenL n f)), Sl.val v11 (.int (cntN n f : Nat)), Sl.val v12 (.int ((n * n : Nat) : Int)), Sl.val v13 (.int (Nat.gcd (cntN n f) (n * n) : Nat)), Sl.val v14 (cancD n f), Sl.un, Sl.un, Sl.un, Sl.un] _
    refine ex_let (d := tupN (uniL n f)) (ev_is (ev_then (ev_fltI (p := puni n f) (ei_list (ev_var rfl)) hl (by decide) (fun x v hx => ?_) fun x v hx => ev_var rfl) un_tupN) (by rw [puni_eq])) fun v15 => ?_
    · show EVT K ⟨G, H, none⟩ _ _ (puni n f x)
      unfold puni
      cases q0 : oneL n f with
      | nil => exact et_is (et_and (a := false) (b := false) (et_test (ev_op (x := .non) (ev_var rfl) ev_non op_notNN)) fun h => nomatch h) rfl
      | cons e l =>
        have h1 : ∀ {env : Env'} {u : V}, env[8]? = some (.val u (hdD (e :: l))) → EV K ⟨G, H, none⟩ (tVar 8) env (.int (e : Nat)) := fun h => ev_var h
        refine et_is (et_and (et_test (ev_op (h1 rfl) ev_non op_notNI)) fun _ => et_test (ev_op (ev_fltI (p := fun y => decide (f x y = e) && decide (f y x = e)) (ei_list (ev_var rfl)) hl (by decide) (fun y u hy => et_and (et_test (ev_op (ev_row (ev_tbl (ev_var rfl) (ev_var rfl) hx) (ev_var rfl) hy) (h1 rfl) op_eqN)) fun _ => et_test (ev_op (ev_row (ev_tbl (ev_var rfl) (ev_var rfl) hy) (ev_var rfl) hx) (h1 rfl) op_eqN)) fun y u hy => ev_var rfl) (ev_lst ea_nil (sz 0)) op_neLN)) ?_
        rw [Bool.true_and]
    show EX K ⟨G, H, none⟩ _ _ [Sl.val v0 (tblD n f), Sl.val v1 (.lst (lstN (List.range n))), Sl.val v2 (colsD n f), Sl.val v3 (tupN (idemL n f)), Sl.val v4 (tupN (lidL n f)), Sl.val v5 (tupN (ridL n f)), Sl.val v6 (tupN (lzeL n f)), Sl.val v7 (tupN (rzeL n f)), Sl.val v8 (hdD (oneL n f)), Sl.val v9 (hdD (zerL n f)), Sl.val v10 (tupN (cenL n f)), Sl.val v11 (.int (cntN n f : Nat)), Sl.val v12 (.int ((n * n : Nat) : Int)), Sl.val v13 (.int (Nat.gcd (cntN n f) (n * n) : Nat)), Sl.val v14 (cancD n f), Sl.val v15 (tupN (uniL n f)), Sl.un, Sl.un, Sl.un] _
    exact ex_ret (ev_lst (ds := resD n f) (ea_cons (ev_var rfl) (ea_cons (ev_var rfl) (ea_cons (ev_var rfl) (ea_cons (ev_var rfl) (ea_cons (ev_var rfl) (ea_cons (ev_var rfl) (ea_cons (ev_var rfl) (ea_cons (ev_var rfl) (ea_cons (ev_tup (ea_cons (ev_op (ev_var rfl) (ev_var rfl) (op_fdivI (by omega))) (ea_cons (ev_op (ev_var rfl) (ev_var rfl) (op_fdivI (by omega))) ea_nil)) (sz 2)) (ea_cons (ev_var rfl) (ea_cons (ev_var rfl) ea_nil))))))))))) (sz 11)) fun v => rfl

end
end Kx


set_option Elab.async false
set_option linter.all false
set_option maxRecDepth 100000
set_option maxHeartbeats 2000000
namespace Kx
open PySem PySem.Spec PyProof.Rows L2 DL
section
variable {P : Program} {w : World} {K : PySem.W.Frag} {mg : Str → Option Value} {base : Heap}
def rev1 : List V → List V → List V := fun us ws => match us, ws with | [], [a0] => [a0] | _, _ => []
def rev2 : List V → List V → List V := fun us ws => match us, ws with | [], [a0, a1] => [a1, a0] | _, _ => []
abbrev tAr (K : PySem.W.Frag) (i : Nat) : TE := tOp (rIx K) (tVar 1) (tC (V.int (i : Nat)))
abbrev tRs (te : TE) : TS := tRet (tLst (tCons (tC (V.str "result")) (tCons te tNil)))
theorem two_len {α : Type} {l : List α} (h : l.length = 2) : ∃ a b, l = [a, b] := by
  match l, h with
  | [a, b], _ => exact ⟨a, b, rfl⟩
theorem one_len {α : Type} {l : List α} (h : l.length = 1) : ∃ a, l = [a] := by
  match l, h with
  | [a], _ => exact ⟨a, rfl⟩
theorem swap2 (G : Hp) (vs : List V) {a b : D} (h : DatL K G vs [b, a]) : DatL K G (rev2 [] vs) [a, b] := by
  cases h with | cons x t => cases t with | cons y t => cases t; exact .cons y (.cons x .nil)
theorem same1 (G : Hp) (vs : List V) {a : D} (h : DatL K G vs [a]) : DatL K G (rev1 [] vs) [a] := by
  cases h with | cons x t => cases t; exact .cons x .nil
theorem one_plain {n : Nat} {f : Nat → Nat → Nat} : plainDs [tblD n f] = true := plainDs_of fun d hd => by rw [List.mem_singleton.mp hd]; exact plain_tbl
def doorsD (T : Tx K mg) : List D := [T.f_idempotents, T.f_left_identities, T.f_right_identities, T.f_left_zeros_of, T.f_right_zeros_of, T.f_identity, T.f_zero, T.f_centre, T.f_commuting, T.f_cancellable, T.f_units].map fun a => D.op (.ref a)
def R_law_doors (T : Tx K mg) : List D → D → Prop
  | [], d => d = .lst (doorsD T)
  | _, _ => False
theorem ok_law_doors (T : Tx K mg) : FnOk P w K mg base CX0 1 T.f_law_doors T.d_law_doors p_law_doors (spD K (R_law_doors T)) := by
  refine T.F_law_doors.ok sc_law_doors (fun vs H Q E h => ?_) (fun cdv A outer s H vs Q E hr h => ?_)
  · obtain ⟨G, ds, d, e, hd, hR, q⟩ := h
    rw [hd.length]
    match ds, hR with
    | [], _ => rfl
  · refine ⟨_, (pss_one (ps_ret (pe_lst (pa_cons (pe_glob (v := .ref T.f_idempotents) (by rfl) T.g_idempotents rfl) (pa_cons (pe_glob (v := .ref T.f_left_identities) (by rfl) T.g_left_identities rfl) (pa_cons (pe_glob (v := .ref T.f_right_identities) (by rfl) T.g_right_identities rfl) (pa_cons (pe_glob (v := .ref T.f_left_zeros_of) (by rfl) T.g_left_zeros_of rfl) (pa_cons (pe_glob (v := .ref T.f_right_zeros_of) (by rfl) T.g_right_zeros_of rfl) (pa_cons (pe_glob (v := .ref T.f_identity) (by rfl) T.g_identity rfl) (pa_cons (pe_glob (v := .ref T.f_zero) (by rfl) T.g_zero rfl) (pa_cons (pe_glob (v := .ref T.f_centre) (by rfl) T.g_centre rfl) (pa_cons (pe_glob (v := .ref T.f_commuting) (by rfl) T.g_commuting rfl) (pa_cons (pe_glob (v := .ref T.f_cancellable) (by rfl) T.g_cancellable rfl) (pa_cons (pe_glob (v := .ref T.f_units) (by rfl) T.g_units rfl) pa_nil)))))))))))))), ?_⟩
    obtain ⟨G, ds, d, e, hd, hR, q⟩ := h
    have hl : ds = [] := by
      match ds, hR with
      | [], _ => exact rfl
    subst hl
    cases hd
    refine EX.fin (W := fun _ _ _ _ => False) (good_start e (.nil) n_law_doors) q ?_
    show EX K ⟨G, H, none⟩ _ _ [] _
    subst hR
    exact ex_ret (ev_lst (ds := doorsD T) (ea_cons ev_c (ea_cons ev_c (ea_cons ev_c (ea_cons ev_c (ea_cons ev_c (ea_cons ev_c (ea_cons ev_c (ea_cons ev_c (ea_cons ev_c (ea_cons ev_c (ea_cons ev_c (ea_nil)))))))))))) (sz 11)) fun v => rfl
def ErrN (T : Tx K mg) (c : Value) (nm : Str) : Prop := c = .ref T.c_InvalidTable ∧ nm = "table"
def EDoor (T : Tx K mg) (w : D) (vs : List V) (as : List D) (c : Value) (u : V) : Prop := (∃ k : Nat, k < 11 ∧ w = .int (k : Nat)) ∧ vs.length = 1 ∧ as.length = 1 ∧ E_check_semigroup T vs as c "given" u
def RDoor (w : D) (aa : List D) (r : D) : Prop := ∃ (k : Nat) (n : Nat) (f : Tab), w = .int (k : Nat) ∧ SgOk n f ∧ aa = [tblD n f] ∧ (resD n f)[k]? = some r
def tbA (K : PySem.W.Frag) (T : Tx K mg) (res : Nat → Tab → D) (f : Addr) (W : WX) : TS :=
  tRs (tIf (tB (tVar 2)) (tCallVK 3 f (spX K (R_dr res) (E_check_semigroup T)) rev1 (WE W) (tCons (tAr K 0) tNil)) (tCallVS 3 f (spX K (R_dr res) (E_check_semigroup T)) (WE W) (tCons (tAr K 0) tNil)))
def R_ask (T : Tx K mg) (k : Nat) (res : Nat → Tab → D) : Hp → List D → (D → Prop) → Prop
  | H, [a, b, c], F => ∃ (aa : List D) (nn : Bool), a = .int (k : Nat) ∧ b = .lst aa ∧ c = .bl nn ∧ ((∃ r, R_dr res aa r ∧ ∀ u, Fr H u r → F (.lst [.str "result", .idn u r])) ∨
      (∃ vs as cl nm u z, aa = List.zipWith D.idn vs as ∧ vs.length = 1 ∧ as.length = 1 ∧ E_check_semigroup T vs as cl "given" u ∧ ErrN T cl nm ∧ .idn u z ∈ aa ∧ F (.lst [.str nm, .idn u z])))
  | _, _, _ => False
def R_law_asked (T : Tx K mg) : Hp → List D → (D → Prop) → Prop
  | H, [a, b, c], F => ∃ (w : D) (aa : List D) (nn : Bool), a = w ∧ b = .lst aa ∧ c = .bl nn ∧ ((∃ r, RDoor w aa r ∧ ∀ u, Fr H u r → F (.lst [.str "result", .idn u r])) ∨
      (∃ vs as cl nm u z, aa = List.zipWith D.idn vs as ∧ EDoor T w vs as cl u ∧ ErrN T cl nm ∧ .idn u z ∈ aa ∧ F (.lst [.str nm, .idn u z])))
  | _, _, _ => False
theorem wh1 {β : Bas} {env : Env'} {T : Tx K mg} {c : Value} {nm : Str} {u : V} {d : D} {Po : Post} {i : Nat} {z1 : Str} {t4 : Addr → Value → Option Addr → TS} (h : ErrN T c nm) (hl : i < env.length) (hv : ∀ σ G H, Good K β σ env G H → Dat K G u d) (hP : ∀ w, Po.rt w (.lst [.str nm, d]) (env.set i .un)) :
    WH K β Po [(Value.ref T.c_InvalidTable, some i, fun a cls d => tRet (tLst (tCons (tIf (tB (tCB (fun xs H Q => cls = Value.ref T.c_InvalidTable ∧ rIsX K T.c_InvalidTable a d xs H Q) (tCons (tVar i) (tCons (tC (V.ref T.c_SemigroupError)) tNil)))) (tC (V.str "table")) (tC (V.str z1))) (tCons (tXf a cls d T.c_InvalidTable "given" (tVar i)) tNil)))),
      (Value.ref T.c_SemigroupError, none, t4)] c "given" u env := by
  obtain ⟨rfl, rfl⟩ := h
  exact ⟨true, T.x_InvalidTable_InvalidTable, fun _ => exh_ret T.e_InvalidTable T.y_InvalidTable hl hv hP, fun h => nomatch h⟩
theorem ok_asked_step (T : Tx K mg) (k : Nat) (res : Nat → Tab → D) (f : Addr) (fd : FuncData) (hres : ∀ n f, (resD n f)[k]? = some (res n f)) (dF : FnOk P w K mg base (L2.CX P w) 9 f fd ["table"] (spX K (R_dr res) (E_check_semigroup T))) (dk : PySem.W.keepIn K (.ref f) = true) (db : Binds K fd ["table"] []) (dkb : KBinds K fd ["table"] ["table"] (fun us ws => match us, ws with | [], [a0] => [a0] | _, _ => []) (fun us ws => match us, ws with | [], [a0] => [a0] | _, _ => [])) (hd : (doorsD T)[k]? = some (.op (.ref f))) : FnOk P w K mg base CX0 10 T.f_law_asked T.d_law_asked p_law_asked (spR K (R_ask T k res)) := by
  refine T.F_law_asked.ok sc_law_asked (fun vs H Q E h => ?_) (fun cdv A outer s H vs Q E hr h => ?_)
  · obtain ⟨G, ds, F, e, hd, hR, q⟩ := h
    rw [hd.length]
    match ds, hR with
    | [_, _, _], _ => rfl
  · refine ⟨_, (pss_cons (ps_set (i := 3) sc_law_asked.nd rfl (.inl rfl) (pe_ix (ix_seqK K) (pe_call0 (ok_law_doors T) (hr.mono (by omega)) (by rfl) T.g_law_doors T.F_law_doors.kp T.b_law_doors .nil pass0) (pv 0) (fun _ _ => rfl)))
      (pss_one (ps_try_manyA rfl rfl takes_none5 (fun W pn xe tk hpass => (pss_one (ps_ret (pe_lst (pa_cons pe_str (pa_cons (pe_ifExp (pt_val (pv 2)) (pe_callVK (i := 3) dF (hr.mono (by omega)) dk dkb (fun σ => passAt tk σ) (by rfl) (by first | exact Or.inl rfl | exact Or.inr (Or.inl rfl) | exact Or.inr (Or.inr rfl)) (pk_cons (pe_ix (ix_seqK K) (pv 1) pe_int (fun _ _ => rfl)) pk_nil)) (pe_callVS (i := 3) dF (hr.mono (by omega)) dk db (fun σ => passAt tk σ) (by rfl) (by first | exact Or.inl rfl | exact Or.inr (Or.inl rfl) | exact Or.inr (Or.inr rfl)) (pa_cons (pe_ix (ix_seqK K) (pv 1) pe_int (fun _ _ => rfl)) pa_nil))) pa_nil)))))) (HdsA.consA (i := 4) ⟨by rfl, by decide, .inl T.gc_InvalidTable⟩ sc_law_asked.nd rfl rfl (fun a oe cls d pn hz hf => (pss_one (ps_ret (pe_lst (pa_cons (pe_ifExp (pt_val (pe_callB (call_isXK K T.e_InvalidTable hz hf) (by rfl) T.m_isinstance (by decide +kernel) (pa_cons (pv 4) (pa_cons (pe_glob (v := .ref T.c_SemigroupError) (by rfl) T.gc_SemigroupError rfl) pa_nil)))) pe_str pe_str) (pa_cons (pe_xf T.e_InvalidTable.xf T.e_InvalidTable.nf hz hf (pv 4)) pa_nil)))))) (HdsA.cons ⟨by rfl, by decide, .inl T.gc_SemigroupError⟩ (fun a oe cls d pn hz hf => (pss_one (ps_ret (pe_lst (pa_cons pe_str (pa_cons pe_non pa_nil)))))) HdsA.nil))))), ?_⟩
    obtain ⟨G, ds, F, e, hd, hR, q⟩ := h
    have hl : ∃ x0 x1 x2, ds = [x0, x1, x2] := by
      match ds, hR with
      | [x0, x1, x2], _ => exact ⟨x0, x1, x2, rfl⟩
    obtain ⟨x0, x1, x2, rfl⟩ := hl
    cases hd with
    | @cons v0 vs0 _ _ dv0 hd =>
    cases hd with
    | @cons v1 vs1 _ _ dv1 hd =>
    cases hd with
    | @cons v2 vs2 _ _ dv2 hd =>
    cases hd
    refine EX.finR (W := fun _ _ _ _ => False) (good_start e ((.cons dv0 (.cons dv1 (.cons dv2 .nil)))) n_law_asked) q ?_
    show EX K ⟨G, H, none⟩ _ _ [Sl.val v0 x0, Sl.val v1 x1, Sl.val v2 x2, Sl.un, Sl.un] _
    obtain ⟨aa, nn, rfl, rfl, rfl, hk⟩ := hR
    refine ex_letV (evv_op (ev_op (ev_call ea_nil rfl) (ev_var rfl) (op_ix (.inr rfl) (atI_natD hd)))) ?_
    show EX K ⟨G, H, none⟩ _ _ [Sl.val v0 (.int (k : Nat)), Sl.val v1 (.lst aa), Sl.val v2 (.bl nn), Sl.val (.ref f) (.op (.ref f)), Sl.un] _
    have ar : ∀ {x : D}, aa[0]? = some x → EV K ⟨G, H, none⟩ (tAr K 0) [Sl.val v0 (.int (k : Nat)), Sl.val v1 (.lst aa), Sl.val v2 (.bl nn), Sl.val (.ref f) (.op (.ref f)), Sl.un] x := fun h => ev_op (ev_var rfl) ev_int (op_ix (.inr rfl) (atI_natD (j := 0) h))
    rcases hk with ⟨r, hr, hF⟩ | ⟨vs, as, cl, nm, u, z, rfl, hl, hl', hE, hN, hm, hF⟩
    · refine ex_tryA (tb := tbA K T res f) (PX := fun _ _ _ _ => False) (fun W => ?_) fun _ _ _ _ h => h.elim
      obtain ⟨a0, rfl⟩ : ∃ a0, aa = [a0] := by
        match aa, hr with
        | [a0], _ => exact ⟨a0, rfl⟩
      have hp : plainDs [a0] = true := by
        obtain ⟨n, f, _, rfl, _⟩ := id hr
        exact one_plain
      exact ex_retF (ef_if (et_B (ev_var rfl)) (fun _ => ef_callVK rfl (ea_cons (ar rfl) ea_nil) (fun G vs h => same1 G vs h) hp hr) fun _ => ef_callV rfl (ea_cons (ar rfl) ea_nil) hp hr) fun v u hf => hF u hf
    · obtain ⟨u0, rfl⟩ := one_len hl
      obtain ⟨a0, rfl⟩ := one_len hl'
      have hv : ∀ σ G' H', Good K ⟨G, H, none⟩ σ [Sl.val v0 (.int (k : Nat)), Sl.val v1 (.lst (List.zipWith D.idn [u0] [a0])), Sl.val v2 (.bl nn), Sl.val (.ref f) (.op (.ref f)), Sl.un] G' H' → Dat K G' u (.idn u z) := fun σ G' H' g => by
        obtain ⟨o, _, rfl, dv⟩ := g.sl.get (i := 1) (s := .val v1 (.lst (List.zipWith D.idn [u0] [a0]))) rfl
        obtain ⟨a, xs, rfl, ha, hx⟩ := dv.lstV
        obtain ⟨i, hi⟩ := List.mem_iff_getElem?.mp hm
        obtain ⟨y, hy, dz⟩ := hx.get hi
        obtain ⟨rfl, _⟩ := dz.idnV
        exact dz
      refine ex_tryA (tb := tbA K T res f) (PX := fun c f' u' e' => c = cl ∧ f' = "given" ∧ u' = u ∧ e' = [Sl.val v0 (.int (k : Nat)), Sl.val v1 (.lst (List.zipWith D.idn [u0] [a0])), Sl.val v2 (.bl nn), Sl.val (.ref f) (.op (.ref f)), Sl.un]) (fun W => ?_) fun c f' u' e' h => ?_
      · refine ex_rsRet (rs_lst (ra_next ev_str (ra_here (rs_if (et_B (ev_var rfl)) (fun _ => ?_) fun _ => ?_)))) ⟨rfl, rfl, rfl, rfl⟩
        · exact rs_callVK (vs' := [u0]) (ds' := [a0]) rfl (eav_cons (evv_idn (ar rfl)) eav_nil) (fun G h => h) rfl hE
        · exact rs_callV rfl (eav_cons (evv_idn (ar rfl)) eav_nil) hE
      · obtain ⟨rfl, rfl, rfl, rfl⟩ := h
        exact wh1 hN (by show 4 < 5; decide) hv fun w => hF
theorem fn_un {CX : CXT} {k : Nat} {f : Addr} {fd : FuncData} {ps : List Str} {ι : Type} {S : List ι} {R : ι → Hp → List D → (D → Prop) → Prop} {R' : Hp → List D → (D → Prop) → Prop} (hs : ∀ H ds F, R' H ds F → ∃ p ∈ S, R p H ds F)
    (h : ∀ p ∈ S, FnOk P w K mg base CX k f fd ps (spR K (R p))) : FnOk P w K mg base CX k f fd ps (spR K R') :=
  have sp : ∀ {vs H Q E}, spR K R' vs H Q E → ∃ p ∈ S, spR K (R p) vs H Q E := fun {vs H Q E} h => by
    obtain ⟨G, ds, F, e, hd, hR, q⟩ := h
    obtain ⟨p, hp, hR⟩ := hs _ _ _ hR
    exact ⟨p, hp, G, ds, F, e, hd, hR, q⟩
  ⟨fun vs H Q E z => by obtain ⟨p, hp, z⟩ := sp z; exact (h p hp).len vs H Q E z,
   fun A outer s H args us vs Q E hr he hb hv z => by obtain ⟨p, hp, z⟩ := sp z; exact (h p hp).run A outer s H args us vs Q E hr he hb hv z⟩
def askS : List (Nat × (Nat → Tab → D)) := [(0, fun n f => tupN (idemL n f)), (1, fun n f => tupN (lidL n f)), (2, fun n f => tupN (ridL n f)), (3, fun n f => tupN (lzeL n f)), (4, fun n f => tupN (rzeL n f)), (5, fun n f => hdD (oneL n f)), (6, fun n f => hdD (zerL n f)), (7, fun n f => tupN (cenL n f)), (8, commD), (9, cancD), (10, fun n f => tupN (uniL n f))]
theorem askS_of {k : Nat} (h : k < 11) : ∃ res, (k, res) ∈ askS ∧ ∀ n f, (resD n f)[k]? = some (res n f) := by
  match k, h with
  | 0, _ => exact ⟨fun n f => tupN (idemL n f), List.mem_cons_self, fun _ _ => rfl⟩
  | 1, _ => exact ⟨fun n f => tupN (lidL n f), List.mem_cons_of_mem _ (List.mem_cons_self), fun _ _ => rfl⟩
  | 2, _ => exact ⟨fun n f => tupN (ridL n f), List.mem_cons_of_mem _ (List.mem_cons_of_mem _ (List.mem_cons_self)), fun _ _ => rfl⟩
  | 3, _ => exact ⟨fun n f => tupN (lzeL n f), List.mem_cons_of_mem _ (List.mem_cons_of_mem _ (List.mem_cons_of_mem _ (List.mem_cons_self))), fun _ _ => rfl⟩
  | 4, _ => exact ⟨fun n f => tupN (rzeL n f), List.mem_cons_of_mem _ (List.mem_cons_of_mem _ (List.mem_cons_of_mem _ (List.mem_cons_of_mem _ (List.mem_cons_self)))), fun _ _ => rfl⟩
  | 5, _ => exact ⟨fun n f => hdD (oneL n f), List.mem_cons_of_mem _ (List.mem_cons_of_mem _ (List.mem_cons_of_mem _ (List.mem_cons_of_mem _ (List.mem_cons_of_mem _ (List.mem_cons_self))))), fun _ _ => rfl⟩
  | 6, _ => exact ⟨fun n f => hdD (zerL n f), List.mem_cons_of_mem _ (List.mem_cons_of_mem _ (List.mem_cons_of_mem _ (List.mem_cons_of_mem _ (List.mem_cons_of_mem _ (List.mem_cons_of_mem _ (List.mem_cons_self)))))), fun _ _ => rfl⟩
  | 7, _ => exact ⟨fun n f => tupN (cenL n f), List.mem_cons_of_mem _ (List.mem_cons_of_mem _ (List.mem_cons_of_mem _ (List.mem_cons_of_mem _ (List.mem_cons_of_mem _ (List.mem_cons_of_mem _ (List.mem_cons_of_mem _ (List.mem_cons_self))))))), fun _ _ => rfl⟩
  | 8, _ => exact ⟨commD, List.mem_cons_of_mem _ (List.mem_cons_of_mem _ (List.mem_cons_of_mem _ (List.mem_cons_of_mem _ (List.mem_cons_of_mem _ (List.mem_cons_of_mem _ (List.mem_cons_of_mem _ (List.mem_cons_of_mem _ (List.mem_cons_self)))))))), fun _ _ => rfl⟩
  | 9, _ => exact ⟨cancD, List.mem_cons_of_mem _ (List.mem_cons_of_mem _ (List.mem_cons_of_mem _ (List.mem_cons_of_mem _ (List.mem_cons_of_mem _ (List.mem_cons_of_mem _ (List.mem_cons_of_mem _ (List.mem_cons_of_mem _ (List.mem_cons_of_mem _ (List.mem_cons_self))))))))), fun _ _ => rfl⟩
  | 10, _ => exact ⟨fun n f => tupN (uniL n f), List.mem_cons_of_mem _ (List.mem_cons_of_mem _ (List.mem_cons_of_mem _ (List.mem_cons_of_mem _ (List.mem_cons_of_mem _ (List.mem_cons_of_mem _ (List.mem_cons_of_mem _ (List.mem_cons_of_mem _ (List.mem_cons_of_mem _ (List.mem_cons_of_mem _ (List.mem_cons_self)))))))))), fun _ _ => rfl⟩
theorem ok_law_asked (T : Tx K mg) : FnOk P w K mg base CX0 10 T.f_law_asked T.d_law_asked p_law_asked (spR K (R_law_asked T)) := by
  refine fn_un (S := askS) (R := fun p => R_ask T p.1 p.2) (fun H ds F h => ?_) fun p hp => ?_
  · match ds, h with
    | [a, b, c], h =>
    obtain ⟨w', aa, nn, h1, h2, h3, hk⟩ := h
    rcases hk with ⟨r, ⟨k, n, f, rfl, hs, rfl, hr⟩, hF⟩ | ⟨vs, as, cl, nm, u, z, h4, ⟨⟨k, hk, rfl⟩, hl, hl', hE⟩, h5⟩
    · have hk : k < 11 := (List.getElem?_eq_some_iff.mp hr).1
      obtain ⟨res, hm, hres⟩ := askS_of hk
      refine ⟨(k, res), hm, _, nn, h1, h2, h3, .inl ⟨r, ⟨n, f, hs, rfl, ?_⟩, hF⟩⟩
      rw [hres] at hr
      exact (Option.some.inj hr).symm
    · obtain ⟨res, hm, _⟩ := askS_of hk
      exact ⟨(k, res), hm, aa, nn, h1, h2, h3, .inr ⟨vs, as, cl, nm, u, z, h4, hl, hl', hE, h5⟩⟩
  · unfold askS at hp
    rcases List.mem_cons.mp hp with rfl | hp
    · exact ok_asked_step T _ _ _ _ (fun _ _ => rfl) (ok_idempotents T) T.F_idempotents.kp T.b_idempotents T.kb_idempotents rfl
    rcases List.mem_cons.mp hp with rfl | hp
    · exact ok_asked_step T _ _ _ _ (fun _ _ => rfl) (ok_left_identities T) T.F_left_identities.kp T.b_left_identities T.kb_left_identities rfl
    rcases List.mem_cons.mp hp with rfl | hp
    · exact ok_asked_step T _ _ _ _ (fun _ _ => rfl) (ok_right_identities T) T.F_right_identities.kp T.b_right_identities T.kb_right_identities rfl
    rcases List.mem_cons.mp hp with rfl | hp
    · exact ok_asked_step T _ _ _ _ (fun _ _ => rfl) (ok_left_zeros_of T) T.F_left_zeros_of.kp T.b_left_zeros_of T.kb_left_zeros_of rfl
    rcases List.mem_cons.mp hp with rfl | hp
    · exact ok_asked_step T _ _ _ _ (fun _ _ => rfl) (ok_right_zeros_of T) T.F_right_zeros_of.kp T.b_right_zeros_of T.kb_right_zeros_of rfl
    rcases List.mem_cons.mp hp with rfl | hp
    · exact ok_asked_step T _ _ _ _ (fun _ _ => rfl) (ok_identity T) T.F_identity.kp T.b_identity T.kb_identity rfl
    rcases List.mem_cons.mp hp with rfl | hp
    · exact ok_asked_step T _ _ _ _ (fun _ _ => rfl) (ok_zero T) T.F_zero.kp T.b_zero T.kb_zero rfl
    rcases List.mem_cons.mp hp with rfl | hp
    · exact ok_asked_step T _ _ _ _ (fun _ _ => rfl) (ok_centre T) T.F_centre.kp T.b_centre T.kb_centre rfl
    rcases List.mem_cons.mp hp with rfl | hp
    · exact ok_asked_step T _ _ _ _ (fun _ _ => rfl) (ok_commuting T) T.F_commuting.kp T.b_commuting T.kb_commuting rfl
    rcases List.mem_cons.mp hp with rfl | hp
    · exact ok_asked_step T _ _ _ _ (fun _ _ => rfl) (ok_cancellable T) T.F_cancellable.kp T.b_cancellable T.kb_cancellable rfl
    rcases List.mem_cons.mp hp with rfl | hp
    · exact ok_asked_step T _ _ _ _ (fun _ _ => rfl) (ok_units T) T.F_units.kp T.b_units T.kb_units rfl
    cases hp

end
end Kx


set_option Elab.async false
set_option linter.all false
set_option maxRecDepth 100000
set_option maxHeartbeats 2000000
namespace Kx
open PySem PySem.Spec PyProof.Rows L2 DL
section
variable {P : Program} {w : World} {K : PySem.W.Frag} {mg : Str → Option Value} {base : Heap}
theorem Sm_pair {s : Str} {x y : D} {k : Nat} (h : Sm k x y) : Sm (k + 1) (.lst [.str s, x]) (.lst [.str s, y]) :=
  .inr ⟨_, _, .inr ⟨rfl, rfl⟩, rfl, by show 2 < 10000; decide, fun i a b ha hb => by
    match i, ha, hb with
    | 0, ha, hb => cases ha; cases hb; exact Sm_atom rfl k
    | 1, ha, hb => cases ha; cases hb; exact h
    | i + 2, ha, hb => simp at ha⟩
theorem atom_nolist {x : D} (h : isAtom x = true) : ∃ t, tyD x = some t ∧ kitB t "list" = some false := by
  cases x <;> first | (cases h; done) | exact ⟨_, rfl, rfl⟩

/-- what a door answers, if a list then no long one -/
def LsOk (r : D) : Prop := ∃ t b, tyD r = some t ∧ kitB t "list" = some b ∧ (b = true → ∃ ds, r = .lst ds ∧ ds.length < sizeLine)
theorem ls_atom {r : D} (h : isAtom r = true) : LsOk r := by
  obtain ⟨t, ht, hk⟩ := atom_nolist h
  exact ⟨t, false, ht, hk, fun z => nomatch z⟩
theorem ls_tup {ds : List D} : LsOk (.tup ds) := ⟨"tuple", false, rfl, rfl, fun z => nomatch z⟩
theorem ls_lst {ds : List D} (h : ds.length < sizeLine) : LsOk (.lst ds) := ⟨"list", true, rfl, rfl, fun _ => ⟨ds, rfl, h⟩⟩
def R_law_twice : List D → D → Prop
  | [wd, args, due, nm], d => ∃ (w : D) (aa : List D) (nn : Bool) (r : D), wd = w ∧ args = .lst aa ∧ nm = .bl nn ∧ RDoor w aa r ∧ Sm 4 r due ∧ LsOk r ∧ d = .bl true
  | _, _ => False
theorem ok_law_twice (T : Tx K mg) : FnOk P w K mg base CX0 11 T.f_law_twice T.d_law_twice p_law_twice (spD K R_law_twice) := by
  refine T.F_law_twice.ok sc_law_twice (fun vs H Q E h => ?_) (fun cdv A outer s H vs Q E hr h => ?_)
  · obtain ⟨G, ds, d, e, hd, hR, q⟩ := h
    rw [hd.length]
    match ds, hR with
    | [_, _, _, _], _ => rfl
  · refine ⟨_, (pss_cons (ps_for PassesOwn.never rfl (pi_range1 (by rfl) T.m_range (pa_cons pe_int pa_nil)) (pg_name (i := 4) sc_law_twice.nd rfl (.inl rfl))
      (pss_cons (ps_set (i := 5) sc_law_twice.nd rfl (.inl rfl) (pe_call (ok_law_asked T) (hr.mono (by omega)) (by rfl) T.g_law_asked T.F_law_asked.kp T.b_law_asked .nil pass0 (pa_cons (pv 0) (pa_cons (pv 1) (pa_cons (pe_cmpR op_eq (pv 3) (pe_cmpR op_eq (pv 4) pe_int (nomark _)) (nomark _)) pa_nil)))))
      (pss_cons (ps_if (pt_not (pt_val (pe_call (ok_law_same T 6) (hr.mono (by omega)) (by rfl) T.g_law_same T.F_law_same.kp T.b_law_same .nil pass0 (pa_cons (pv 5) (pa_cons (pe_lst (pa_cons pe_str (pa_cons (pv 2) pa_nil))) pa_nil))))) (pss_one (ps_ret pe_bl)) pss_nil)
      (pss_one (ps_if (pt_val (pe_callB (call_isiK K) (by rfl) T.m_isinstance (by decide +kernel) (pa_cons (pe_ix (ix_seqK K) (pv 5) pe_int (fun _ _ => rfl)) (pa_cons (pe_bltn (v := .ty "list") (by rfl) T.m_list (by decide +kernel) rfl) pa_nil)))) (pss_one (ps_expr (pe_bmK K PySem.F.plainAttrs_list PySem.F.slot_list_append PySem.F.type_list_append mt_append (pe_ix (ix_seqK K) (pv 5) pe_int (fun _ _ => rfl)) (pa_cons pe_non pa_nil)))) pss_nil)))))
      (pss_one (ps_ret pe_bl))), ?_⟩
    obtain ⟨G, ds, d, e, hd, hR, q⟩ := h
    have hl : ∃ x0 x1 x2 x3, ds = [x0, x1, x2, x3] := by
      match ds, hR with
      | [x0, x1, x2, x3], _ => exact ⟨x0, x1, x2, x3, rfl⟩
    obtain ⟨x0, x1, x2, x3, rfl⟩ := hl
    cases hd with
    | @cons v0 vs0 _ _ dv0 hd =>
    cases hd with
    | @cons v1 vs1 _ _ dv1 hd =>
    cases hd with
    | @cons v2 vs2 _ _ dv2 hd =>
    cases hd with
    | @cons v3 vs3 _ _ dv3 hd =>
    cases hd
    refine EX.fin (W := fun _ _ _ _ => False) (good_start e ((.cons dv0 (.cons dv1 (.cons dv2 (.cons dv3 .nil))))) n_law_twice) q ?_
    show EX K ⟨G, H, none⟩ _ _ [Sl.val v0 x0, Sl.val v1 x1, Sl.val v2 x2, Sl.val v3 x3, Sl.un, Sl.un] _
    obtain ⟨w', aa, nn, r, rfl, rfl, rfl, hRD, hsm, ⟨ty, b, ht, hk, hb⟩, rfl⟩ := hR
    refine ex_forRS (n := 2) (fun _ env' => ∃ s4 s5, env' = [Sl.val v0 x0, Sl.val v1 (.lst aa), Sl.val v2 x2, Sl.val v3 (.bl nn), s4, s5]) ev_int (by decide) ⟨_, _, rfl⟩ ?_ fun env' ⟨s4, s5, h⟩ => by subst h; exact ex_ret ev_bl fun v => rfl
    rintro i env' vi hi ⟨s4, s5, rfl⟩
    refine ex_askApp (i := 5) (s := "result") (r := r) (F := fun H d => ∃ u, d = .lst [.str "result", .idn u r] ∧ Fr H u r) (er_call (ea_cons (ev_var rfl) (ea_cons (ev_var rfl) (ea_cons (ev_op (ev_var rfl) (ev_op (ev_var rfl) ev_int op_eqI) op_eqB) ea_nil))) (fun H => ⟨x0, aa, _, rfl, rfl, rfl, .inl ⟨r, hRD, fun u hu => ⟨u, rfl, hu⟩⟩⟩) (fun H H' d e ⟨u, h1, h2⟩ => ⟨u, h1, h2.back e⟩)) (fun H d h => h)
      (fun v => et_is (et_not (et_B (ev_callSm (ea_cons (ev_var rfl) (ea_cons (ev_lst (ea_cons ev_str (ea_cons (ev_var rfl) ea_nil)) (sz 2)) ea_nil)) (Sm_pair hsm)))) rfl)
      (fun v => ⟨b, et_B (ev_isT (b := b) (ev_op (ev_var rfl) ev_int (op_ix (.inr rfl) (atI_natD (j := 1) rfl))) ht hk), hb⟩) (by show 5 < 6; decide) ⟨_, _, rfl⟩

theorem idns : ∀ (ds : List D), (∀ k : Nat, k < ds.length → ∃ (v : V) (x : D), ds[k]? = some (D.idn v x)) → ∃ (vs : List V) (as : List D), vs.length = ds.length ∧ as.length = ds.length ∧ ds = List.zipWith D.idn vs as ∧ ∀ (k : Nat) (v : V) (x : D), ds[k]? = some (D.idn v x) → vs[k]? = some v ∧ as[k]? = some x
  | [], _ => ⟨[], [], rfl, rfl, rfl, fun k v x h => by simp at h⟩
  | d :: ds, h => by
    obtain ⟨v, x, hd⟩ := h 0 (Nat.succ_pos _)
    obtain rfl : d = .idn v x := by simpa using hd
    obtain ⟨vs, as, h1, h2, h3, h4⟩ := idns ds fun k hk => by
      obtain ⟨v, x, e⟩ := h (k + 1) (Nat.succ_lt_succ hk)
      exact ⟨v, x, by simpa using e⟩
    refine ⟨v :: vs, x :: as, by rw [List.length_cons, List.length_cons, h1], by rw [List.length_cons, List.length_cons, h2], by rw [List.zipWith_cons_cons, ← h3], fun k v' x' e => ?_⟩
    cases k with
    | zero => simp at e; obtain ⟨rfl, rfl⟩ := e; exact ⟨rfl, rfl⟩
    | succ k => simpa using h4 k v' x' (by simpa using e)
/-- the arguments so far -/
def ArgsI (gd : List D) (E : Nat) (oss : List (List D)) (a i : Nat) (ds : List D) : Prop := ds.length = E ∧ (∀ k, k < a → ∃ v g, ds[k]? = some (.idn v g) ∧ gd[k]? = some g) ∧ (∀ k, k < E → ∃ v x, ds[k]? = some (.idn v x) ∧ (gd[k]? = some x ∨ ∃ os, oss[k]? = some os ∧ x ∈ os)) ∧ (1 ≤ i → ∃ u x os, ds[a]? = some (.idn u x) ∧ oss[a]? = some os ∧ x ∈ os)
theorem args0 {gd : List D} {E a : Nat} {oss : List (List D)} {xs : List V} (h : xs.length = E) (hg : gd.length = E) (ha : a < E) : ArgsI gd E oss a 0 (List.zipWith D.idn xs gd) := by
  have get : ∀ k, k < E → ∃ v g, (List.zipWith D.idn xs gd)[k]? = some (.idn v g) ∧ gd[k]? = some g := fun k hk => by
    refine ⟨xs[k], gd[k], ?_, List.getElem?_eq_getElem (by omega)⟩
    rw [List.getElem?_zipWith, List.getElem?_eq_getElem (by omega : k < xs.length), List.getElem?_eq_getElem (by omega : k < gd.length)]
  refine ⟨by rw [List.length_zipWith, hg, h, Nat.min_self], fun k hk => get k (by omega), fun k hk => ?_, fun z => absurd z (by decide)⟩
  obtain ⟨v, g, hv, hg⟩ := get k hk
  exact ⟨v, g, hv, .inl hg⟩
theorem args_set {gd : List D} {E a i : Nat} {oss : List (List D)} {os ds : List D} {v : V} {x : D} (h : ArgsI gd E oss a i ds) (hi : a + i < E) (ho : oss[a + i]? = some os) (hx : x ∈ os) : ArgsI gd E oss a (i + 1) (ds.set (a + i) (.idn v x)) := by
  obtain ⟨h1, h2, h3, h4⟩ := h
  refine ⟨by rw [List.length_set, h1], fun k hk => ?_, fun k hk => ?_, fun _ => ?_⟩
  · rw [List.getElem?_set_ne (by omega)]; exact h2 k hk
  · by_cases e : a + i = k
    · subst e; rw [List.getElem?_set_self (by omega)]; exact ⟨v, x, rfl, .inr ⟨os, ho, hx⟩⟩
    · rw [List.getElem?_set_ne e]; exact h3 k hk
  · by_cases e : i = 0
    · subst e; rw [Nat.add_zero] at ho ⊢; rw [List.getElem?_set_self (by omega)]; exact ⟨v, x, os, rfl, ho, hx⟩
    · rw [List.getElem?_set_ne (by omega)]; exact h4 (by omega)
theorem args_keep {gd : List D} {E a i : Nat} {oss : List (List D)} {ds : List D} (h : ArgsI gd E oss a i ds) (hi : 1 ≤ i) : ArgsI gd E oss a (i + 1) ds := ⟨h.1, h.2.1, h.2.2.1, fun _ => h.2.2.2 hi⟩
def RowOk (T : Tx K mg) (d : D) : Prop := ∃ (w : D) (gd : List D) (nms : List Str) (oss : List (List D)) (E : Nat), d = .tup [w, .lst gd, .lst (nms.map D.str), .lst (oss.map D.lst)] ∧ gd.length = E ∧ nms.length = E ∧ oss.length = E ∧ E ≤ 4 ∧
  (∀ os ∈ oss, 1 ≤ os.length ∧ os.length ≤ 100 ∧ ∀ x ∈ os, Wr x) ∧
  (∀ (a : Nat) (vs : List V) (as : List D), a < E → vs.length = E → as.length = E → (∀ k, k < a → as[k]? = gd[k]?) → (∀ k, k < E → as[k]? = gd[k]? ∨ ∃ os x, oss[k]? = some os ∧ x ∈ os ∧ as[k]? = some x) →
    ∀ u x os, vs[a]? = some u → as[a]? = some x → oss[a]? = some os → x ∈ os → ∃ cl nm, nms[a]? = some nm ∧ EDoor T w vs as cl u ∧ ErrN T cl nm)
def R_refusals (T : Tx K mg) : List D → (D → Prop) → Prop
  | [rows, nm], Pd => ∃ rs nn, rows = .lst rs ∧ nm = .bl nn ∧ rs.length ≤ 20 ∧ (∀ d ∈ rs, RowOk T d) ∧ Pd (.bl true)
  | _, _ => False
theorem ok_law_refusals_right (T : Tx K mg) : FnOk P w K mg base CX0 11 T.f_law_refusals_right T.d_law_refusals_right p_law_refusals_right (spB K 600 (R_refusals T)) := by
  refine T.F_law_refusals_right.ok sc_law_refusals_right (fun vs H Q E h => ?_) (fun cdv A outer s H vs Q E hr h => ?_)
  · obtain ⟨G, b, n, xs, bs, ws, ds, Pd, rfl, hG, hH, hx, hbx, hn, e, hd, hR, q⟩ := h
    rw [List.length_cons, hd.length]
    match ds, hR with
    | [_, _], _ => rfl
  · refine ⟨_, (pss_cons (ps_for PassesOwn.never rfl (pi_listK K (pv 1)) (pg_tupK K rfl (pgs_cons (pg_name (i := 3) sc_law_refusals_right.nd rfl (.inl rfl)) (pgs_cons (pg_name (i := 4) sc_law_refusals_right.nd rfl (.inl rfl)) (pgs_cons (pg_name (i := 5) sc_law_refusals_right.nd rfl (.inl rfl)) (pgs_cons (pg_name (i := 6) sc_law_refusals_right.nd rfl (.inl rfl)) pgs_nil)))))
      (pss_one (ps_for PassesOwn.never rfl (pi_range1 (by rfl) T.m_range (pa_cons (pe_callB (call_lenK K) (by rfl) T.m_len (by decide +kernel) (pa_cons (pv 5) pa_nil)) pa_nil)) (pg_name (i := 7) sc_law_refusals_right.nd rfl (.inl rfl))
      (pss_cons (ps_par (i := 8) (j := 9) rfl sc_law_refusals_right.nd rfl rfl (by decide) rfl rfl (pa_cons (pe_callTy (call_list_ofK K) (by rfl) T.m_list (by decide +kernel) (pa_cons (pv 4) pa_nil)) (pa_cons (pe_call (ok_law_take T) (hr.mono (by omega)) (by rfl) T.g_law_take T.F_law_take.kp T.b_law_take .nil pass0 (pa_cons (pv 0) (pa_cons pe_int pa_nil))) pa_nil)) (by rfl))
      (pss_cons (ps_for PassesOwn.never rfl (pi_range2 (by rfl) T.m_range (pa_cons (pv 7) (pa_cons (pe_callB (call_lenK K) (by rfl) T.m_len (by decide +kernel) (pa_cons (pv 5) pa_nil)) pa_nil))) (pg_name (i := 10) sc_law_refusals_right.nd rfl (.inl rfl))
      (pss_one (ps_if (PW.pt (pw_or (pt_cmpR op_eq (pv 10) (pv 7) (nomark _)) (pw_or1 (pt_cmpR op_eq (pv 9) pe_int (nomark _))))) (pss_one (ps_asg (pe_call (ok_law_copy T) (hr.mono (by omega)) (by rfl) T.g_law_copy T.F_law_copy.kp T.b_law_copy .nil pass0 (pa_cons (pe_ix (ix_seqK K) (pe_ix (ix_seqK K) (pv 6) (pv 10) (fun _ _ => rfl)) (pe_call (ok_law_take T) (hr.mono (by omega)) (by rfl) T.g_law_take T.F_law_take.kp T.b_law_take .nil pass0 (pa_cons (pv 0) (pa_cons (pe_callB (call_lenK K) (by rfl) T.m_len (by decide +kernel) (pa_cons (pe_ix (ix_seqK K) (pv 6) (pv 10) (fun _ _ => rfl)) pa_nil)) pa_nil))) (fun _ _ => rfl)) pa_nil)) (pg_sub (pv 8) (pv 10) set_list))) pss_nil)))
      (pss_cons (ps_set (i := 11) sc_law_refusals_right.nd rfl (.inl rfl) (pe_call (ok_law_asked T) (hr.mono (by omega)) (by rfl) T.g_law_asked T.F_law_asked.kp T.b_law_asked .nil pass0 (pa_cons (pv 3) (pa_cons (pv 8) (pa_cons (pv 2) pa_nil)))))
      (pss_cons (ps_if (PW.pt (pw_or (pt_cmpR op_ne (pe_ix (ix_seqK K) (pv 11) pe_int (fun _ _ => rfl)) (pe_ix (ix_seqK K) (pv 5) (pv 7) (fun _ _ => rfl)) (nomark _)) (pw_or1 (pt_not (pt_val (pe_call (ok_law_same_object T) (hr.mono (by omega)) (by rfl) T.g_law_same_object T.F_law_same_object.kp T.b_law_same_object .nil pass0 (pa_cons (pe_ix (ix_seqK K) (pv 11) pe_int (fun _ _ => rfl)) (pa_cons (pe_ix (ix_seqK K) (pv 8) (pv 7) (fun _ _ => rfl)) pa_nil)))))))) (pss_one (ps_ret pe_bl)) pss_nil)
      (pss_one (ps_set (i := 2) sc_law_refusals_right.nd rfl (.inl rfl) (pe_not (pv 2)))))))))))
      (pss_one (ps_ret pe_bl))), ?_⟩
    obtain ⟨G, b, n, xs, bs, ws, ds, Pd, rfl, hG, hH, hx, hbx, hn, e, hd, hR, q⟩ := h
    have hl : ∃ x1 x2, ds = [x1, x2] := by
      match ds, hR with
      | [x1, x2], _ => exact ⟨x1, x2, rfl⟩
    obtain ⟨x1, x2, rfl⟩ := hl
    cases hd with
    | @cons v1 vs0 _ _ dv1 hd =>
    cases hd with
    | @cons v2 vs1 _ _ dv2 hd =>
    cases hd
    refine EX.finB (W := fun _ _ _ _ => False) (k := 600) (n := n) (env := [Sl.own b bs, Sl.val v1 x1, Sl.val v2 x2, Sl.un, Sl.un, Sl.un, Sl.un, Sl.un, Sl.un, Sl.un, Sl.un, Sl.un]) rfl (good_box e hG hH hx ((.cons dv1 (.cons dv2 .nil))) n_law_refusals_right) q ?_
    obtain ⟨rs, nn, rfl, rfl, hlen, hrow, hP⟩ := hR
    refine ex_forS (fun i env' => ∃ bs' nn' u2 s3 s4 s5 s6 s7 s8 s9 s10 s11, BoxD (n + 30 * i) bs' ∧ env' = [Sl.own b bs', Sl.val v1 (.lst rs), Sl.val u2 (.bl nn'), s3, s4, s5, s6, s7, s8, s9, s10, s11]) (ei_list (ev_var rfl)) ⟨_, _, _, _, _, _, _, _, _, _, _, _, hbx, rfl⟩ ?_ fun env' h => ?_
    rotate_left
    · obtain ⟨bs', nn', u2, s3, s4, s5, s6, s7, s8, s9, s10, s11, hB, rfl⟩ := h
      exact ex_ret ev_bl fun v => ⟨hP, bs', hB.mono (by omega), rfl⟩
    rintro i env' v d hd ⟨bs0, nn0, u2, s3, s4, s5, s6, s7, s8, s9, s10, s11, hB0, rfl⟩
    have hi20 : i < 20 := Nat.lt_of_lt_of_le (List.getElem?_eq_some_iff.mp hd).1 hlen
    obtain ⟨w', gd, nms, oss, N, rfl, hg, hnl, hol, hN, hos, hask⟩ := hrow d (List.mem_of_getElem? hd)
    refine ⟨_, eg_four, fun env2 ⟨w3, w4, w5, w6, h⟩ => ?_⟩
    subst h
    refine ex_forR (n := N) (fun a env' => ∃ bs' nn' u2 s7 s8 s9 s10 s11, BoxD (n + 30 * i + 6 * a) bs' ∧ env' = [Sl.own b bs', Sl.val v1 (.lst rs), Sl.val u2 (.bl nn'), Sl.val w3 w', Sl.val w4 (.lst gd), Sl.val w5 (.lst (nms.map D.str)), Sl.val w6 (.lst (oss.map D.lst)), s7, s8, s9, s10, s11])
      (ev_is (ev_cb (ea_cons (ev_var rfl) ea_nil) cb_lenL) (by rw [List.length_map, hnl])) (by omega) ⟨_, _, _, _, _, _, _, _, hB0, rfl⟩ ?_ fun env' h => ?_
    rotate_left
    · obtain ⟨bs', nn', u2, s7, s8, s9, s10, s11, hB, rfl⟩ := h
      exact ⟨_, _, _, _, _, _, _, _, _, _, _, _, hB.mono (by omega), rfl⟩
    rintro a env' va ha ⟨bs1, nn1, u2', s7, s8, s9, s10, s11, hB1, rfl⟩
    -- args, later
    refine ex_seq (N := fun e => ∃ p xs u t bs', xs.length = N ∧ t < 2 ∧ BoxD (n + 30 * i + 6 * a + 1) bs' ∧ e = [Sl.own b bs', Sl.val v1 (.lst rs), Sl.val u2' (.bl nn1), Sl.val w3 w', Sl.val w4 (.lst gd), Sl.val w5 (.lst (nms.map D.str)), Sl.val w6 (.lst (oss.map D.lst)), Sl.val va (.int (a : Nat)), Sl.own p (List.zipWith D.idn xs gd), Sl.val u (.int (t : Nat)), s10, s11])
      (ex_parL2 (ev_var rfl) (xe_callB rfl hB1 (by omega) (ea_cons ev_int ea_nil) (take_ok (m := 2) (by decide) (by decide))) fun p xs u d e hx hp => ?_) fun env' h => ?_
    · obtain ⟨⟨t, ht, rfl⟩, bs', hB', rfl⟩ := hp
      exact ⟨p, xs, u, t, bs', by rw [hx, hg], ht, hB', rfl⟩
    obtain ⟨p, xs, ul, t, bs2, hxl, ht2, hB2, rfl⟩ := h
    refine ex_forNS (fun i2 e => ∃ bs' ds s10, BoxD (n + 30 * i + 6 * a + 1 + i2) bs' ∧ ArgsI gd N oss a i2 ds ∧ e = [Sl.own b bs', Sl.val v1 (.lst rs), Sl.val u2' (.bl nn1), Sl.val w3 w', Sl.val w4 (.lst gd), Sl.val w5 (.lst (nms.map D.str)), Sl.val w6 (.lst (oss.map D.lst)), Sl.val va (.int (a : Nat)), Sl.own p ds, Sl.val ul (.int (t : Nat)), s10, s11])
      (ei_rng2 (m := (a : Nat)) (n := ((nms.map D.str).length : Nat)) (ea_cons (ev_var rfl) (ea_cons (ev_cb (ea_cons (ev_var rfl) ea_nil) cb_lenL) ea_nil)) (by rw [List.length_map]; omega)) ⟨_, _, _, hB2, args0 hxl hg ha, rfl⟩ ?_ fun env' h => ?_
    · rintro i2 env' vk dk hdk ⟨bs3, ds, s10', hB3, hA, rfl⟩
      have hlt : i2 < N - a := by
        have := (List.getElem?_eq_some_iff.mp hdk).1
        rw [rgD_length, List.length_map, hnl] at this
        omega
      obtain rfl : dk = .int ((a + i2 : Nat) : Int) := by
        rw [rgD_get (by rw [List.length_map, hnl]; omega)] at hdk
        rw [← Option.some.inj hdk]
        congr 1
      refine ex_if (et_or (et_test (ev_op (ev_var rfl) (ev_var rfl) op_eqI)) fun _ => et_test (ev_op (ev_var rfl) ev_int op_eqI)) (fun _ => ?_) fun hf => ?_
      · obtain ⟨os, hosk⟩ : ∃ os, oss[a + i2]? = some os := ⟨oss[a + i2]'(by omega), List.getElem?_eq_getElem (by omega)⟩
        obtain ⟨ho1, ho2, hoW⟩ := hos os (List.mem_of_getElem? hosk)
        refine ex_setOwnX (P1 := fun v d e => d ∈ os ∧ ∃ bs', BoxD (n + 30 * i + 6 * a + 1 + i2 + 1) bs' ∧ e = [Sl.own b bs', Sl.val v1 (.lst rs), Sl.val u2' (.bl nn1), Sl.val w3 w', Sl.val w4 (.lst gd), Sl.val w5 (.lst (nms.map D.str)), Sl.val w6 (.lst (oss.map D.lst)), Sl.val va (.int (a : Nat)), Sl.own p ds, Sl.val ul (.int (t : Nat)), Sl.val vk (.int ((a + i2 : Nat) : Int)), s11]) ?_ fun v d e hp => ?_
        · refine xe_call (P1 := fun vs xs e => ∃ x, xs = [x] ∧ x ∈ os ∧ ∃ bs', BoxD (n + 30 * i + 6 * a + 1 + i2 + 1) bs' ∧ e = [Sl.own b bs', Sl.val v1 (.lst rs), Sl.val u2' (.bl nn1), Sl.val w3 w', Sl.val w4 (.lst gd), Sl.val w5 (.lst (nms.map D.str)), Sl.val w6 (.lst (oss.map D.lst)), Sl.val va (.int (a : Nat)), Sl.own p ds, Sl.val ul (.int (t : Nat)), Sl.val vk (.int ((a + i2 : Nat) : Int)), s11]) ?_ fun vs xs e hp => ?_
          · refine xa_cons (P2 := fun _ _ vs ds9 e => vs = [] ∧ ds9 = [] ∧ ∃ bs', BoxD (n + 30 * i + 6 * a + 1 + i2 + 1) bs' ∧ e = [Sl.own b bs', Sl.val v1 (.lst rs), Sl.val u2' (.bl nn1), Sl.val w3 w', Sl.val w4 (.lst gd), Sl.val w5 (.lst (nms.map D.str)), Sl.val w6 (.lst (oss.map D.lst)), Sl.val va (.int (a : Nat)), Sl.own p ds, Sl.val ul (.int (t : Nat)), Sl.val vk (.int ((a + i2 : Nat) : Int)), s11])
              (P1 := fun v d e => d ∈ os ∧ ∃ bs', BoxD (n + 30 * i + 6 * a + 1 + i2 + 1) bs' ∧ e = [Sl.own b bs', Sl.val v1 (.lst rs), Sl.val u2' (.bl nn1), Sl.val w3 w', Sl.val w4 (.lst gd), Sl.val w5 (.lst (nms.map D.str)), Sl.val w6 (.lst (oss.map D.lst)), Sl.val va (.int (a : Nat)), Sl.own p ds, Sl.val ul (.int (t : Nat)), Sl.val vk (.int ((a + i2 : Nat) : Int)), s11]) ?_ (fun v d e hp => ?_) fun v d e vs xs e2 h1 h2 => ?_
            · have evW : EV K ⟨G, H, some b⟩ (tOp (rIx K) (tVar 6) (tVar 10)) [Sl.own b bs3, Sl.val v1 (.lst rs), Sl.val u2' (.bl nn1), Sl.val w3 w', Sl.val w4 (.lst gd), Sl.val w5 (.lst (nms.map D.str)), Sl.val w6 (.lst (oss.map D.lst)), Sl.val va (.int (a : Nat)), Sl.own p ds, Sl.val ul (.int (t : Nat)), Sl.val vk (.int ((a + i2 : Nat) : Int)), s11] (.lst os) :=
                ev_op (ev_var rfl) (ev_var rfl) (op_ix (.inr rfl) (atI_natD (by rw [List.getElem?_map, hosk]; rfl)))
              refine xe_op (P2 := fun _ v d e => ∃ t2 : Nat, t2 < os.length ∧ d = .int t2 ∧ ∃ bs', BoxD (n + 30 * i + 6 * a + 1 + i2 + 1) bs' ∧ e = [Sl.own b bs', Sl.val v1 (.lst rs), Sl.val u2' (.bl nn1), Sl.val w3 w', Sl.val w4 (.lst gd), Sl.val w5 (.lst (nms.map D.str)), Sl.val w6 (.lst (oss.map D.lst)), Sl.val va (.int (a : Nat)), Sl.own p ds, Sl.val ul (.int (t : Nat)), Sl.val vk (.int ((a + i2 : Nat) : Int)), s11]) evW.xe (fun v d e h => ?_) fun v d e v' d' e' h1 h2 => ?_
              · obtain ⟨rfl, rfl⟩ := h
                refine (xe_callB rfl hB3 (by omega) (ea_cons (ev_cb (ea_cons evW ea_nil) cb_lenL) ea_nil) (take_ok (m := os.length) ho1 (by omega))).imp fun v d e h => ?_
                obtain ⟨⟨t2, h1, rfl⟩, bs', hB', rfl⟩ := h
                exact ⟨t2, h1, rfl, bs', hB', rfl⟩
              · obtain ⟨rfl, _⟩ := h1
                obtain ⟨t2, ht, rfl, bs', hB', rfl⟩ := h2
                exact ⟨os[t2], op_ix (.inr rfl) (atI_natD (List.getElem?_eq_getElem ht)), fun v => ⟨List.getElem_mem _, bs', hB', rfl⟩⟩
            · obtain ⟨_, bs', hB', rfl⟩ := hp
              exact fun σ G H g Q q => q [] [] _ G H g (.refl g.gh) rfl .nil ⟨rfl, rfl, bs', hB', rfl⟩
            · obtain ⟨hd, _⟩ := h1
              obtain ⟨rfl, rfl, bs', hB', rfl⟩ := h2
              exact ⟨d, rfl, hd, bs', hB', rfl⟩
          · obtain ⟨x, rfl, hx, bs', hB', rfl⟩ := hp
            exact ⟨x, ⟨(hoW x hx).ty, (hoW x hx).top.symm⟩, fun v => ⟨hx, bs', hB', rfl⟩⟩
        · obtain ⟨hd, bs', hB', rfl⟩ := hp
          exact ⟨p, ds, ((a + i2 : Nat) : Int), a + i2, rfl, ev_var rfl, by rw [hA.1]; exact ixN_nat (by omega), bs', _, _, hB'.mono (by omega), args_set hA (by omega) hosk hd, rfl⟩
      · have hne : ¬ (((a + i2 : Nat) : Int) = (a : Int)) := fun z => by rw [decide_eq_true z] at hf; cases hf
        exact ex_next ⟨bs3, ds, _, hB3.mono (by omega), args_keep hA (by omega), rfl⟩
    obtain ⟨bs3, ds, s10', hB3, hA, rfl⟩ := h
    rw [rgD_length, List.length_map, hnl] at hB3 hA
    obtain ⟨u, x, os, hux, hosa, hxo⟩ := hA.2.2.2 (by omega)
    obtain ⟨vs, as, hvl, hasl, hds, hget⟩ := idns ds fun k hk => by
      obtain ⟨v, x, h, _⟩ := hA.2.2.1 k (by rw [← hA.1]; exact hk)
      exact ⟨v, x, h⟩
    obtain ⟨cl, nm, hnm, hED, hEN⟩ := hask a vs as ha (by rw [hvl, hA.1]) (by rw [hasl, hA.1]) (fun k hk => by
      obtain ⟨v, y, h1, h2⟩ := hA.2.1 k hk
      rw [(hget k v y h1).2, h2]) (fun k hk => by
      obtain ⟨v, y, h1, h2⟩ := hA.2.2.1 k hk
      rw [(hget k v y h1).2]
      rcases h2 with h2 | ⟨os', h2, h3⟩
      · exact .inl h2.symm
      · exact .inr ⟨os', y, h2, h3, rfl⟩) u x os (hget a u x hux).1 (hget a u x hux).2 hosa hxo
    refine ex_commit' (i := 8) rfl (fun σ G' H' g z => ?_) ?_
    · have hbp : b = p := Option.some.inj z
      have nd : (b :: p :: ([s10', s11].filterMap ownA)).Nodup := g.nd
      exact (List.nodup_cons.mp nd).1 (by rw [hbp]; exact List.mem_cons_self)
    refine ex_letR (F := fun _ d => d = .lst [.str nm, .idn u x]) (er_call (ea_cons (ev_var rfl) (ea_cons (ev_var rfl) (ea_cons (ev_var rfl) ea_nil))) (fun _ => ⟨w', ds, nn1, rfl, rfl, rfl, .inr ⟨vs, as, cl, nm, u, x, hds, hED, hEN, List.mem_of_getElem? hux, rfl⟩⟩) fun _ _ _ _ h => h) fun _ vt _ hd => ?_
    subst hd
    refine ex_when (b := false) (et_is (et_or (et_test (ev_op (ev_op (ev_var rfl) ev_int (op_ix (.inr rfl) (atI_natD (j := 0) rfl))) (ev_op (ev_var rfl) (ev_var rfl) (op_ix (.inr rfl) (atI_natD (by rw [List.getElem?_map, hnm]; rfl)))) op_neStr)) fun _ => et_not (et_B (ev_callR (d := .bl true) (vs := [u, u]) (ds := [.idn u x, .idn u x]) (eav_cons (evv_as (evv_idn (ev_op (ev_var rfl) ev_int (op_ix (.inr rfl) (atI_natD (j := 1) rfl))))) (eav_cons (evv_as (evv_idn (ev_op (ev_var rfl) (ev_var rfl) (op_ix (.inr rfl) (atI_natD hux))))) eav_nil)) fun σ G' H' g dl Q q => ?_))) (by simp)) (fun h => nomatch h) fun _ => ?_
    · cases dl with
      | cons dx _ =>
      exact ⟨G', u, x, rfl, g.gh, dx.strip, ((hos os (List.mem_of_getElem? hosa)).2.2 x hxo).ok, fun H2 e2 => q _ G' H2 ⟨.refl _, e2, g.gh.trans e2, fun _ h _ => h⟩ (.bl true)⟩
    exact ex_asg (ev_not (ev_var rfl)) fun v => ⟨_, _, _, _, _, _, _, _, hB3.mono (by omega), rfl⟩

end
end Kx


set_option Elab.async false
set_option linter.all false
set_option maxRecDepth 100000
set_option maxHeartbeats 2000000
namespace Kx
open PySem PySem.Spec PyProof.Rows L2 DL
section
variable {P : Program} {w : World} {K : PySem.W.Frag} {mg : Str → Option Value} {base : Heap}
theorem sm_tupN {k : Nat} {ms : List Nat} (h : ms.length < 10000) : Sm (k + 1) (tupN ms) (tupN ms) := Sm_items (.inr rfl) (by rw [List.length_map]; exact h) fun y hy => by
  obtain ⟨i, _, rfl⟩ := List.mem_map.mp hy
  exact Sm_atom rfl k
theorem hd_atom (l : List Nat) : isAtom (hdD l) = true := by cases l <;> rfl
theorem fl_small {n : Nat} {p : Nat → Bool} (h : n ≤ 10) : (fltN n p).length < 10000 := by
  have := fltN_len (n := n) (p := p)
  omega
theorem uni_small {n : Nat} {f : Tab} (h : n ≤ 10) : (uniL n f).length < 10000 := by
  unfold uniL
  split
  · decide
  · exact fl_small h
theorem res_ok {n : Nat} {f : Tab} (h : n ≤ 10) {r : D} (hr : r ∈ resD n f) : Sm 4 r r ∧ LsOk r := by
  unfold resD at hr
  simp only [List.mem_cons, List.not_mem_nil, or_false] at hr
  rcases hr with rfl | rfl | rfl | rfl | rfl | rfl | rfl | rfl | rfl | rfl | rfl
  · exact ⟨sm_tupN (fl_small h), ls_tup⟩
  · exact ⟨sm_tupN (fl_small h), ls_tup⟩
  · exact ⟨sm_tupN (fl_small h), ls_tup⟩
  · exact ⟨sm_tupN (fl_small h), ls_tup⟩
  · exact ⟨sm_tupN (fl_small h), ls_tup⟩
  · exact ⟨Sm_atom (hd_atom _) 4, ls_atom (hd_atom _)⟩
  · exact ⟨Sm_atom (hd_atom _) 4, ls_atom (hd_atom _)⟩
  · exact ⟨sm_tupN (fl_small h), ls_tup⟩
  · exact ⟨Sm_items (n := 3) (.inr rfl) (by show 2 < 10000; decide) fun y hy => by
      simp only [List.mem_cons, List.not_mem_nil, or_false] at hy
      rcases hy with rfl | rfl
      · exact Sm_atom rfl 3
      · exact Sm_atom rfl 3, ls_tup⟩
  · exact ⟨Sm_items (n := 3) (.inr rfl) (by show 2 < 10000; decide) fun y hy => by
      simp only [List.mem_cons, List.not_mem_nil, or_false] at hy
      rcases hy with rfl | rfl
      · exact sm_tupN (fl_small h)
      · exact sm_tupN (fl_small h), ls_tup⟩
  · exact ⟨sm_tupN (uni_small h), ls_tup⟩
theorem nodup_one {l : List Nat} {o : Nat} (hn : l.Nodup) (ho : o ∈ l) (hu : ∀ a ∈ l, a = o) : l = [o] := by
  match l, hn, ho, hu with
  | [a], _, _, hu => rw [hu a List.mem_cons_self]
  | a :: b :: l, hn, _, hu =>
    exfalso
    have h1 := hu a List.mem_cons_self
    have h2 := hu b (List.mem_cons_of_mem _ List.mem_cons_self)
    exact (List.nodup_cons.mp hn).1 (by rw [h1, h2]; exact List.mem_cons_self)
theorem two_one {L R O : List Nat} (hO : ∀ e, e ∈ O ↔ e ∈ L ∧ e ∈ R) (hu : ∀ a ∈ L, ∀ b ∈ R, a = b) (nL : L.Nodup) (nR : R.Nodup) : ∀ o l, O = o :: l → L = [o] ∧ R = [o] := fun o l h => by
  obtain ⟨h1, h2⟩ := (hO o).mp (by rw [h]; exact List.mem_cons_self)
  exact ⟨nodup_one nL h1 fun a ha => hu a ha o h2, nodup_one nR h2 fun a ha => (hu o h1 a ha).symm⟩
theorem et_two {β : Bas} {env : Env'} {ta tb tc : TE} {O L R : List Nat} (h1 : EV K β ta env (hdD O)) (h2 : EV K β tb env (tupN L)) (h3 : EV K β tc env (tupN R)) (hk : ∀ o l, O = o :: l → L = [o] ∧ R = [o]) :
    EVT K β (tAnd (tTest (tOp rNotN ta (tC .non))) (tOr (tTest (tOp (rNeD K) tb tc)) (tTest (tOp rNe (tCB (DL.rLen K) (tCons tb tNil)) (tC (.int 1)))))) env false := by
  cases O with
  | nil => exact et_is (et_and (a := false) (b := false) (et_test (ev_op (x := .non) h1 ev_non op_notNN)) fun h => nomatch h) rfl
  | cons o l =>
    obtain ⟨rfl, rfl⟩ := hk o l rfl
    exact et_is (et_and (et_test (ev_op (x := .int (o : Nat)) h1 ev_non op_notNI)) fun _ => et_or (et_test (ev_op h2 h3 op_neTT)) fun _ => et_test (ev_op (ev_cb (ea_cons h2 ea_nil) cb_lenT) (ev_int (i := 1)) op_neI)) (by simp)
theorem ev_ixR {β : Bas} {env : Env'} {te : TE} {s : Str} {r : D} {F : Hp → D → Prop} (he : EVR K β te env F) (hF : ∀ H d, F H d → ∃ u, d = .lst [.str s, .idn u r]) : EV K β (tOp (rIx K) te (tC (.int 1))) env r := fun σ G H g Q q =>
  he σ G H g _ fun v d G1 H1 t1 d1 f => by
    obtain ⟨u, rfl⟩ := hF _ _ f
    exact op_ix (K := K) (d := .idn u r) (i := 1) (.inr rfl) (atI_natD (j := 1) rfl) G1 H1 v (.int 1) t1.gh d1 (.int 1) Q fun w G2 H2 t2 d2 => q w G2 H2 (t1.trans t2) d2.strip
theorem flt_full {n : Nat} {p : Nat → Bool} (h : (fltN n p).length = n) : ∀ x, x < n → p x = true := fun x hx => by
  have h2 : (fltN n p).length = (List.range n).length := by rw [h, List.length_range]
  exact List.length_filter_eq_length_iff.mp h2 x (List.mem_range.mpr hx)
theorem nodup_cast {l : List Nat} (h : (l.map fun x => ((x : Nat) : Int)).Nodup) : l.Nodup := by
  rw [List.nodup_iff_pairwise_ne] at h ⊢
  rw [List.pairwise_map] at h
  exact h.imp fun h e => h (by rw [e])
theorem uni_full {n : Nat} {f : Tab} (hs : SgOk n f) (h1 : (lcaL n f).length = n) (h2 : (rcaL n f).length = n) : (uniL n f).length = n := by
  have q1 : ∀ x, x < n → ((List.range n).map (f x)).Nodup := fun x hx => by
    have h := of_decide_eq_true (flt_full h1 x hx)
    have hl : (rowI n f x).length = n := by unfold rowI; simp
    refine nodup_cast ?_
    rw [List.map_map]
    exact dcount_full.mp (h.trans hl.symm)
  have q2 : ∀ x, x < n → ((List.range n).map fun y => f y x).Nodup := fun x hx => by
    have h := of_decide_eq_true (flt_full h2 x hx)
    have hl : (colI n f x).length = n := by unfold colI; simp
    refine nodup_cast ?_
    rw [List.map_map]
    exact dcount_full.mp (h.trans hl.symm)
  obtain ⟨e, he, hid, hinv⟩ := MP.cancel_group hs.1.n1 hs.1.cl (fun a b c ha hb hc => hs.2.as a b c ha hb hc) q1 q2
  have hm : e ∈ oneL n f := fltN_mem.mpr ⟨he, allN_iff.mpr fun x hx => Bool.and_eq_true_iff.mpr ⟨decide_eq_true (hid x hx).1, decide_eq_true (hid x hx).2.symm⟩⟩
  unfold uniL
  cases q0 : oneL n f with
  | nil => rw [q0] at hm; cases hm
  | cons o l =>
    obtain ⟨g1, g2⟩ := (one_mem e).mp hm
    obtain ⟨g3, g4⟩ := (one_mem o).mp (by rw [q0]; exact List.mem_cons_self)
    have eo : o = e := one_uni o g3 e g2
    subst eo
    show (fltN n _).length = n
    have : fltN n (fun x => anyN n fun y => decide (f x y = o) && decide (o = f y x)) = List.range n := List.filter_eq_self.mpr fun x hx => by
      obtain ⟨y, hy, e1, e2⟩ := hinv x (List.mem_range.mp hx)
      exact anyN_iff.mpr ⟨y, hy, Bool.and_eq_true_iff.mpr ⟨decide_eq_true e1, decide_eq_true e2.symm⟩⟩
    rw [this, List.length_range]
theorem sg_flip {n : Nat} {f : Tab} (hs : SgOk n f) : SgOk n fun x y => f y x :=
  ⟨⟨hs.1.n1, hs.1.n10, fun a b ha hb => hs.1.cl b a hb ha⟩, ⟨fun a b ha hb => hs.1.cl b a hb ha, fun a b c ha hb hc => (hs.2.as c b a hc hb ha).symm⟩⟩
def turnD (n : Nat) (f : Tab) : List D := [tupN (idemL n f), tupN (ridL n f), tupN (lidL n f), tupN (rzeL n f), tupN (lzeL n f), hdD (oneL n f), hdD (zerL n f), tupN (cenL n f), commD n f, .tup [tupN (rcaL n f), tupN (lcaL n f)], tupN (uniL n f)]
theorem dec_comm (a b : Nat) : decide (a = b) = decide (b = a) := decide_eq_decide.mpr ⟨Eq.symm, Eq.symm⟩
theorem one_flip {n : Nat} {f : Tab} : oneL n (fun x y => f y x) = oneL n f := fltN_congr fun e _ => allN_congr fun x _ => by
  show (decide (f x e = x) && decide (x = f e x)) = (decide (f e x = x) && decide (x = f x e))
  rw [Bool.and_comm, dec_comm (f x e), dec_comm x (f e x)]
theorem zer_flip {n : Nat} {f : Tab} : zerL n (fun x y => f y x) = zerL n f := fltN_congr fun e _ => allN_congr fun x _ => by
  show (decide (f x e = e) && decide (e = f e x)) = (decide (f e x = e) && decide (e = f x e))
  rw [Bool.and_comm, dec_comm (f x e), dec_comm e (f e x)]
theorem cen_flip {n : Nat} {f : Tab} : cenL n (fun x y => f y x) = cenL n f := fltN_congr fun x _ => allN_congr fun y _ => dec_comm _ _
theorem cnt_flip {n : Nat} {f : Tab} : cntN n (fun x y => f y x) = cntN n f := by
  unfold cntN
  congr 1
  refine List.map_congr_left fun x _ => ?_
  congr 1
  exact fltN_congr fun y _ => dec_comm _ _
theorem uni_flip {n : Nat} {f : Tab} : uniL n (fun x y => f y x) = uniL n f := by
  unfold uniL
  rw [one_flip]
  cases oneL n f with
  | nil => rfl
  | cons e l =>
    refine fltN_congr fun x _ => anyN_congr fun y _ => ?_
    show (decide (f y x = e) && decide (e = f x y)) = (decide (f x y = e) && decide (e = f y x))
    rw [Bool.and_comm, dec_comm (f y x), dec_comm e (f x y)]
theorem res_flip {n : Nat} {f : Tab} : resD n (fun x y => f y x) = turnD n f := by
  unfold resD turnD commD
  rw [one_flip, zer_flip, cen_flip, cnt_flip, uni_flip]
  rfl
theorem turn_mem {n : Nat} {f : Tab} : (List.range 11).map (fun k => (resD n (fun x y => f y x)).getD k .non) = turnD n f := by
  rw [← res_flip]
  rfl
def R_law_table_right : List D → D → Prop
  | [t, nm], d => ∃ n f nn, SgOk n f ∧ t = tblD n f ∧ nm = .bl nn ∧ d = .bl true
  | _, _ => False
theorem ok_law_table_right (T : Tx K mg) : FnOk P w K mg base CX0 12 T.f_law_table_right T.d_law_table_right p_law_table_right (spD K R_law_table_right) := by
  refine T.F_law_table_right.ok sc_law_table_right (fun vs H Q E h => ?_) (fun cdv A outer s H vs Q E hr h => ?_)
  · obtain ⟨G, ds, d, e, hd, hR, q⟩ := h
    rw [hd.length]
    match ds, hR with
    | [_, _], _ => rfl
  · refine ⟨_, (pss_cons (ps_asg (pe_tup (pa_cons (pe_call (ok_law_dues T) (hr.mono (by omega)) (by rfl) T.g_law_dues T.F_law_dues.kp T.b_law_dues .nil pass0 (pa_cons (pv 0) pa_nil)) (pa_cons (pe_callB (call_lenK K) (by rfl) T.m_len (by decide +kernel) (pa_cons (pv 0) pa_nil)) pa_nil))) (pg_tupK K rfl (pgs_cons (pg_name (i := 2) sc_law_table_right.nd rfl (.inl rfl)) (pgs_cons (pg_name (i := 3) sc_law_table_right.nd rfl (.inr rfl)) pgs_nil))))
      (pss_cons (ps_for PassesOwn.never rfl (pi_range1 (by rfl) T.m_range (pa_cons pe_int pa_nil)) (pg_name (i := 4) sc_law_table_right.nd rfl (.inl rfl))
      (pss_cons (ps_if (pt_not (pt_val (pe_call (ok_law_twice T) (hr.mono (by omega)) (by rfl) T.g_law_twice T.F_law_twice.kp T.b_law_twice .nil pass0 (pa_cons (pv 4) (pa_cons (pe_lst (pa_cons (pv 0) pa_nil)) (pa_cons (pe_ix (ix_seqK K) (pv 2) (pv 4) (fun _ _ => rfl)) (pa_cons (pv 1) pa_nil))))))) (pss_one (ps_ret pe_bl)) pss_nil)
      (pss_one (ps_set (i := 1) sc_law_table_right.nd rfl (.inr rfl) (pe_not (pv 1))))))
      (pss_cons (ps_if (PW.pt (pw_or (PW.pt (pw_and (pt_cmpR op_notN1 (pe_ix (ix_seqK K) (pv 2) pe_int (fun _ _ => rfl)) pe_non (nomark _)) (pw_and1 (PW.pt (pw_or (pt_cmpR (op_neD hr.units) (pe_ix (ix_seqK K) (pv 2) pe_int (fun _ _ => rfl)) (pe_ix (ix_seqK K) (pv 2) pe_int (fun _ _ => rfl)) (nomark _)) (pw_or1 (pt_cmpR op_ne (pe_callB (call_lenK K) (by rfl) T.m_len (by decide +kernel) (pa_cons (pe_ix (ix_seqK K) (pv 2) pe_int (fun _ _ => rfl)) pa_nil)) pe_int (nomark _)))))))) (pw_or1 (PW.pt (pw_and (pt_cmpR op_notN1 (pe_ix (ix_seqK K) (pv 2) pe_int (fun _ _ => rfl)) pe_non (nomark _)) (pw_and1 (PW.pt (pw_or (pt_cmpR (op_neD hr.units) (pe_ix (ix_seqK K) (pv 2) pe_int (fun _ _ => rfl)) (pe_ix (ix_seqK K) (pv 2) pe_int (fun _ _ => rfl)) (nomark _)) (pw_or1 (pt_cmpR op_ne (pe_callB (call_lenK K) (by rfl) T.m_len (by decide +kernel) (pa_cons (pe_ix (ix_seqK K) (pv 2) pe_int (fun _ _ => rfl)) pa_nil)) pe_int (nomark _))))))))))) (pss_one (ps_ret pe_bl)) pss_nil)
      (pss_cons (ps_if (PW.pt (pw_and (pt_cmpR op_eq (pe_callB (call_lenK K) (by rfl) T.m_len (by decide +kernel) (pa_cons (pe_ix (ix_seqK K) (pe_ix (ix_seqK K) (pv 2) pe_int (fun _ _ => rfl)) pe_int (fun _ _ => rfl)) pa_nil)) (pv 3) (nomark _)) (pw_and (pt_cmpR op_eq (pe_callB (call_lenK K) (by rfl) T.m_len (by decide +kernel) (pa_cons (pe_ix (ix_seqK K) (pe_ix (ix_seqK K) (pv 2) pe_int (fun _ _ => rfl)) pe_int (fun _ _ => rfl)) pa_nil)) (pv 3) (nomark _)) (pw_and1 (pt_cmpR op_ne (pe_callB (call_lenK K) (by rfl) T.m_len (by decide +kernel) (pa_cons (pe_ix (ix_seqK K) (pv 2) pe_int (fun _ _ => rfl)) pa_nil)) (pv 3) (nomark _)))))) (pss_one (ps_ret pe_bl)) pss_nil)
      (pss_cons (ps_set (i := 5) sc_law_table_right.nd rfl (.inr rfl) (pe_tupleOfK K (by rfl) T.m_tuple (pe_lc (own := [("x", 8)]) rfl sc_law_table_right.nd (pi_range1 (by rfl) T.m_range (pa_cons (pv 3) pa_nil)) (blkOk_by (by rfl)) (fun _ _ _ _ _ => pg_name (i := 8) sc_law_table_right.nd rfl (by first | exact .inl rfl | exact .inr rfl)) (fun _ _ _ _ _ => pts_nil) (fun _ _ _ _ _ => (pe_tupleOfK K (by rfl) T.m_tuple (pe_lc (own := [("y", 7)]) rfl sc_law_table_right.nd (pi_range1 (by rfl) T.m_range (pa_cons (pv 3) pa_nil)) (blkOk_by (by rfl)) (fun _ _ _ _ _ => pg_name (i := 7) sc_law_table_right.nd rfl (by first | exact .inl rfl | exact .inr rfl)) (fun _ _ _ _ _ => pts_nil) (fun _ _ _ _ _ => (pe_ix (ix_seqK K) (pe_ix (ix_seqK K) (pv 0) (pv 7) (fun _ _ => rfl)) (pv 8) (fun _ _ => rfl)))))))))
      (pss_cons (ps_set (i := 6) sc_law_table_right.nd rfl (.inl rfl) (pe_lst (pa_cons (pe_ix (ix_seqK K) (pv 2) pe_int (fun _ _ => rfl)) (pa_cons (pe_ix (ix_seqK K) (pv 2) pe_int (fun _ _ => rfl)) (pa_cons (pe_ix (ix_seqK K) (pv 2) pe_int (fun _ _ => rfl)) (pa_cons (pe_ix (ix_seqK K) (pv 2) pe_int (fun _ _ => rfl)) (pa_cons (pe_ix (ix_seqK K) (pv 2) pe_int (fun _ _ => rfl)) (pa_cons (pe_ix (ix_seqK K) (pv 2) pe_int (fun _ _ => rfl)) (pa_cons (pe_ix (ix_seqK K) (pv 2) pe_int (fun _ _ => rfl)) (pa_cons (pe_ix (ix_seqK K) (pv 2) pe_int (fun _ _ => rfl)) (pa_cons (pe_ix (ix_seqK K) (pv 2) pe_int (fun _ _ => rfl)) (pa_cons (pe_tup (pa_cons (pe_ix (ix_seqK K) (pe_ix (ix_seqK K) (pv 2) pe_int (fun _ _ => rfl)) pe_int (fun _ _ => rfl)) (pa_cons (pe_ix (ix_seqK K) (pe_ix (ix_seqK K) (pv 2) pe_int (fun _ _ => rfl)) pe_int (fun _ _ => rfl)) pa_nil))) (pa_cons (pe_ix (ix_seqK K) (pv 2) pe_int (fun _ _ => rfl)) pa_nil)))))))))))))
      (pss_one (ps_ret (pe_call (ok_law_same T 6) (hr.mono (by omega)) (by rfl) T.g_law_same T.F_law_same.kp T.b_law_same .nil pass0 (pa_cons (pe_lc (own := [("word", 4)]) rfl sc_law_table_right.nd (pi_range1 (by rfl) T.m_range (pa_cons pe_int pa_nil)) (blkOk_by (by rfl)) (fun _ _ _ _ _ => pg_name (i := 4) sc_law_table_right.nd rfl (by first | exact .inl rfl | exact .inr rfl)) (fun _ _ _ _ _ => pts_nil) (fun _ _ _ _ _ => (pe_ix (ix_seqK K) (pe_call (ok_law_asked T) (hr.mono (by omega)) (by rfl) T.g_law_asked T.F_law_asked.kp T.b_law_asked .nil pass0 (pa_cons (pv 4) (pa_cons (pe_lst (pa_cons (pv 5) pa_nil)) (pa_cons (pv 1) pa_nil)))) pe_int (fun _ _ => rfl)))) (pa_cons (pv 6) pa_nil))))))))))), ?_⟩
    obtain ⟨G, ds, d, e, hd, hR, q⟩ := h
    have hl : ∃ x0 x1, ds = [x0, x1] := by
      match ds, hR with
      | [x0, x1], _ => exact ⟨x0, x1, rfl⟩
    obtain ⟨x0, x1, rfl⟩ := hl
    cases hd with
    | @cons v0 vs0 _ _ dv0 hd =>
    cases hd with
    | @cons v1 vs1 _ _ dv1 hd =>
    cases hd
    refine EX.fin (W := fun _ _ _ _ => False) (good_start e ((.cons dv0 (.cons dv1 .nil))) n_law_table_right) q ?_
    show EX K ⟨G, H, none⟩ _ _ [Sl.val v0 x0, Sl.val v1 x1, Sl.un, Sl.un, Sl.un, Sl.un, Sl.un, Sl.un, Sl.un] _
    obtain ⟨n, f, nn, hs, rfl, rfl, rfl⟩ := hR
    have hn := hs.1.n10
    have hl : n < 1000000 := by omega
    refine ex_let2G (d1 := .lst (resD n f)) (d2 := .int (n : Nat)) (ev_tup (ea_cons (ev_call (ea_cons (ev_var rfl) ea_nil) ⟨n, f, hs, rfl, rfl⟩) (ea_cons (ev_cb (ea_cons (ev_var rfl) ea_nil) cb_lenTbl) ea_nil)) (sz 2)) fun v2 v3 => ?_
    refine ex_forRS (n := 11) (fun _ e => ∃ (u : V) (nn : Bool) (s4 : Sl), e = [Sl.val v0 (tblD n f), Sl.val u (.bl nn), Sl.val v2 (.lst (resD n f)), Sl.val v3 (.int (n : Nat)), s4, Sl.un, Sl.un, Sl.un, Sl.un]) (ev_int (i := 11)) (by decide) ⟨v1, nn, _, rfl⟩ ?_ fun env' ⟨u, nn, s4, h⟩ => ?_
    · rintro i env' vi hi ⟨u, nn, s4, rfl⟩
      have hlen : (resD n f).length = 11 := rfl
      obtain ⟨r, hr⟩ : ∃ r, (resD n f)[i]? = some r := ⟨_, List.getElem?_eq_getElem (by omega)⟩
      obtain ⟨h1, h2⟩ := res_ok hn (List.mem_of_getElem? hr)
      refine ex_when (b := false) (et_is (et_not (et_B (ev_call (ea_cons (ev_var rfl) (ea_cons (ev_lst (ea_cons (ev_var rfl) ea_nil) (sz 1)) (ea_cons (ev_op (ev_var rfl) (ev_var rfl) (op_ix (.inr rfl) (atI_natD hr))) (ea_cons (ev_var rfl) ea_nil)))) ⟨.int (i : Nat), [tblD n f], nn, r, rfl, rfl, rfl, ⟨i, n, f, rfl, hs, rfl, hr⟩, h1, h2, rfl⟩))) rfl) (fun h => nomatch h) fun _ => ?_
      exact ex_asg (ev_not (ev_var rfl)) fun v => ⟨v, !nn, _, rfl⟩
    subst h
    have du : ∀ {k : Nat} {r : D}, (resD n f)[k]? = some r → EV K ⟨G, H, none⟩ (tOp (rIx K) (tVar 2) (tC (.int (k : Nat)))) [Sl.val v0 (tblD n f), Sl.val u (.bl nn), Sl.val v2 (.lst (resD n f)), Sl.val v3 (.int (n : Nat)), s4, Sl.un, Sl.un, Sl.un, Sl.un] r := fun h => ev_op (ev_var rfl) ev_int (op_ix (.inr rfl) (atI_natD h))
    refine ex_when (b := false) (et_is (et_or (et_two (du (k := 5) rfl) (du (k := 1) rfl) (du (k := 2) rfl) (two_one one_mem one_uni fltN_nodup fltN_nodup)) fun _ => et_two (du (k := 6) rfl) (du (k := 3) rfl) (du (k := 4) rfl) (two_one zer_mem zer_uni fltN_nodup fltN_nodup)) rfl) (fun h => nomatch h) fun _ => ?_
    have ca : ∀ {j : Nat} {L : List Nat}, ([tupN (lcaL n f), tupN (rcaL n f)] : List D)[j]? = some (tupN L) → EV K ⟨G, H, none⟩ (tOp (rIx K) (tOp (rIx K) (tVar 2) (tC (.int ((9 : Nat) : Int)))) (tC (.int (j : Nat)))) [Sl.val v0 (tblD n f), Sl.val u (.bl nn), Sl.val v2 (.lst (resD n f)), Sl.val v3 (.int (n : Nat)), s4, Sl.un, Sl.un, Sl.un, Sl.un] (tupN L) := fun h => ev_op (du (k := 9) (r := cancD n f) rfl) ev_int (op_ix (.inl rfl) (atI_natD h))
    have lenT : ∀ {te : TE} {env : Env'} {L : List Nat}, EV K ⟨G, H, none⟩ te env (tupN L) → EV K ⟨G, H, none⟩ (tCB (DL.rLen K) (tCons te tNil)) env (.int (L.length : Nat)) := fun h => ev_is (ev_cb (ea_cons h ea_nil) cb_lenT) (by rw [List.length_map])
    refine ex_when (b := false) (et_is (et_and (et_test (ev_op (lenT (ca (j := 0) rfl)) (ev_var rfl) op_eqN)) fun _ => et_and (et_test (ev_op (lenT (ca (j := 1) rfl)) (ev_var rfl) op_eqN)) fun _ => et_test (ev_op (lenT (du (k := 10) rfl)) (ev_var rfl) op_neI)) ?_) (fun h => nomatch h) fun _ => ?_
    · by_cases c1 : (lcaL n f).length = n
      · by_cases c2 : (rcaL n f).length = n
        · rw [uni_full hs c1 c2]
          simp
        · rw [decide_eq_false c2, Bool.false_and, Bool.and_false]
      · rw [decide_eq_false c1, Bool.false_and]
    refine ex_let (d := tblD n fun x y => f y x) (ev_tab (f := fun x y => f y x) (by omega) (ev_var rfl) (by decide) (by decide) (fun x v hx => ev_var rfl) fun x y vx vy hx hy => ev_row (ev_tbl (ev_var rfl) (ev_var rfl) hy) (ev_var rfl) hx) fun v5 => ?_
    show EX K ⟨G, H, none⟩ _ _ [Sl.val v0 (tblD n f), Sl.val u (.bl nn), Sl.val v2 (.lst (resD n f)), Sl.val v3 (.int (n : Nat)), s4, Sl.val v5 (tblD n fun x y => f y x), Sl.un, Sl.un, Sl.un] _
    have du' : ∀ {k : Nat} {r : D}, (resD n f)[k]? = some r → EV K ⟨G, H, none⟩ (tOp (rIx K) (tVar 2) (tC (.int (k : Nat)))) [Sl.val v0 (tblD n f), Sl.val u (.bl nn), Sl.val v2 (.lst (resD n f)), Sl.val v3 (.int (n : Nat)), s4, Sl.val v5 (tblD n fun x y => f y x), Sl.un, Sl.un, Sl.un] r := fun h => ev_op (ev_var rfl) ev_int (op_ix (.inr rfl) (atI_natD h))
    refine ex_let (d := .lst (turnD n f)) (ev_lst (ds := turnD n f) (ea_cons (du' (k := 0) rfl) (ea_cons (du' (k := 2) rfl) (ea_cons (du' (k := 1) rfl) (ea_cons (du' (k := 4) rfl) (ea_cons (du' (k := 3) rfl) (ea_cons (du' (k := 5) rfl) (ea_cons (du' (k := 6) rfl) (ea_cons (du' (k := 7) rfl) (ea_cons (du' (k := 8) rfl)
      (ea_cons (ev_tup (ea_cons (ev_op (du' (k := 9) (r := cancD n f) rfl) ev_int (op_ix (.inl rfl) (atI_natD (j := 1) rfl))) (ea_cons (ev_op (du' (k := 9) (r := cancD n f) rfl) ev_int (op_ix (.inl rfl) (atI_natD (j := 0) rfl))) ea_nil)) (sz 2)) (ea_cons (du' (k := 10) rfl) ea_nil))))))))))) (sz 11)) fun v6 => ?_
    show EX K ⟨G, H, none⟩ _ _ [Sl.val v0 (tblD n f), Sl.val u (.bl nn), Sl.val v2 (.lst (resD n f)), Sl.val v3 (.int (n : Nat)), s4, Sl.val v5 (tblD n fun x y => f y x), Sl.val v6 (.lst (turnD n f)), Sl.un, Sl.un] _
    refine ex_ret (ev_callSm (a := .lst (turnD n f)) (b := .lst (turnD n f)) (ea_cons (ev_is (ev_mapI (n := 11) (F := fun k => (resD n (fun x y => f y x)).getD k .non) (ei_rng1N (ev_int (i := 11)) (by decide)) (by decide) (by decide) fun k v hk => ?_) (congrArg D.lst turn_mem)) (ea_cons (ev_var rfl) ea_nil)) (Sm_items (.inl rfl) (by show 11 < 10000; decide) fun x hx => ?_)) fun v => rfl
    · obtain ⟨r, hr⟩ : ∃ r, (resD n (fun x y => f y x))[k]? = some r := ⟨_, List.getElem?_eq_getElem (show k < 11 from hk)⟩
      have er : (resD n (fun x y => f y x)).getD k .non = r := by rw [List.getD_eq_getElem?_getD, hr]; rfl
      rw [er]
      exact ev_ixR (s := "result") (F := fun H d => ∃ u, d = .lst [.str "result", .idn u r] ∧ Fr H u r) (er_call (ea_cons (ev_var rfl) (ea_cons (ev_lst (ea_cons (ev_var rfl) ea_nil) (sz 1)) (ea_cons (ev_var rfl) ea_nil))) (fun H => ⟨.int (k : Nat), [tblD n fun x y => f y x], nn, rfl, rfl, rfl, .inl ⟨r, ⟨k, n, _, rfl, sg_flip hs, rfl, hr⟩, fun u hu => ⟨u, rfl, hu⟩⟩⟩) (fun H H' d e ⟨u, h1, h2⟩ => ⟨u, h1, h2.back e⟩)) fun H d ⟨u, h1, _⟩ => ⟨u, h1⟩
    · rw [← res_flip] at hx
      exact (res_ok hn hx).1

end
end Kx


set_option Elab.async false
set_option linter.all false
set_option maxRecDepth 100000
set_option maxHeartbeats 2000000
namespace Kx
open PySem PySem.Spec PyProof.Rows L2 DL
section
variable {P : Program} {w : World} {K : PySem.W.Frag} {mg : Str → Option Value} {base : Heap}
theorem hu64 {k : Nat} {A : Around} (hr : Room k A) : A.units + 64 < cLine := by have := hr.un; omega

variable {β : Bas} {env : Env'}
theorem ev_lenS {a : Addr} {ns : List Int} (hb : β.bx = none) (hS : SqL K β.H a (ns.map V.int)) (h : env[0]? = some (.val (.ref a) (.op (.ref a)))) : EV K β (tCB (DL.rLen K) (tCons (tVar 0) tNil)) env (.int ns.length) := fun σ G H g Q q =>
  ⟨.ref a, slot_val g h, .ref a, (ns.map V.int).length, rfl, .inl ⟨_, ex_l (fun b o e => g.hh b o (by rw [hb]; exact (fun z => nomatch z)) e) hS, rfl⟩, by rw [List.length_map]; exact q _ G H (.refl g.gh) (.int _)⟩
theorem ev_cell {a : Addr} {ns : List Int} {k : Nat} {vk : V} {E : XK} (hb : β.bx = none) (hS : SqL K β.H a (ns.map V.int)) (h : env[0]? = some (.val (.ref a) (.op (.ref a)))) (hk : env[1]? = some (.val vk (.int (k : Nat)))) :
    EV K β (tCall (spCellL K) [] E (tCons (tVar 0) (tCons (tVar 1) tNil))) env (.int (cellF ns k)) :=
  ev_callR (eav_cons (evv_var h) (eav_cons (evv_intV (ev_var hk)) eav_nil)) fun σ G H g dl Q q => ⟨a, ns, k, rfl, ex_l (fun b o e => g.hh b o (by rw [hb]; exact (fun z => nomatch z)) e) hS, fun H' e' => q _ G H' ⟨.refl _, e', g.gh.trans e', fun _ h _ => h⟩ (.int _)⟩
/-- a draw, the box in any slot -/
theorem xe_takeI {i n m : Nat} {b : Addr} {bs : List D} {tm : TE} {E : XK} (hi : env[i]? = some (.own b bs)) (hB : BoxD n bs) (hn : n < 1000000000) (hm : EV K β tm env (.int (m : Nat))) (h1 : 1 ≤ m) (h2 : m < 1073741824) :
    XE K β (tCall (spB K 1 R_law_take) [] E (tCons (tVar i) (tCons tm tNil))) env (fun _ d e => ∃ t : Nat, t < m ∧ d = .int (t : Nat) ∧ ∃ bs', BoxD (n + 1) bs' ∧ e = env.set i (.own b bs')) :=
  (xe_callB hi hB (by omega) (ea_cons hm ea_nil) (take_ok h1 h2)).imp fun v d e ⟨⟨t, ht, hd⟩, bs', hB', he⟩ => ⟨t, ht, hd, bs', hB', he⟩
theorem xe_cTakeI {i n m c : Nat} {b : Addr} {bs : List D} {tm : TE} {E : XK} (hi : env[i]? = some (.own b bs)) (hB : BoxD n bs) (hn : n < 1000000000) (hm : EV K β tm env (.int (m : Nat))) (h1 : 1 ≤ m) (h2 : m < 1073741824) :
    XE K β (tOp (rI0 fun i j => .int (i + j)) (tC (.int (c : Nat))) (tCall (spB K 1 R_law_take) [] E (tCons (tVar i) (tCons tm tNil)))) env (fun _ d e => ∃ t : Nat, t < m ∧ d = .int ((c + t : Nat) : Int) ∧ ∃ bs', BoxD (n + 1) bs' ∧ e = env.set i (.own b bs')) :=
  xe_op (P2 := fun _ v d e => ∃ t : Nat, t < m ∧ d = .int (t : Nat) ∧ ∃ bs', BoxD (n + 1) bs' ∧ e = env.set i (.own b bs')) (ev_int (i := (c : Nat))).xe (fun v1 d1 e1 h => by obtain ⟨_, rfl⟩ := h; exact xe_takeI hi hB hn hm h1 h2) fun v1 d1 e1 v2 d2 e2 p1 p2 => by
    obtain ⟨rfl, _⟩ := p1
    obtain ⟨t, ht, rfl, h⟩ := p2
    exact ⟨_, op_addI, fun v => ⟨t, ht, by rw [show ((c + t : Nat) : Int) = (c : Int) + (t : Int) by omega], h⟩⟩
theorem xe_take0I {i n m : Nat} {b : Addr} {bs : List D} {tm : TE} {E : XK} (hi : env[i]? = some (.own b bs)) (hB : BoxD n bs) (hn : n < 1000000000) (hm : EV K β tm env (.int (m : Nat))) (h1 : 1 ≤ m) (h2 : m < 1073741824) :
    XE K β (tOp rEq (tCall (spB K 1 R_law_take) [] E (tCons (tVar i) (tCons tm tNil))) (tC (.int 0))) env (fun _ d e => ∃ t : Bool, d = .bl t ∧ ∃ bs', BoxD (n + 1) bs' ∧ e = env.set i (.own b bs')) :=
  xe_op (P2 := fun _ _ d e => d = .int 0 ∧ ∃ bs', BoxD (n + 1) bs' ∧ e = env.set i (.own b bs')) (xe_takeI hi hB hn hm h1 h2) (fun v d e h => by
    obtain ⟨t, ht, rfl, bs', hB', rfl⟩ := h
    exact (ev_int (i := 0)).xe.imp fun v d e ⟨h1, h2⟩ => ⟨h1, bs', hB', h2⟩) fun v1 d1 e1 v2 d2 e2 p1 p2 => by
    obtain ⟨t, ht, rfl, _⟩ := p1
    obtain ⟨rfl, bs', hB', rfl⟩ := p2
    exact ⟨_, op_eqI, fun v => ⟨_, rfl, bs', hB', rfl⟩⟩
def spLaw (K : PySem.W.Frag) : Sp := fun vs H Q _ => ∃ (a : Addr) (ns : List Int), vs = [.ref a] ∧ ns.length ≤ 63 ∧ SqL K H a (ns.map V.int) ∧ ∀ H', Q (.bl true) H'

def mostsN : List Nat := [10, 6, 7, 8, 5, 4, 9, 3]
theorem mosts_ok {t : Nat} (h : t < 8) : ∃ x, mostsN[t]? = some x ∧ 1 ≤ x ∧ x ≤ 10 := by
  have hl : t < mostsN.length := h
  refine ⟨mostsN[t], List.getElem?_eq_getElem hl, ?_⟩
  have all : ∀ x ∈ mostsN, 1 ≤ x ∧ x ≤ 10 := by decide
  exact all _ (List.getElem_mem hl)
def clk6 (x y : Nat) : Nat := (x + y) % 6
theorem sg_clk6 : SgOk 6 clk6 := SgOk.of (MP.semi_clock (by decide)) (by decide) (by decide)
def IsS (d : D) : Prop := ∃ m f, SgOk m f ∧ d = tblD m f
/-- the arguments, each a table of a semigroup, some of them drawn -/
theorem xa_sg {K : PySem.W.Frag} {β : Bas} {te : TE} {tr : TA} {env : Env'} {Ef : List D → Env'} {n1 n2 k : Nat} (h : XE K β te env (fun _ d e => IsS d ∧ ∃ bs', BoxD n1 bs' ∧ e = Ef bs'))
    (hr : ∀ bs', BoxD n1 bs' → XA K β tr (Ef bs') (fun _ ds e => (∀ d ∈ ds, IsS d) ∧ ds.length ≤ k ∧ ∃ bs', BoxD n2 bs' ∧ e = Ef bs')) : XA K β (tCons te tr) env (fun _ ds e => (∀ d ∈ ds, IsS d) ∧ ds.length ≤ k + 1 ∧ ∃ bs', BoxD n2 bs' ∧ e = Ef bs') :=
  xa_cons h (fun v d e p => by
    obtain ⟨_, bs', hB, rfl⟩ := p
    exact hr bs' hB) fun v d e vs ds e2 p1 p2 => by
    obtain ⟨h1, h2, h3⟩ := p2
    refine ⟨fun x hx => ?_, by rw [List.length_cons]; omega, h3⟩
    rcases List.mem_cons.mp hx with rfl | hx
    · exact p1.1
    · exact h1 x hx
theorem xa_sg0 {K : PySem.W.Frag} {β : Bas} {Ef : List D → Env'} {n2 : Nat} {bs : List D} {env : Env'} (hB : BoxD n2 bs) (he : env = Ef bs) : XA K β tNil env (fun _ ds e => (∀ d ∈ ds, IsS d) ∧ ds.length ≤ 0 ∧ ∃ bs', BoxD n2 bs' ∧ e = Ef bs') :=
  xa_nilP ⟨(fun d hd => nomatch hd), Nat.le_refl _, bs, hB, he⟩
def wrongD (m : Nat) (f : Nat → Nat → Nat) (k : Nat) : List D := noTabs m f ++ [tblD k nsF]
theorem wrong_ok {m k : Nat} {f : Nat → Nat → Nat} (hf : TabOk m f) (h2 : 2 ≤ k) (h6 : k ≤ 6) {x : D} (h : x ∈ wrongD m f k) : Wr x ∧ isSemi x = false := by
  rcases List.mem_append.mp h with h | h
  · obtain ⟨h1, h3⟩ := noTabs_wr hf h
    exact ⟨h1, isSemi_no h3⟩
  · rw [List.mem_singleton.mp h]
    exact ⟨tbl_wr (by omega), isSemi_ns h2 h6⟩
theorem wrongD_len (m : Nat) (f : Nat → Nat → Nat) (k : Nat) : (wrongD m f k).length = 29 := by
  unfold wrongD noTabs
  rw [List.length_append, List.length_append, List.length_append, List.length_map]
  rfl
theorem one_of {α : Type} {l : List α} (h : l.length = 1) : ∃ a, l = [a] := by
  match l, h with
  | [a], _ => exact ⟨a, rfl⟩
def rowW (m : Nat) (f : Nat → Nat → Nat) (kk : Nat) (j : Nat) : D := .tup [.int (j : Nat), .lst [tblD m f], .lst [.str "table"], .lst [.lst (wrongD m f kk)]]
theorem row_w {T : Tx K mg} {m kk j : Nat} {f : Nat → Nat → Nat} (hs : SgOk m f) (h2 : 2 ≤ kk) (h6 : kk ≤ 6) (hj : j < 11) : RowOk T (rowW m f kk j) := by
  refine ⟨.int (j : Nat), [tblD m f], ["table"], [wrongD m f kk], 1, rfl, rfl, rfl, rfl, by decide, fun os ho => ?_, ?_⟩
  · rw [List.mem_singleton.mp ho]
    exact ⟨by rw [wrongD_len]; decide, by rw [wrongD_len]; decide, fun x hx => (wrong_ok hs.1 h2 h6 hx).1⟩
  · intro a vs as ha hv has hlow hall u x os hu hx hos hxo
    obtain ⟨u0, rfl⟩ := one_of hv
    obtain ⟨a0, rfl⟩ := one_of has
    obtain rfl : a = 0 := by omega
    cases hu; cases hx; cases hos
    obtain ⟨hw, ht⟩ := wrong_ok hs.1 h2 h6 hxo
    exact ⟨_, "table", rfl, ⟨⟨j, hj, rfl⟩, rfl, rfl, hw.t3, ht, rfl, rfl, rfl⟩, ⟨rfl, rfl⟩⟩
theorem ok_law (T : Tx K mg) : FnOk P w K mg base CX0 13 T.f_law T.d_law p_law (spLaw K) := by
  refine T.F_law.ok sc_law (fun vs H Q E h => ?_) (fun cdv A outer s H vs Q E hr h => ?_)
  · obtain ⟨_, _, rfl, _⟩ := h; rfl
  · refine ⟨_, (pss_cons (ps_for PassesOwn.never rfl (pi_range1 (by rfl) T.m_range (pa_cons (pe_callB (call_max2 rfl) (by rfl) T.m_max (by decide +kernel) (pa_cons pe_int (pa_cons (pe_callB (call_min2 rfl) (by rfl) T.m_min (by decide +kernel) (pa_cons pe_int (pa_cons (pe_callB (call_lenK K) (by rfl) T.m_len (by decide +kernel) (pa_cons (pv 0) pa_nil)) pa_nil))) pa_nil))) pa_nil)) (pg_name (i := 1) sc_law.nd rfl (.inl rfl))
      (pss_cons (ps_set (i := 2) sc_law.nd rfl (.inl rfl) (pe_call (ok_law_box T) (hr.mono (by omega)) (by rfl) T.g_law_box T.F_law_box.kp T.b_law_box .nil pass0 (pa_cons (pe_call (ok_law_cell T) (hr.mono (by omega)) (by rfl) T.g_law_cell T.F_law_cell.kp T.b_law_cell .nil pass0 (pa_cons (pv 0) (pa_cons (pv 1) pa_nil))) pa_nil)))
      (pss_cons (ps_par (i := 3) (j := 4) rfl sc_law.nd rfl rfl (by decide) rfl rfl (pa_cons (pe_cmpR op_eq (pe_call (ok_law_take T) (hr.mono (by omega)) (by rfl) T.g_law_take T.F_law_take.kp T.b_law_take .nil pass0 (pa_cons (pv 2) (pa_cons pe_int pa_nil))) pe_int (nomark _)) (pa_cons (pe_ix (ix_seqK K) (pe_lst (pa_cons pe_int (pa_cons pe_int (pa_cons pe_int (pa_cons pe_int (pa_cons pe_int (pa_cons pe_int (pa_cons pe_int (pa_cons pe_int pa_nil))))))))) (pe_call (ok_law_take T) (hr.mono (by omega)) (by rfl) T.g_law_take T.F_law_take.kp T.b_law_take .nil pass0 (pa_cons (pv 2) (pa_cons pe_int pa_nil))) (fun _ _ => rfl)) pa_nil)) (by rfl))
      (pss_cons (ps_asg (pe_tup (pa_cons (pe_call (ok_law_drawn T) (hr.mono (by omega)) (by rfl) T.g_law_drawn T.F_law_drawn.kp T.b_law_drawn .nil pass0 (pa_cons (pv 2) (pa_cons (pv 4) pa_nil))) (pa_cons (pe_call (ok_law_plain T) (hr.mono (by omega)) (by rfl) T.g_law_plain T.F_law_plain.kp T.b_law_plain .nil pass0 (pa_cons (pv 2) (pa_cons (pv 4) pa_nil))) pa_nil))) (pg_tupK K rfl (pgs_cons (pg_name (i := 5) sc_law.nd rfl (.inr rfl)) (pgs_cons (pg_name (i := 6) sc_law.nd rfl (.inl rfl)) pgs_nil))))
      (pss_cons (ps_set (i := 7) sc_law.nd rfl (.inl rfl) (pe_tupleOfK K (by rfl) T.m_tuple (pe_lc (own := [("x", 11)]) rfl sc_law.nd (pi_range1 (by rfl) T.m_range (pa_cons pe_int pa_nil)) (blkOk_by (by rfl)) (fun _ _ _ _ _ => pg_name (i := 11) sc_law.nd rfl (by first | exact .inl rfl | exact .inr rfl)) (fun _ _ _ _ _ => pts_nil) (fun _ _ _ _ _ => (pe_tupleOfK K (by rfl) T.m_tuple (pe_lc (own := [("y", 10)]) rfl sc_law.nd (pi_range1 (by rfl) T.m_range (pa_cons pe_int pa_nil)) (blkOk_by (by rfl)) (fun _ _ _ _ _ => pg_name (i := 10) sc_law.nd rfl (by first | exact .inl rfl | exact .inr rfl)) (fun _ _ _ _ _ => pts_nil) (fun _ _ _ _ _ => (pe_op op_mod (pe_callTy call_int1 (by rfl) T.m_int (by decide +kernel) (pa_cons (pe_op op_add (pv 11) (pv 10)) pa_nil)) pe_int))))))))
      (pss_cons (ps_for PassesOwn.never rfl (pi_listK K (pe_lst (pa_cons (pv 5) (pa_cons (pv 6) (pa_cons (pe_call (ok_law_relabelled T) (hr.mono (by omega)) (by rfl) T.g_law_relabelled T.F_law_relabelled.kp T.b_law_relabelled .nil pass0 (pa_cons (pv 7) (pa_cons (pe_call (ok_law_mixed T) (hr.mono (by omega)) (by rfl) T.g_law_mixed T.F_law_mixed.kp T.b_law_mixed .nil pass0 (pa_cons (pv 2) (pa_cons (pe_listRg rfl (by rfl) T.m_list (prg_1 (by rfl) T.m_range pe_int)) pa_nil))) pa_nil))) (pa_cons (pe_call (ok_law_drawn T) (hr.mono (by omega)) (by rfl) T.g_law_drawn T.F_law_drawn.kp T.b_law_drawn .nil pass0 (pa_cons (pv 2) (pa_cons pe_int pa_nil))) pa_nil)))))) (pg_name (i := 8) sc_law.nd rfl (.inl rfl))
      (pss_cons (ps_if (pt_not (pt_val (pe_call (ok_law_table_right T) (hr.mono (by omega)) (by rfl) T.g_law_table_right T.F_law_table_right.kp T.b_law_table_right .nil pass0 (pa_cons (pv 8) (pa_cons (pv 3) pa_nil))))) (pss_one (ps_ret pe_bl)) pss_nil)
      (pss_one (ps_set (i := 3) sc_law.nd rfl (.inl rfl) (pe_not (pv 3))))))
      (pss_cons (ps_set (i := 9) sc_law.nd rfl (.inr rfl) (pe_op op_cat (pe_call (ok_law_no_tables T) (hr.mono (by omega)) (by rfl) T.g_law_no_tables T.F_law_no_tables.kp T.b_law_no_tables .nil pass0 (pa_cons (pv 5) pa_nil)) (pe_lst (pa_cons (pe_call (ok_law_no_semigroup T) (hr.mono (by omega)) (by rfl) T.g_law_no_semigroup T.F_law_no_semigroup.kp T.b_law_no_semigroup .nil pass0 (pa_cons (pe_op op_add pe_int (pe_call (ok_law_take T) (hr.mono (by omega)) (by rfl) T.g_law_take T.F_law_take.kp T.b_law_take .nil pass0 (pa_cons (pv 2) (pa_cons pe_int pa_nil)))) pa_nil)) pa_nil))))
      (pss_one (ps_if (pt_not (pt_val (pe_call (ok_law_refusals_right T) (hr.mono (by omega)) (by rfl) T.g_law_refusals_right T.F_law_refusals_right.kp T.b_law_refusals_right .nil pass0 (pa_cons (pv 2) (pa_cons (pe_lc (own := [("word", 12)]) rfl sc_law.nd (pi_range1 (by rfl) T.m_range (pa_cons pe_int pa_nil)) (blkOk_by (by rfl)) (fun _ _ _ _ _ => pg_name (i := 12) sc_law.nd rfl (by first | exact .inl rfl | exact .inr rfl)) (fun _ _ _ _ _ => pts_nil) (fun _ _ _ _ _ => (pe_tup (pa_cons (pv 12) (pa_cons (pe_lst (pa_cons (pv 5) pa_nil)) (pa_cons (pe_lst (pa_cons pe_str pa_nil)) (pa_cons (pe_lst (pa_cons (pv 9) pa_nil)) pa_nil))))))) (pa_cons (pv 3) pa_nil)))))) (pss_one (ps_ret pe_bl)) pss_nil)))))))))
      (pss_one (ps_ret pe_bl))), ?_⟩
    obtain ⟨a, ns, rfl, hlen, hS, q⟩ := h
    refine EX.fin (K := K) (W := fun _ _ _ _ => False) (d := .bl true) (good_start (G := fun _ => none) (ds := [.op (.ref a)]) (fun _ _ e => by cases e) (.cons (.op _) .nil) n_law) (fun v G' H' t dv => by obtain rfl := dv.blV; exact q H') ?_
    show EX K ⟨fun _ => none, H, none⟩ _ _ [Sl.val (.ref a) (.op (.ref a)), Sl.un, Sl.un, Sl.un, Sl.un, Sl.un, Sl.un, Sl.un, Sl.un, Sl.un, Sl.un, Sl.un, Sl.un] _
    refine ex_forRS (n := max 2 (min 4 ns.length)) (fun _ env' => ∃ s1 s2 s3 s4 s5 s6 s7 s8 s9 s10 s11 s12, env' = [Sl.val (.ref a) (.op (.ref a)), s1, s2, s3, s4, s5, s6, s7, s8, s9, s10, s11, s12]) (ev_is (ev_cb (ea_cons ev_int (ea_cons (ev_cb (ea_cons ev_int (ea_cons (ev_lenS rfl hS rfl) ea_nil)) cb_min2) ea_nil)) cb_max2) (congrArg D.int (by split <;> split <;> omega))) (by omega) ⟨_, _, _, _, _, _, _, _, _, _, _, _, rfl⟩ ?_ fun env' ⟨_, _, _, _, _, _, _, _, _, _, _, _, h⟩ => by subst h; exact ex_ret ev_bl fun v => rfl
    rintro k env' vk hk ⟨s1, s2, s3, s4, s5, s6, s7, s8, s9, s10, s11, s12, rfl⟩
    refine ex_letNew (ea_cons (ev_cell rfl hS rfl rfl) ea_nil) ⟨_, rfl, rfl⟩ fun b => ?_
    generalize hg : (if cellF ns k < 0 then -cellF ns k else cellF ns k) = gg
    have hg0 : 0 ≤ gg := by rw [← hg]; split <;> omega
    have hB0 : BoxD 0 [.int gg, .bl (decide ((10 : Int) ^ 18 ≤ gg)), .int (gg % 2147483629), .int 0] := ⟨gg, _, _, 0, rfl, hg0, Int.emod_nonneg _ (by decide), by have := Int.emod_lt_of_pos gg (show (0 : Int) < 2147483629 by decide); omega, by decide, by decide⟩
    generalize [D.int gg, D.bl (decide ((10 : Int) ^ 18 ≤ gg)), D.int (gg % 2147483629), D.int 0] = bs0 at hB0
    show EX K ⟨fun _ => none, H, none⟩ _ _ [Sl.val (.ref a) (.op (.ref a)), Sl.val vk (.int (k : Nat)), Sl.own b bs0, s3, s4, s5, s6, s7, s8, s9, s10, s11, s12] _
    -- named, most
    refine ex_parXS (xa_two2 (PP := fun ds e => ∃ (nn : Bool) (most : Nat) (bs : List D), 1 ≤ most ∧ most ≤ 10 ∧ ds = [.bl nn, .int (most : Nat)] ∧ BoxD 2 bs ∧ e = [Sl.val (.ref a) (.op (.ref a)), Sl.val vk (.int (k : Nat)), Sl.own b bs, s3, s4, s5, s6, s7, s8, s9, s10, s11, s12]) (xe_take0I (m := 2) rfl hB0 (by decide) (ev_int (i := 2)) (by decide) (by decide)) fun v d e h => ?_) fun vs ds e h => ?_
    · obtain ⟨nn, rfl, bs1, hB1, rfl⟩ := h
      refine xe_op (P2 := fun _ _ d e => ∃ t : Nat, t < 8 ∧ d = .int (t : Nat) ∧ ∃ bs, BoxD 2 bs ∧ e = [Sl.val (.ref a) (.op (.ref a)), Sl.val vk (.int (k : Nat)), Sl.own b bs, s3, s4, s5, s6, s7, s8, s9, s10, s11, s12]) (ev_lst (ds := lstN mostsN) (ea_cons ev_int (ea_cons ev_int (ea_cons ev_int (ea_cons ev_int (ea_cons ev_int (ea_cons ev_int (ea_cons ev_int (ea_cons ev_int ea_nil)))))))) (sz 8)).xe (fun v d e h => ?_) fun va da ea vb db eb pa pb => ?_
      · obtain ⟨rfl, rfl⟩ := h
        exact xe_takeI (m := 8) rfl hB1 (by decide) (ev_int (i := 8)) (by decide) (by decide)
      · obtain ⟨rfl, rfl⟩ := pa
        obtain ⟨t, ht, rfl, bs, hB, rfl⟩ := pb
        obtain ⟨x, hx, x1, x2⟩ := mosts_ok ht
        exact ⟨_, op_ixN hx, fun v => ⟨nn, x, bs, x1, x2, rfl, hB, rfl⟩⟩
    obtain ⟨nn, most, bs, hm1, hm10, rfl, hB2, rfl⟩ := h
    refine ⟨_, _, rfl, fun u3 u4 _ => ?_⟩
    show EX K ⟨fun _ => none, H, none⟩ _ _ [Sl.val (.ref a) (.op (.ref a)), Sl.val vk (.int (k : Nat)), Sl.own b bs, Sl.val u3 (.bl nn), Sl.val u4 (.int (most : Nat)), s5, s6, s7, s8, s9, s10, s11, s12] _
    -- table, plain
    refine ex_asgX2S (i := 5) (j := 6) (P1 := fun _ d e => ∃ (m : Nat) (f : Tab) (m1 : Nat) (f1 : Tab) (bs : List D), SgOk m f ∧ SgOk m1 f1 ∧ d = .tup [tblD m f, tblD m1 f1] ∧ BoxD 87 bs ∧ e = [Sl.val (.ref a) (.op (.ref a)), Sl.val vk (.int (k : Nat)), Sl.own b bs, Sl.val u3 (.bl nn), Sl.val u4 (.int (most : Nat)), s5, s6, s7, s8, s9, s10, s11, s12]) (xe_tup (xa_two2 (PP := fun ds e => ∃ (m : Nat) (f : Tab) (m1 : Nat) (f1 : Tab) (bs : List D), SgOk m f ∧ SgOk m1 f1 ∧ ds = [tblD m f, tblD m1 f1] ∧ BoxD 87 bs ∧ e = [Sl.val (.ref a) (.op (.ref a)), Sl.val vk (.int (k : Nat)), Sl.own b bs, Sl.val u3 (.bl nn), Sl.val u4 (.int (most : Nat)), s5, s6, s7, s8, s9, s10, s11, s12]) (xe_callB (Pd := IsS) rfl hB2 (by decide) (ea_cons (ev_var rfl) ea_nil) ⟨most, rfl, hm1, hm10, fun m f hs hm => ⟨m, f, hs, rfl⟩⟩) fun v d e h => ?_) fun vs ds e h => ?_) fun v d e h => ?_
    · obtain ⟨⟨m, f, hs, rfl⟩, bs4, hB4, rfl⟩ := h
      refine (xe_callB (Pd := IsS) rfl hB4 (by decide) (ea_cons (ev_var rfl) ea_nil) ⟨most, rfl, hm1, hm10, fun m f hs hm => ⟨m, f, hs, rfl⟩⟩).imp fun v d e h => ?_
      obtain ⟨⟨m1, f1, hs1, rfl⟩, bs5, hB5, rfl⟩ := h
      exact ⟨m, f, m1, f1, bs5, hs, hs1, rfl, hB5, rfl⟩
    · obtain ⟨m, f, m1, f1, bs5, hs, hs1, rfl, hB5, rfl⟩ := h
      exact ⟨sz 2, fun v => ⟨m, f, m1, f1, bs5, hs, hs1, rfl, hB5, rfl⟩⟩
    obtain ⟨m, f, m1, f1, bs5, hs, hs1, rfl, hB5, rfl⟩ := h
    refine ⟨_, _, rfl, fun u5 u6 => ?_⟩
    show EX K ⟨fun _ => none, H, none⟩ _ _ [Sl.val (.ref a) (.op (.ref a)), Sl.val vk (.int (k : Nat)), Sl.own b bs5, Sl.val u3 (.bl nn), Sl.val u4 (.int (most : Nat)), Sl.val u5 (tblD m f), Sl.val u6 (tblD m1 f1), s7, s8, s9, s10, s11, s12] _
    -- group
    refine ex_let (d := tblD 6 clk6) (ev_tab (n := 6) (f := clk6) (by decide) (ev_int (i := 6)) (by decide) (by decide) (fun x v hx => ev_int (i := 6)) fun x y vx vy hx hy => ev_is (ev_op (ev_cb (ea_cons (ev_op (ev_var rfl) (ev_var rfl) op_addI) ea_nil) cb_int) (ev_int (i := 6)) (op_modI (by decide))) rfl) fun u7 => ?_
    show EX K ⟨fun _ => none, H, none⟩ _ _ [Sl.val (.ref a) (.op (.ref a)), Sl.val vk (.int (k : Nat)), Sl.own b bs5, Sl.val u3 (.bl nn), Sl.val u4 (.int (most : Nat)), Sl.val u5 (tblD m f), Sl.val u6 (tblD m1 f1), Sl.val u7 (tblD 6 clk6), s8, s9, s10, s11, s12] _
    -- each
    refine ex_forXLS (P1 := fun _ d e => ∃ ds, d = .lst ds ∧ (∀ d ∈ ds, IsS d) ∧ ∃ bs', BoxD 300 bs' ∧ e = [Sl.val (.ref a) (.op (.ref a)), Sl.val vk (.int (k : Nat)), Sl.own b bs', Sl.val u3 (.bl nn), Sl.val u4 (.int (most : Nat)), Sl.val u5 (tblD m f), Sl.val u6 (tblD m1 f1), Sl.val u7 (tblD 6 clk6), s8, s9, s10, s11, s12]) (fun e => ∃ bs' u3 nn s8, BoxD 300 bs' ∧ e = [Sl.val (.ref a) (.op (.ref a)), Sl.val vk (.int (k : Nat)), Sl.own b bs', Sl.val u3 (.bl nn), Sl.val u4 (.int (most : Nat)), Sl.val u5 (tblD m f), Sl.val u6 (tblD m1 f1), Sl.val u7 (tblD 6 clk6), s8, s9, s10, s11, s12]) (xe_lst (P1 := fun _ ds e => (∀ d ∈ ds, IsS d) ∧ ds.length ≤ 4 ∧ ∃ bs', BoxD 300 bs' ∧ e = [Sl.val (.ref a) (.op (.ref a)), Sl.val vk (.int (k : Nat)), Sl.own b bs', Sl.val u3 (.bl nn), Sl.val u4 (.int (most : Nat)), Sl.val u5 (tblD m f), Sl.val u6 (tblD m1 f1), Sl.val u7 (tblD 6 clk6), s8, s9, s10, s11, s12]) ?_ fun vs ds e h => ?_) (fun v d e h => ?_) fun env' h => ?_
    · refine xa_sg (Ef := fun bs' => [Sl.val (.ref a) (.op (.ref a)), Sl.val vk (.int (k : Nat)), Sl.own b bs', Sl.val u3 (.bl nn), Sl.val u4 (.int (most : Nat)), Sl.val u5 (tblD m f), Sl.val u6 (tblD m1 f1), Sl.val u7 (tblD 6 clk6), s8, s9, s10, s11, s12]) (n1 := 87) (n2 := 300) (k := 3) (XE.imp (EV.xe (d := tblD m f) (ev_var rfl)) fun v d e h => ?_) fun bs7 hB7 => ?_
      · obtain ⟨rfl, rfl⟩ := h
        exact ⟨⟨m, f, hs, rfl⟩, bs5, hB5, rfl⟩
      refine xa_sg (Ef := fun bs' => [Sl.val (.ref a) (.op (.ref a)), Sl.val vk (.int (k : Nat)), Sl.own b bs', Sl.val u3 (.bl nn), Sl.val u4 (.int (most : Nat)), Sl.val u5 (tblD m f), Sl.val u6 (tblD m1 f1), Sl.val u7 (tblD 6 clk6), s8, s9, s10, s11, s12]) (n1 := 87) (n2 := 300) (k := 2) (XE.imp (EV.xe (d := tblD m1 f1) (ev_var rfl)) fun v d e h => ?_) fun bs8 hB8 => ?_
      · obtain ⟨rfl, rfl⟩ := h
        exact ⟨⟨m1, f1, hs1, rfl⟩, bs7, hB7, rfl⟩
      refine xa_sg (Ef := fun bs' => [Sl.val (.ref a) (.op (.ref a)), Sl.val vk (.int (k : Nat)), Sl.own b bs', Sl.val u3 (.bl nn), Sl.val u4 (.int (most : Nat)), Sl.val u5 (tblD m f), Sl.val u6 (tblD m1 f1), Sl.val u7 (tblD 6 clk6), s8, s9, s10, s11, s12]) (n1 := 97) (n2 := 300) (k := 1) (xe_call (xa_ev (d1 := tblD 6 clk6) (ev_var rfl) (xe_callB (Pd := fun d => ∃ ns, d = .lst (lstN ns) ∧ ns.Perm (List.range 6)) rfl hB8 (by decide) (ea_cons (ev_lstRg1 (ev_int (i := 6)) (by decide) (by decide)) ea_nil) ⟨List.range 6, by rw [show (6 : Int).toNat = 6 from rfl, rgD_rng], by decide, fun ns hns => ⟨ns, rfl, hns⟩⟩)) fun vs ds e h => ?_) fun bs9 hB9 => ?_
      · obtain ⟨v2, d2, rfl, ⟨ns', rfl, hns⟩, bs', hB', rfl⟩ := h
        exact ⟨tblD 6 (MP.relF clk6 ns'), ⟨6, clk6, ns', rfl, sg_clk6.1, rfl, hns, rfl⟩, fun v => ⟨⟨6, _, SgOk.of (MP.semi_rel sg_clk6.2 hns) (by decide) (by decide), rfl⟩, bs', hB', rfl⟩⟩
      refine xa_sg (Ef := fun bs' => [Sl.val (.ref a) (.op (.ref a)), Sl.val vk (.int (k : Nat)), Sl.own b bs', Sl.val u3 (.bl nn), Sl.val u4 (.int (most : Nat)), Sl.val u5 (tblD m f), Sl.val u6 (tblD m1 f1), Sl.val u7 (tblD 6 clk6), s8, s9, s10, s11, s12]) (n1 := 300) (n2 := 300) (k := 0) ((xe_callB (Pd := IsS) rfl hB9 (by decide) (ea_cons ev_int ea_nil) ⟨5, rfl, by decide, by decide, fun m f hs hm => ⟨m, f, hs, rfl⟩⟩).imp fun v d e h => ?_) fun bs11 hB11 => xa_sg0 hB11 rfl
      obtain ⟨hd, bs', hB', rfl⟩ := h
      exact ⟨hd, bs', hB'.mono (by decide), rfl⟩
    · obtain ⟨h1, h2, bs', hB', rfl⟩ := h
      exact ⟨by rw [sizeLine_eq]; omega, fun v => ⟨ds, rfl, h1, bs', hB', rfl⟩⟩
    · obtain ⟨ds, rfl, hds, bs7, hB7, rfl⟩ := h
      refine ⟨_, rfl, fun _ e => ∃ u3 nn s8, e = [Sl.val (.ref a) (.op (.ref a)), Sl.val vk (.int (k : Nat)), Sl.own b bs7, Sl.val u3 (.bl nn), Sl.val u4 (.int (most : Nat)), Sl.val u5 (tblD m f), Sl.val u6 (tblD m1 f1), Sl.val u7 (tblD 6 clk6), s8, s9, s10, s11, s12], ⟨u3, nn, s8, rfl⟩, ?_, fun env' ⟨u3, nn, s8, h⟩ => ⟨bs7, u3, nn, s8, hB7, h⟩⟩
      rintro j env' v8 d8 hd8 ⟨u3, nn, s8, rfl⟩
      obtain ⟨m3, f3, hs3, rfl⟩ := hds d8 (List.mem_of_getElem? hd8)
      refine ex_when (b := false) (et_is (et_not (et_B (ev_call (ea_cons (ev_var rfl) (ea_cons (ev_var rfl) ea_nil)) ⟨m3, f3, nn, hs3, rfl, rfl, rfl⟩))) rfl) (fun h => nomatch h) fun _ => ?_
      exact ex_asg (ev_not (ev_var rfl)) fun v => ⟨v, !nn, _, rfl⟩
    obtain ⟨bs7, u3, nn, s8, hB7, rfl⟩ := h
    -- wrong
    refine ex_letX (P := fun _ d e => ∃ kk bs', 2 ≤ kk ∧ kk ≤ 6 ∧ d = .lst (wrongD m f kk) ∧ BoxD 301 bs' ∧ e = [Sl.val (.ref a) (.op (.ref a)), Sl.val vk (.int (k : Nat)), Sl.own b bs', Sl.val u3 (.bl nn), Sl.val u4 (.int (most : Nat)), Sl.val u5 (tblD m f), Sl.val u6 (tblD m1 f1), Sl.val u7 (tblD 6 clk6), s8, s9, s10, s11, s12]) (xe_op (P2 := fun _ _ d e => ∃ kk bs', 2 ≤ kk ∧ kk ≤ 6 ∧ d = .lst [tblD kk nsF] ∧ BoxD 301 bs' ∧ e = [Sl.val (.ref a) (.op (.ref a)), Sl.val vk (.int (k : Nat)), Sl.own b bs', Sl.val u3 (.bl nn), Sl.val u4 (.int (most : Nat)), Sl.val u5 (tblD m f), Sl.val u6 (tblD m1 f1), Sl.val u7 (tblD 6 clk6), s8, s9, s10, s11, s12]) (ev_call (ea_cons (ev_var rfl) ea_nil) ⟨m, f, rfl, hs.1, rfl⟩).xe (fun v d e h => ?_) fun va da ea vb db eb pa pb => ?_) fun v9 d e h => ?_
    · obtain ⟨_, rfl⟩ := h
      refine xe_lst (P1 := fun _ ds e => ∃ kk bs', 2 ≤ kk ∧ kk ≤ 6 ∧ ds = [tblD kk nsF] ∧ BoxD 301 bs' ∧ e = [Sl.val (.ref a) (.op (.ref a)), Sl.val vk (.int (k : Nat)), Sl.own b bs', Sl.val u3 (.bl nn), Sl.val u4 (.int (most : Nat)), Sl.val u5 (tblD m f), Sl.val u6 (tblD m1 f1), Sl.val u7 (tblD 6 clk6), s8, s9, s10, s11, s12]) ((xa_one (xe_call (P := fun _ d e => ∃ kk bs', 2 ≤ kk ∧ kk ≤ 6 ∧ d = tblD kk nsF ∧ BoxD 301 bs' ∧ e = [Sl.val (.ref a) (.op (.ref a)), Sl.val vk (.int (k : Nat)), Sl.own b bs', Sl.val u3 (.bl nn), Sl.val u4 (.int (most : Nat)), Sl.val u5 (tblD m f), Sl.val u6 (tblD m1 f1), Sl.val u7 (tblD 6 clk6), s8, s9, s10, s11, s12]) (xa_one (xe_cTakeI (c := 2) (m := 5) rfl hB7 (by decide) (ev_int (i := 5)) (by decide) (by decide))) fun vs ds e h => ?_)).imp fun vs ds e h => ?_) fun vs ds e h => ?_
      · obtain ⟨v, d, rfl, t, ht, rfl, bs8, hB8, rfl⟩ := h
        exact ⟨_, ⟨2 + t, by omega, by omega, rfl, rfl⟩, fun v => ⟨2 + t, bs8, by omega, by omega, rfl, hB8, rfl⟩⟩
      · obtain ⟨v, d, rfl, kk, bs8, a1, a2, rfl, h⟩ := h
        exact ⟨kk, bs8, a1, a2, rfl, h⟩
      · obtain ⟨kk, bs8, a1, a2, rfl, h⟩ := h
        exact ⟨sz 1, fun v => ⟨kk, bs8, a1, a2, rfl, h⟩⟩
    · obtain ⟨rfl, _⟩ := pa
      obtain ⟨kk, bs8, a1, a2, rfl, h⟩ := pb
      exact ⟨_, op_catLD (by have := wrongD_len m f kk; unfold wrongD at this; rw [List.length_append] at this; rw [this, sizeLine_eq]; decide), fun v => ⟨kk, bs8, a1, a2, rfl, h⟩⟩
    obtain ⟨kk, bs8, hk2, hk6, rfl, hB8, rfl⟩ := h
    show EX K ⟨fun _ => none, H, none⟩ _ _ [Sl.val (.ref a) (.op (.ref a)), Sl.val vk (.int (k : Nat)), Sl.own b bs8, Sl.val u3 (.bl nn), Sl.val u4 (.int (most : Nat)), Sl.val u5 (tblD m f), Sl.val u6 (tblD m1 f1), Sl.val u7 (tblD 6 clk6), s8, Sl.val v9 (.lst (wrongD m f kk)), s10, s11, s12] _
    refine ex_ifX (P1 := fun bb e => bb = false ∧ ∃ s1 s2 s3 s4 s5 s6 s7 s8 s9 s10 s11 s12, e = [Sl.val (.ref a) (.op (.ref a)), s1, s2, s3, s4, s5, s6, s7, s8, s9, s10, s11, s12]) (xt_not (P1 := fun bb e => bb = true ∧ ∃ s1 s2 s3 s4 s5 s6 s7 s8 s9 s10 s11 s12, e = [Sl.val (.ref a) (.op (.ref a)), s1, s2, s3, s4, s5, s6, s7, s8, s9, s10, s11, s12]) (xt_B (xe_callB (Pd := fun d => d = .bl true) rfl hB8 (by decide) (ea_cons (ev_mapI (n := 11) (F := rowW m f kk) (ei_rng1N (ev_int (i := 11)) (by decide)) (by decide) (by decide) fun j v hj => ev_tup (ea_cons (ev_var rfl) (ea_cons (ev_lst (ea_cons (ev_var rfl) ea_nil) (sz 1)) (ea_cons (ev_lst (ea_cons ev_str ea_nil) (sz 1)) (ea_cons (ev_lst (ea_cons (ev_var rfl) ea_nil) (sz 1)) ea_nil)))) (sz 4)) (ea_cons (ev_var rfl) ea_nil)) ⟨_, nn, rfl, rfl, by rw [List.length_map, List.length_range]; decide, fun d hd => ?_, rfl⟩) fun v d e h => ?_) fun bb e h => ?_) (fun e h => ?_) fun e h => ?_
    · obtain ⟨j, hj, rfl⟩ := List.mem_map.mp hd
      exact row_w hs hk2 hk6 (List.mem_range.mp hj)
    · obtain ⟨rfl, bs9, _, rfl⟩ := h
      exact ⟨true, rfl, rfl, _, _, _, _, _, _, _, _, _, _, _, _, rfl⟩
    · obtain ⟨rfl, h⟩ := h
      exact ⟨rfl, h⟩
    · exact absurd h.1 (fun z => nomatch z)
    · exact ex_next h.2

end
end Kx


set_option Elab.async false
set_option linter.all false
set_option maxRecDepth 100000
set_option maxHeartbeats 8000000
namespace Kx
open PySem PySem.Spec PyProof.Rows L2 DL
/-! ### what the top has written -/

theorem all_mk {P : Program} {w : World} {K : PySem.W.Frag} {h : Heap} {mg : Str → Option Value} {fa : Addr} (X : K.In h) (G : h.Ns mainGlobals mg) (hfa : mg "law" = some (.ref fa))
    {f0 : Addr} {od0 an0 : Option Addr} {sl0 : Array (Option Value)} {oc0 kV0 dc0 pm0 cd0 ct0 : Value}
    {f1 : Addr} {od1 an1 : Option Addr} {sl1 : Array (Option Value)} {oc1 kV1 dc1 pm1 cd1 ct1 : Value}
    {f2 : Addr} {od2 an2 : Option Addr} {sl2 : Array (Option Value)} {oc2 kV2 dc2 pm2 cd2 ct2 : Value}
    {f3 : Addr} {od3 an3 : Option Addr} {sl3 : Array (Option Value)} {oc3 kV3 dc3 pm3 cd3 ct3 : Value}
    {f4 : Addr} {od4 an4 : Option Addr} {sl4 : Array (Option Value)} {oc4 kV4 dc4 pm4 cd4 ct4 : Value}
    {f5 : Addr} {od5 an5 : Option Addr} {sl5 : Array (Option Value)} {oc5 kV5 dc5 pm5 cd5 ct5 : Value}
    {f6 : Addr} {od6 an6 : Option Addr} {sl6 : Array (Option Value)} {oc6 kV6 dc6 pm6 cd6 ct6 : Value}
    {f7 : Addr} {od7 an7 : Option Addr} {sl7 : Array (Option Value)} {oc7 kV7 dc7 pm7 cd7 ct7 : Value}
    {f8 : Addr} {od8 an8 : Option Addr} {sl8 : Array (Option Value)} {oc8 kV8 dc8 pm8 cd8 ct8 : Value}
    {f9 : Addr} {od9 an9 : Option Addr} {sl9 : Array (Option Value)} {oc9 kV9 dc9 pm9 cd9 ct9 : Value}
    {f10 : Addr} {od10 an10 : Option Addr} {sl10 : Array (Option Value)} {oc10 kV10 dc10 pm10 cd10 ct10 : Value}
    {f11 : Addr} {od11 an11 : Option Addr} {sl11 : Array (Option Value)} {oc11 kV11 dc11 pm11 cd11 ct11 : Value}
    {f12 : Addr} {od12 an12 : Option Addr} {sl12 : Array (Option Value)} {oc12 kV12 dc12 pm12 cd12 ct12 : Value}
    {f13 : Addr} {od13 an13 : Option Addr} {sl13 : Array (Option Value)} {oc13 kV13 dc13 pm13 cd13 ct13 : Value}
    {f14 : Addr} {od14 an14 : Option Addr} {sl14 : Array (Option Value)} {oc14 kV14 dc14 pm14 cd14 ct14 : Value}
    {f15 : Addr} {od15 an15 : Option Addr} {sl15 : Array (Option Value)} {oc15 kV15 dc15 pm15 cd15 ct15 : Value}
    {f16 : Addr} {od16 an16 : Option Addr} {sl16 : Array (Option Value)} {oc16 kV16 dc16 pm16 cd16 ct16 : Value}
    {f17 : Addr} {od17 an17 : Option Addr} {sl17 : Array (Option Value)} {oc17 kV17 dc17 pm17 cd17 ct17 : Value}
    {f18 : Addr} {od18 an18 : Option Addr} {sl18 : Array (Option Value)} {oc18 kV18 dc18 pm18 cd18 ct18 : Value}
    {f19 : Addr} {od19 an19 : Option Addr} {sl19 : Array (Option Value)} {oc19 kV19 dc19 pm19 cd19 ct19 : Value}
    {f20 : Addr} {od20 an20 : Option Addr} {sl20 : Array (Option Value)} {oc20 kV20 dc20 pm20 cd20 ct20 : Value}
    {f21 : Addr} {od21 an21 : Option Addr} {sl21 : Array (Option Value)} {oc21 kV21 dc21 pm21 cd21 ct21 : Value}
    {f22 : Addr} {od22 an22 : Option Addr} {sl22 : Array (Option Value)} {oc22 kV22 dc22 pm22 cd22 ct22 : Value}
    {f23 : Addr} {od23 an23 : Option Addr} {sl23 : Array (Option Value)} {oc23 kV23 dc23 pm23 cd23 ct23 : Value}
    {f24 : Addr} {od24 an24 : Option Addr} {sl24 : Array (Option Value)} {oc24 kV24 dc24 pm24 cd24 ct24 : Value}
    {f25 : Addr} {od25 an25 : Option Addr} {sl25 : Array (Option Value)} {oc25 kV25 dc25 pm25 cd25 ct25 : Value}
    {f26 : Addr} {od26 an26 : Option Addr} {sl26 : Array (Option Value)} {oc26 kV26 dc26 pm26 cd26 ct26 : Value}
    {f27 : Addr} {od27 an27 : Option Addr} {sl27 : Array (Option Value)} {oc27 kV27 dc27 pm27 cd27 ct27 : Value}
    {f28 : Addr} {od28 an28 : Option Addr} {sl28 : Array (Option Value)} {oc28 kV28 dc28 pm28 cd28 ct28 : Value}
    {f29 : Addr} {od29 an29 : Option Addr} {sl29 : Array (Option Value)} {oc29 kV29 dc29 pm29 cd29 ct29 : Value}
    {f30 : Addr} {od30 an30 : Option Addr} {sl30 : Array (Option Value)} {oc30 kV30 dc30 pm30 cd30 ct30 : Value}
    {f31 : Addr} {od31 an31 : Option Addr} {sl31 : Array (Option Value)} {oc31 kV31 dc31 pm31 cd31 ct31 : Value}
    {f32 : Addr} {od32 an32 : Option Addr} {sl32 : Array (Option Value)} {oc32 kV32 dc32 pm32 cd32 ct32 : Value}
    {f33 : Addr} {od33 an33 : Option Addr} {sl33 : Array (Option Value)} {oc33 kV33 dc33 pm33 cd33 ct33 : Value}
    {f34 : Addr} {od34 an34 : Option Addr} {sl34 : Array (Option Value)} {oc34 kV34 dc34 pm34 cd34 ct34 : Value}
    {f35 : Addr} {od35 an35 : Option Addr} {sl35 : Array (Option Value)} {oc35 kV35 dc35 pm35 cd35 ct35 : Value}
    {f36 : Addr} {od36 an36 : Option Addr} {sl36 : Array (Option Value)} {oc36 kV36 dc36 pm36 cd36 ct36 : Value}
    {f37 : Addr} {od37 an37 : Option Addr} {sl37 : Array (Option Value)} {oc37 kV37 dc37 pm37 cd37 ct37 : Value}
    {f38 : Addr} {od38 an38 : Option Addr} {sl38 : Array (Option Value)} {oc38 kV38 dc38 pm38 cd38 ct38 : Value}
    {f39 : Addr} {od39 an39 : Option Addr} {sl39 : Array (Option Value)} {oc39 kV39 dc39 pm39 cd39 ct39 : Value}
    {f40 : Addr} {od40 an40 : Option Addr} {sl40 : Array (Option Value)} {oc40 kV40 dc40 pm40 cd40 ct40 : Value}
    {f41 : Addr} {od41 an41 : Option Addr} {sl41 : Array (Option Value)} {oc41 kV41 dc41 pm41 cd41 ct41 : Value}
    {f42 : Addr} {od42 an42 : Option Addr} {sl42 : Array (Option Value)} {oc42 kV42 dc42 pm42 cd42 ct42 : Value}
    {f43 : Addr} {od43 an43 : Option Addr} {sl43 : Array (Option Value)} {oc43 kV43 dc43 pm43 cd43 ct43 : Value}
    {f44 : Addr} {od44 an44 : Option Addr} {sl44 : Array (Option Value)} {oc44 kV44 dc44 pm44 cd44 ct44 : Value}
    {f45 : Addr} {od45 an45 : Option Addr} {sl45 : Array (Option Value)} {oc45 kV45 dc45 pm45 cd45 ct45 : Value}
    {f46 : Addr} {od46 an46 : Option Addr} {sl46 : Array (Option Value)} {oc46 kV46 dc46 pm46 cd46 ct46 : Value}
    {f47 : Addr} {od47 an47 : Option Addr} {sl47 : Array (Option Value)} {oc47 kV47 dc47 pm47 cd47 ct47 : Value}
    {cB : Addr}
    {cE0 iE0 : Addr} {nmE0 qE0 : Str} {NE0 : Addr} {bsE0 bmE0 : List Value} {snE0 : List Str} {subE0 : List Value} {abE0 : Bool} {colE0 : Option Bool} {ddE0 : Option Addr} {m0E0 m1E0 m2E0 m3E0 m5E0 : Option Value} {odE0 anE0 : Option Addr} {slE0 : Array (Option Value)} {ocE0 kVE0 dcE0 pmE0 cdE0 ctE0 : Value}
    {tG_MOST_ELEMENTS : Tok}
    (a0 : PySem.W.nsIn K mainGlobals "is_integer" = some (some (.ref f0)))
    (l0 : K.lookup f0 = some ⟨oc0, od0, .func (PySem.W.fnOf "is_integer" "is_integer" (defArgs s_is_integer) (defBody s_is_integer) (defScope s_is_integer) .none kV0 dc0 pm0 an0 cd0 ct0), sl0⟩)
    (c0 : PySem.W.codeIn K cd0 "is_integer" = true)
    (k0 : PySem.W.keepIn K (.ref f0) = true)
    (a1 : PySem.W.nsIn K mainGlobals "is_within" = some (some (.ref f1)))
    (l1 : K.lookup f1 = some ⟨oc1, od1, .func (PySem.W.fnOf "is_within" "is_within" (defArgs s_is_within) (defBody s_is_within) (defScope s_is_within) .none kV1 dc1 pm1 an1 cd1 ct1), sl1⟩)
    (c1 : PySem.W.codeIn K cd1 "is_within" = true)
    (k1 : PySem.W.keepIn K (.ref f1) = true)
    (a2 : PySem.W.nsIn K mainGlobals "is_index" = some (some (.ref f2)))
    (l2 : K.lookup f2 = some ⟨oc2, od2, .func (PySem.W.fnOf "is_index" "is_index" (defArgs s_is_index) (defBody s_is_index) (defScope s_is_index) .none kV2 dc2 pm2 an2 cd2 ct2), sl2⟩)
    (c2 : PySem.W.codeIn K cd2 "is_index" = true)
    (k2 : PySem.W.keepIn K (.ref f2) = true)
    (a3 : PySem.W.nsIn K mainGlobals "is_list" = some (some (.ref f3)))
    (l3 : K.lookup f3 = some ⟨oc3, od3, .func (PySem.W.fnOf "is_list" "is_list" (defArgs s_is_list) (defBody s_is_list) (defScope s_is_list) .none kV3 dc3 pm3 an3 cd3 ct3), sl3⟩)
    (c3 : PySem.W.codeIn K cd3 "is_list" = true)
    (k3 : PySem.W.keepIn K (.ref f3) = true)
    (a4 : PySem.W.nsIn K mainGlobals "is_tuple" = some (some (.ref f4)))
    (l4 : K.lookup f4 = some ⟨oc4, od4, .func (PySem.W.fnOf "is_tuple" "is_tuple" (defArgs s_is_tuple) (defBody s_is_tuple) (defScope s_is_tuple) .none kV4 dc4 pm4 an4 cd4 ct4), sl4⟩)
    (c4 : PySem.W.codeIn K cd4 "is_tuple" = true)
    (k4 : PySem.W.keepIn K (.ref f4) = true)
    (a5 : PySem.W.nsIn K mainGlobals "are_elements" = some (some (.ref f5)))
    (l5 : K.lookup f5 = some ⟨oc5, od5, .func (PySem.W.fnOf "are_elements" "are_elements" (defArgs s_are_elements) (defBody s_are_elements) (defScope s_are_elements) .none kV5 dc5 pm5 an5 cd5 ct5), sl5⟩)
    (c5 : PySem.W.codeIn K cd5 "are_elements" = true)
    (k5 : PySem.W.keepIn K (.ref f5) = true)
    (a6 : PySem.W.nsIn K mainGlobals "is_table" = some (some (.ref f6)))
    (l6 : K.lookup f6 = some ⟨oc6, od6, .func (PySem.W.fnOf "is_table" "is_table" (defArgs s_is_table) (defBody s_is_table) (defScope s_is_table) .none kV6 dc6 pm6 an6 cd6 ct6), sl6⟩)
    (c6 : PySem.W.codeIn K cd6 "is_table" = true)
    (k6 : PySem.W.keepIn K (.ref f6) = true)
    (a7 : PySem.W.nsIn K mainGlobals "is_broken" = some (some (.ref f7)))
    (l7 : K.lookup f7 = some ⟨oc7, od7, .func (PySem.W.fnOf "is_broken" "is_broken" (defArgs s_is_broken) (defBody s_is_broken) (defScope s_is_broken) .none kV7 dc7 pm7 an7 cd7 ct7), sl7⟩)
    (c7 : PySem.W.codeIn K cd7 "is_broken" = true)
    (k7 : PySem.W.keepIn K (.ref f7) = true)
    (a8 : PySem.W.nsIn K mainGlobals "broken_with" = some (some (.ref f8)))
    (l8 : K.lookup f8 = some ⟨oc8, od8, .func (PySem.W.fnOf "broken_with" "broken_with" (defArgs s_broken_with) (defBody s_broken_with) (defScope s_broken_with) .none kV8 dc8 pm8 an8 cd8 ct8), sl8⟩)
    (c8 : PySem.W.codeIn K cd8 "broken_with" = true)
    (k8 : PySem.W.keepIn K (.ref f8) = true)
    (a9 : PySem.W.nsIn K mainGlobals "is_semigroup" = some (some (.ref f9)))
    (l9 : K.lookup f9 = some ⟨oc9, od9, .func (PySem.W.fnOf "is_semigroup" "is_semigroup" (defArgs s_is_semigroup) (defBody s_is_semigroup) (defScope s_is_semigroup) .none kV9 dc9 pm9 an9 cd9 ct9), sl9⟩)
    (c9 : PySem.W.codeIn K cd9 "is_semigroup" = true)
    (k9 : PySem.W.keepIn K (.ref f9) = true)
    (a10 : PySem.W.nsIn K mainGlobals "check_semigroup" = some (some (.ref f10)))
    (l10 : K.lookup f10 = some ⟨oc10, od10, .func (PySem.W.fnOf "check_semigroup" "check_semigroup" (defArgs s_check_semigroup) (defBody s_check_semigroup) (defScope s_check_semigroup) .none kV10 dc10 pm10 an10 cd10 ct10), sl10⟩)
    (c10 : PySem.W.codeIn K cd10 "check_semigroup" = true)
    (k10 : PySem.W.keepIn K (.ref f10) = true)
    (a11 : PySem.W.nsIn K mainGlobals "idempotents_in" = some (some (.ref f11)))
    (l11 : K.lookup f11 = some ⟨oc11, od11, .func (PySem.W.fnOf "idempotents_in" "idempotents_in" (defArgs s_idempotents_in) (defBody s_idempotents_in) (defScope s_idempotents_in) .none kV11 dc11 pm11 an11 cd11 ct11), sl11⟩)
    (c11 : PySem.W.codeIn K cd11 "idempotents_in" = true)
    (k11 : PySem.W.keepIn K (.ref f11) = true)
    (a12 : PySem.W.nsIn K mainGlobals "idempotents" = some (some (.ref f12)))
    (l12 : K.lookup f12 = some ⟨oc12, od12, .func (PySem.W.fnOf "idempotents" "idempotents" (defArgs s_idempotents) (defBody s_idempotents) (defScope s_idempotents) .none kV12 dc12 pm12 an12 cd12 ct12), sl12⟩)
    (c12 : PySem.W.codeIn K cd12 "idempotents" = true)
    (k12 : PySem.W.keepIn K (.ref f12) = true)
    (a13 : PySem.W.nsIn K mainGlobals "left_identities" = some (some (.ref f13)))
    (l13 : K.lookup f13 = some ⟨oc13, od13, .func (PySem.W.fnOf "left_identities" "left_identities" (defArgs s_left_identities) (defBody s_left_identities) (defScope s_left_identities) .none kV13 dc13 pm13 an13 cd13 ct13), sl13⟩)
    (c13 : PySem.W.codeIn K cd13 "left_identities" = true)
    (k13 : PySem.W.keepIn K (.ref f13) = true)
    (a14 : PySem.W.nsIn K mainGlobals "right_identities" = some (some (.ref f14)))
    (l14 : K.lookup f14 = some ⟨oc14, od14, .func (PySem.W.fnOf "right_identities" "right_identities" (defArgs s_right_identities) (defBody s_right_identities) (defScope s_right_identities) .none kV14 dc14 pm14 an14 cd14 ct14), sl14⟩)
    (c14 : PySem.W.codeIn K cd14 "right_identities" = true)
    (k14 : PySem.W.keepIn K (.ref f14) = true)
    (a15 : PySem.W.nsIn K mainGlobals "left_zeros_of" = some (some (.ref f15)))
    (l15 : K.lookup f15 = some ⟨oc15, od15, .func (PySem.W.fnOf "left_zeros_of" "left_zeros_of" (defArgs s_left_zeros_of) (defBody s_left_zeros_of) (defScope s_left_zeros_of) .none kV15 dc15 pm15 an15 cd15 ct15), sl15⟩)
    (c15 : PySem.W.codeIn K cd15 "left_zeros_of" = true)
    (k15 : PySem.W.keepIn K (.ref f15) = true)
    (a16 : PySem.W.nsIn K mainGlobals "right_zeros_of" = some (some (.ref f16)))
    (l16 : K.lookup f16 = some ⟨oc16, od16, .func (PySem.W.fnOf "right_zeros_of" "right_zeros_of" (defArgs s_right_zeros_of) (defBody s_right_zeros_of) (defScope s_right_zeros_of) .none kV16 dc16 pm16 an16 cd16 ct16), sl16⟩)
    (c16 : PySem.W.codeIn K cd16 "right_zeros_of" = true)
    (k16 : PySem.W.keepIn K (.ref f16) = true)
    (a17 : PySem.W.nsIn K mainGlobals "identity_of" = some (some (.ref f17)))
    (l17 : K.lookup f17 = some ⟨oc17, od17, .func (PySem.W.fnOf "identity_of" "identity_of" (defArgs s_identity_of) (defBody s_identity_of) (defScope s_identity_of) .none kV17 dc17 pm17 an17 cd17 ct17), sl17⟩)
    (c17 : PySem.W.codeIn K cd17 "identity_of" = true)
    (k17 : PySem.W.keepIn K (.ref f17) = true)
    (a18 : PySem.W.nsIn K mainGlobals "zero_of" = some (some (.ref f18)))
    (l18 : K.lookup f18 = some ⟨oc18, od18, .func (PySem.W.fnOf "zero_of" "zero_of" (defArgs s_zero_of) (defBody s_zero_of) (defScope s_zero_of) .none kV18 dc18 pm18 an18 cd18 ct18), sl18⟩)
    (c18 : PySem.W.codeIn K cd18 "zero_of" = true)
    (k18 : PySem.W.keepIn K (.ref f18) = true)
    (a19 : PySem.W.nsIn K mainGlobals "identity" = some (some (.ref f19)))
    (l19 : K.lookup f19 = some ⟨oc19, od19, .func (PySem.W.fnOf "identity" "identity" (defArgs s_identity) (defBody s_identity) (defScope s_identity) .none kV19 dc19 pm19 an19 cd19 ct19), sl19⟩)
    (c19 : PySem.W.codeIn K cd19 "identity" = true)
    (k19 : PySem.W.keepIn K (.ref f19) = true)
    (a20 : PySem.W.nsIn K mainGlobals "zero" = some (some (.ref f20)))
    (l20 : K.lookup f20 = some ⟨oc20, od20, .func (PySem.W.fnOf "zero" "zero" (defArgs s_zero) (defBody s_zero) (defScope s_zero) .none kV20 dc20 pm20 an20 cd20 ct20), sl20⟩)
    (c20 : PySem.W.codeIn K cd20 "zero" = true)
    (k20 : PySem.W.keepIn K (.ref f20) = true)
    (a21 : PySem.W.nsIn K mainGlobals "centre" = some (some (.ref f21)))
    (l21 : K.lookup f21 = some ⟨oc21, od21, .func (PySem.W.fnOf "centre" "centre" (defArgs s_centre) (defBody s_centre) (defScope s_centre) .none kV21 dc21 pm21 an21 cd21 ct21), sl21⟩)
    (c21 : PySem.W.codeIn K cd21 "centre" = true)
    (k21 : PySem.W.keepIn K (.ref f21) = true)
    (a22 : PySem.W.nsIn K mainGlobals "commuting" = some (some (.ref f22)))
    (l22 : K.lookup f22 = some ⟨oc22, od22, .func (PySem.W.fnOf "commuting" "commuting" (defArgs s_commuting) (defBody s_commuting) (defScope s_commuting) .none kV22 dc22 pm22 an22 cd22 ct22), sl22⟩)
    (c22 : PySem.W.codeIn K cd22 "commuting" = true)
    (k22 : PySem.W.keepIn K (.ref f22) = true)
    (a23 : PySem.W.nsIn K mainGlobals "cancellable" = some (some (.ref f23)))
    (l23 : K.lookup f23 = some ⟨oc23, od23, .func (PySem.W.fnOf "cancellable" "cancellable" (defArgs s_cancellable) (defBody s_cancellable) (defScope s_cancellable) .none kV23 dc23 pm23 an23 cd23 ct23), sl23⟩)
    (c23 : PySem.W.codeIn K cd23 "cancellable" = true)
    (k23 : PySem.W.keepIn K (.ref f23) = true)
    (a24 : PySem.W.nsIn K mainGlobals "units_in" = some (some (.ref f24)))
    (l24 : K.lookup f24 = some ⟨oc24, od24, .func (PySem.W.fnOf "units_in" "units_in" (defArgs s_units_in) (defBody s_units_in) (defScope s_units_in) .none kV24 dc24 pm24 an24 cd24 ct24), sl24⟩)
    (c24 : PySem.W.codeIn K cd24 "units_in" = true)
    (k24 : PySem.W.keepIn K (.ref f24) = true)
    (a25 : PySem.W.nsIn K mainGlobals "units" = some (some (.ref f25)))
    (l25 : K.lookup f25 = some ⟨oc25, od25, .func (PySem.W.fnOf "units" "units" (defArgs s_units) (defBody s_units) (defScope s_units) .none kV25 dc25 pm25 an25 cd25 ct25), sl25⟩)
    (c25 : PySem.W.codeIn K cd25 "units" = true)
    (k25 : PySem.W.keepIn K (.ref f25) = true)
    (a26 : PySem.W.nsIn K mainGlobals "_law_cell" = some (some (.ref f26)))
    (l26 : K.lookup f26 = some ⟨oc26, od26, .func (PySem.W.fnOf "_law_cell" "_law_cell" (defArgs s_law_cell) (defBody s_law_cell) (defScope s_law_cell) .none kV26 dc26 pm26 an26 cd26 ct26), sl26⟩)
    (c26 : PySem.W.codeIn K cd26 "_law_cell" = true)
    (k26 : PySem.W.keepIn K (.ref f26) = true)
    (a27 : PySem.W.nsIn K mainGlobals "_law_box" = some (some (.ref f27)))
    (l27 : K.lookup f27 = some ⟨oc27, od27, .func (PySem.W.fnOf "_law_box" "_law_box" (defArgs s_law_box) (defBody s_law_box) (defScope s_law_box) .none kV27 dc27 pm27 an27 cd27 ct27), sl27⟩)
    (c27 : PySem.W.codeIn K cd27 "_law_box" = true)
    (k27 : PySem.W.keepIn K (.ref f27) = true)
    (a28 : PySem.W.nsIn K mainGlobals "_law_take" = some (some (.ref f28)))
    (l28 : K.lookup f28 = some ⟨oc28, od28, .func (PySem.W.fnOf "_law_take" "_law_take" (defArgs s_law_take) (defBody s_law_take) (defScope s_law_take) .none kV28 dc28 pm28 an28 cd28 ct28), sl28⟩)
    (c28 : PySem.W.codeIn K cd28 "_law_take" = true)
    (k28 : PySem.W.keepIn K (.ref f28) = true)
    (a29 : PySem.W.nsIn K mainGlobals "_law_mixed" = some (some (.ref f29)))
    (l29 : K.lookup f29 = some ⟨oc29, od29, .func (PySem.W.fnOf "_law_mixed" "_law_mixed" (defArgs s_law_mixed) (defBody s_law_mixed) (defScope s_law_mixed) .none kV29 dc29 pm29 an29 cd29 ct29), sl29⟩)
    (c29 : PySem.W.codeIn K cd29 "_law_mixed" = true)
    (k29 : PySem.W.keepIn K (.ref f29) = true)
    (a30 : PySem.W.nsIn K mainGlobals "_law_same" = some (some (.ref f30)))
    (l30 : K.lookup f30 = some ⟨oc30, od30, .func (PySem.W.fnOf "_law_same" "_law_same" (defArgs s_law_same) (defBody s_law_same) (defScope s_law_same) .none kV30 dc30 pm30 an30 cd30 ct30), sl30⟩)
    (c30 : PySem.W.codeIn K cd30 "_law_same" = true)
    (k30 : PySem.W.keepIn K (.ref f30) = true)
    (a31 : PySem.W.nsIn K mainGlobals "_law_followed" = some (some (.ref f31)))
    (l31 : K.lookup f31 = some ⟨oc31, od31, .func (PySem.W.fnOf "_law_followed" "_law_followed" (defArgs s_law_followed) (defBody s_law_followed) (defScope s_law_followed) .none kV31 dc31 pm31 an31 cd31 ct31), sl31⟩)
    (c31 : PySem.W.codeIn K cd31 "_law_followed" = true)
    (k31 : PySem.W.keepIn K (.ref f31) = true)
    (a32 : PySem.W.nsIn K mainGlobals "_law_from_moves" = some (some (.ref f32)))
    (l32 : K.lookup f32 = some ⟨oc32, od32, .func (PySem.W.fnOf "_law_from_moves" "_law_from_moves" (defArgs s_law_from_moves) (defBody s_law_from_moves) (defScope s_law_from_moves) .none kV32 dc32 pm32 an32 cd32 ct32), sl32⟩)
    (c32 : PySem.W.codeIn K cd32 "_law_from_moves" = true)
    (k32 : PySem.W.keepIn K (.ref f32) = true)
    (a33 : PySem.W.nsIn K mainGlobals "_law_relabelled" = some (some (.ref f33)))
    (l33 : K.lookup f33 = some ⟨oc33, od33, .func (PySem.W.fnOf "_law_relabelled" "_law_relabelled" (defArgs s_law_relabelled) (defBody s_law_relabelled) (defScope s_law_relabelled) .none kV33 dc33 pm33 an33 cd33 ct33), sl33⟩)
    (c33 : PySem.W.codeIn K cd33 "_law_relabelled" = true)
    (k33 : PySem.W.keepIn K (.ref f33) = true)
    (a34 : PySem.W.nsIn K mainGlobals "_law_plain" = some (some (.ref f34)))
    (l34 : K.lookup f34 = some ⟨oc34, od34, .func (PySem.W.fnOf "_law_plain" "_law_plain" (defArgs s_law_plain) (defBody s_law_plain) (defScope s_law_plain) .none kV34 dc34 pm34 an34 cd34 ct34), sl34⟩)
    (c34 : PySem.W.codeIn K cd34 "_law_plain" = true)
    (k34 : PySem.W.keepIn K (.ref f34) = true)
    (a35 : PySem.W.nsIn K mainGlobals "_law_drawn" = some (some (.ref f35)))
    (l35 : K.lookup f35 = some ⟨oc35, od35, .func (PySem.W.fnOf "_law_drawn" "_law_drawn" (defArgs s_law_drawn) (defBody s_law_drawn) (defScope s_law_drawn) .none kV35 dc35 pm35 an35 cd35 ct35), sl35⟩)
    (c35 : PySem.W.codeIn K cd35 "_law_drawn" = true)
    (k35 : PySem.W.keepIn K (.ref f35) = true)
    (a36 : PySem.W.nsIn K mainGlobals "_law_same_object" = some (some (.ref f36)))
    (l36 : K.lookup f36 = some ⟨oc36, od36, .func (PySem.W.fnOf "_law_same_object" "_law_same_object" (defArgs s_law_same_object) (defBody s_law_same_object) (defScope s_law_same_object) .none kV36 dc36 pm36 an36 cd36 ct36), sl36⟩)
    (c36 : PySem.W.codeIn K cd36 "_law_same_object" = true)
    (k36 : PySem.W.keepIn K (.ref f36) = true)
    (a37 : PySem.W.nsIn K mainGlobals "_law_copy" = some (some (.ref f37)))
    (l37 : K.lookup f37 = some ⟨oc37, od37, .func (PySem.W.fnOf "_law_copy" "_law_copy" (defArgs s_law_copy) (defBody s_law_copy) (defScope s_law_copy) .none kV37 dc37 pm37 an37 cd37 ct37), sl37⟩)
    (c37 : PySem.W.codeIn K cd37 "_law_copy" = true)
    (k37 : PySem.W.keepIn K (.ref f37) = true)
    (a38 : PySem.W.nsIn K mainGlobals "_law_refusals_right" = some (some (.ref f38)))
    (l38 : K.lookup f38 = some ⟨oc38, od38, .func (PySem.W.fnOf "_law_refusals_right" "_law_refusals_right" (defArgs s_law_refusals_right) (defBody s_law_refusals_right) (defScope s_law_refusals_right) .none kV38 dc38 pm38 an38 cd38 ct38), sl38⟩)
    (c38 : PySem.W.codeIn K cd38 "_law_refusals_right" = true)
    (k38 : PySem.W.keepIn K (.ref f38) = true)
    (a39 : PySem.W.nsIn K mainGlobals "_law_twice" = some (some (.ref f39)))
    (l39 : K.lookup f39 = some ⟨oc39, od39, .func (PySem.W.fnOf "_law_twice" "_law_twice" (defArgs s_law_twice) (defBody s_law_twice) (defScope s_law_twice) .none kV39 dc39 pm39 an39 cd39 ct39), sl39⟩)
    (c39 : PySem.W.codeIn K cd39 "_law_twice" = true)
    (k39 : PySem.W.keepIn K (.ref f39) = true)
    (a40 : PySem.W.nsIn K mainGlobals "_law_no_tables" = some (some (.ref f40)))
    (l40 : K.lookup f40 = some ⟨oc40, od40, .func (PySem.W.fnOf "_law_no_tables" "_law_no_tables" (defArgs s_law_no_tables) (defBody s_law_no_tables) (defScope s_law_no_tables) .none kV40 dc40 pm40 an40 cd40 ct40), sl40⟩)
    (c40 : PySem.W.codeIn K cd40 "_law_no_tables" = true)
    (k40 : PySem.W.keepIn K (.ref f40) = true)
    (a41 : PySem.W.nsIn K mainGlobals "_law_no_semigroup" = some (some (.ref f41)))
    (l41 : K.lookup f41 = some ⟨oc41, od41, .func (PySem.W.fnOf "_law_no_semigroup" "_law_no_semigroup" (defArgs s_law_no_semigroup) (defBody s_law_no_semigroup) (defScope s_law_no_semigroup) .none kV41 dc41 pm41 an41 cd41 ct41), sl41⟩)
    (c41 : PySem.W.codeIn K cd41 "_law_no_semigroup" = true)
    (k41 : PySem.W.keepIn K (.ref f41) = true)
    (a42 : PySem.W.nsIn K mainGlobals "_law_doors" = some (some (.ref f42)))
    (l42 : K.lookup f42 = some ⟨oc42, od42, .func (PySem.W.fnOf "_law_doors" "_law_doors" (defArgs s_law_doors) (defBody s_law_doors) (defScope s_law_doors) .none kV42 dc42 pm42 an42 cd42 ct42), sl42⟩)
    (c42 : PySem.W.codeIn K cd42 "_law_doors" = true)
    (k42 : PySem.W.keepIn K (.ref f42) = true)
    (a43 : PySem.W.nsIn K mainGlobals "_law_asked" = some (some (.ref f43)))
    (l43 : K.lookup f43 = some ⟨oc43, od43, .func (PySem.W.fnOf "_law_asked" "_law_asked" (defArgs s_law_asked) (defBody s_law_asked) (defScope s_law_asked) .none kV43 dc43 pm43 an43 cd43 ct43), sl43⟩)
    (c43 : PySem.W.codeIn K cd43 "_law_asked" = true)
    (k43 : PySem.W.keepIn K (.ref f43) = true)
    (a44 : PySem.W.nsIn K mainGlobals "_law_common" = some (some (.ref f44)))
    (l44 : K.lookup f44 = some ⟨oc44, od44, .func (PySem.W.fnOf "_law_common" "_law_common" (defArgs s_law_common) (defBody s_law_common) (defScope s_law_common) .none kV44 dc44 pm44 an44 cd44 ct44), sl44⟩)
    (c44 : PySem.W.codeIn K cd44 "_law_common" = true)
    (k44 : PySem.W.keepIn K (.ref f44) = true)
    (a45 : PySem.W.nsIn K mainGlobals "_law_dues" = some (some (.ref f45)))
    (l45 : K.lookup f45 = some ⟨oc45, od45, .func (PySem.W.fnOf "_law_dues" "_law_dues" (defArgs s_law_dues) (defBody s_law_dues) (defScope s_law_dues) .none kV45 dc45 pm45 an45 cd45 ct45), sl45⟩)
    (c45 : PySem.W.codeIn K cd45 "_law_dues" = true)
    (k45 : PySem.W.keepIn K (.ref f45) = true)
    (a46 : PySem.W.nsIn K mainGlobals "_law_table_right" = some (some (.ref f46)))
    (l46 : K.lookup f46 = some ⟨oc46, od46, .func (PySem.W.fnOf "_law_table_right" "_law_table_right" (defArgs s_law_table_right) (defBody s_law_table_right) (defScope s_law_table_right) .none kV46 dc46 pm46 an46 cd46 ct46), sl46⟩)
    (c46 : PySem.W.codeIn K cd46 "_law_table_right" = true)
    (k46 : PySem.W.keepIn K (.ref f46) = true)
    (a47 : PySem.W.nsIn K mainGlobals "law" = some (some (.ref f47)))
    (l47 : K.lookup f47 = some ⟨oc47, od47, .func (PySem.W.fnOf "law" "law" (defArgs s_law) (defBody s_law) (defScope s_law) .none kV47 dc47 pm47 an47 cd47 ct47), sl47⟩)
    (c47 : PySem.W.codeIn K cd47 "law" = true)
    (k47 : PySem.W.keepIn K (.ref f47) = true)
    (gB : PySem.W.nsIn K mainGlobals "SemigroupError" = some (some (.ref cB)))
    (sB1 : PySem.W.specialIn K (.ref cB) "__getattribute__" = some (some (.builtin "type.__getattribute__")))
    (sB2 : PySem.W.readsIn K cB (.type "type") = true)
    (sB3 : PySem.W.findCls K (.ref cB) (.type "type") "__init__" = some (.val (.builtin "ValueError.__init__")))
    (sB4 : PySem.W.subIn K (.ref cB) (.type "BaseException") = some true)
    (sB5 : PySem.W.typeIn K (.ref cB) = some (.type "type"))
    (sB6 : PySem.W.isClsIn K cB = true)
    (hg1 : PySem.W.specialIn K (.builtin "object.__class__") "__get__" = some (some (.builtin "getset_descriptor.__get__")))
    (hg2 : PySem.W.takesIn K (.builtin "object.__class__") = some true)
    (gE0 : PySem.W.nsIn K mainGlobals "InvalidTable" = some (some (.ref cE0)))
    (xE0 : K.lookup cE0 = some (excClassObj nmE0 qE0 cE0 NE0 bsE0 bmE0 true snE0 subE0 abE0 colE0 ddE0 m0E0 m1E0 m2E0 m3E0 m5E0 "ValueError.__new__"))
    (rE0 : PySem.HandSPX.refsVE bmE0 = true)
    (saE0 : PySem.W.findIn K (.ref cE0) "__setattr__" = some (some (.builtin "object.__setattr__")))
    (exE0 : PySem.W.subIn K (.ref cE0) (.type "BaseException") = some true)
    (tyE0 : PySem.W.typeIn K (.ref cE0) = some (.type "type"))
    (kcE0 : PySem.W.keepIn K (.ref cE0) = true)
    (iE_0 : PySem.W.findIn K (.ref cE0) "__init__" = some (some (.ref iE0)))
    (tiE0 : PySem.W.typeIn K (.ref iE0) = some (.type "function"))
    (liE0 : K.lookup iE0 = some ⟨ocE0, odE0, .func (PySem.W.fnOf "__init__" "InvalidTable.__init__" (defArgs si_InvalidTable) (defBody si_InvalidTable) (defScope si_InvalidTable) .none kVE0 dcE0 pmE0 anE0 cdE0 ctE0), slE0⟩)
    (ciE0 : PySem.W.codeIn K cdE0 "InvalidTable.__init__" = true)
    (kiE0 : PySem.W.keepIn K (.ref iE0) = true)
    (xaE0 : PySem.W.findIn K (.ref cE0) "__getattribute__" = some (some (.builtin "BaseException.__getattribute__")))
    (xbE0 : PySem.W.findIn K (.ref cE0) "__getattr__" = some none)
    (hdE0 : PySem.W.hasDictIn K cE0 = true)
    (nfE0 : PySem.W.findIn K (.ref cE0) "given" = some none)
    (icE0 : PySem.W.isClsIn K cE0 = true)
    (haE0 : PySem.W.findIn K (.ref cE0) "__class__" = some (some (.builtin "object.__class__")))
    (hmE0 : PySem.W.mroIn K cE0 (.type "object") = some true)
    (yE0 : PySem.W.kitOne K (.ref cE0) (.ref cB) = some true)
    (zE0 : PySem.W.exmOne K (.ref cE0) (.ref cB) = some true)
    (q0_0 : PySem.W.exmOne K (.ref cE0) (.ref cE0) = some true)
    (G_MOST_ELEMENTS : PySem.W.nsIn K mainGlobals "MOST_ELEMENTS" = some (some (.int 10 tG_MOST_ELEMENTS)))
    (zf_gcd : PySem.W.nsIn K mainGlobals "gcd" = some (some (.builtin "math.gcd")))
    (z_isinstance : PySem.W.nsIn K mainGlobals "isinstance" = some none)
    (z_len : PySem.W.nsIn K mainGlobals "len" = some none)
    (z_all : PySem.W.nsIn K mainGlobals "all" = some none)
    (z_range : PySem.W.nsIn K mainGlobals "range" = some none)
    (z_tuple : PySem.W.nsIn K mainGlobals "tuple" = some none)
    (z_int : PySem.W.nsIn K mainGlobals "int" = some none)
    (z_str : PySem.W.nsIn K mainGlobals "str" = some none)
    (z_dict : PySem.W.nsIn K mainGlobals "dict" = some none)
    (z_max : PySem.W.nsIn K mainGlobals "max" = some none)
    (z_list : PySem.W.nsIn K mainGlobals "list" = some none)
    (z_sum : PySem.W.nsIn K mainGlobals "sum" = some none)
    (z_abs : PySem.W.nsIn K mainGlobals "abs" = some none)
    (z_bool : PySem.W.nsIn K mainGlobals "bool" = some none)
    (z_min : PySem.W.nsIn K mainGlobals "min" = some none)
    (z_any : PySem.W.nsIn K mainGlobals "any" = some none)
    (z_set : PySem.W.nsIn K mainGlobals "set" = some none)
    : ∃ fd : FuncData, (∀ (s : Shared) (v : Value), BindsTo s fd ⟨[v], []⟩ [("script", v)]) ∧ ∀ base : Heap, K.In base → base.Ns mainGlobals mg → FnOk P w K mg base CX0 13 fa fd ["script"] (spLaw K) := by
  have e := hfa.symm.trans (PySem.W.mg_of X G a47)
  cases e
  have F0 := fun_mk (st := s_is_integer) l0 c0 k0
  have F1 := fun_mk (st := s_is_within) l1 c1 k1
  have F2 := fun_mk (st := s_is_index) l2 c2 k2
  have F3 := fun_mk (st := s_is_list) l3 c3 k3
  have F4 := fun_mk (st := s_is_tuple) l4 c4 k4
  have F5 := fun_mk (st := s_are_elements) l5 c5 k5
  have F6 := fun_mk (st := s_is_table) l6 c6 k6
  have F7 := fun_mk (st := s_is_broken) l7 c7 k7
  have F8 := fun_mk (st := s_broken_with) l8 c8 k8
  have F9 := fun_mk (st := s_is_semigroup) l9 c9 k9
  have F10 := fun_mk (st := s_check_semigroup) l10 c10 k10
  have F11 := fun_mk (st := s_idempotents_in) l11 c11 k11
  have F12 := fun_mk (st := s_idempotents) l12 c12 k12
  have F13 := fun_mk (st := s_left_identities) l13 c13 k13
  have F14 := fun_mk (st := s_right_identities) l14 c14 k14
  have F15 := fun_mk (st := s_left_zeros_of) l15 c15 k15
  have F16 := fun_mk (st := s_right_zeros_of) l16 c16 k16
  have F17 := fun_mk (st := s_identity_of) l17 c17 k17
  have F18 := fun_mk (st := s_zero_of) l18 c18 k18
  have F19 := fun_mk (st := s_identity) l19 c19 k19
  have F20 := fun_mk (st := s_zero) l20 c20 k20
  have F21 := fun_mk (st := s_centre) l21 c21 k21
  have F22 := fun_mk (st := s_commuting) l22 c22 k22
  have F23 := fun_mk (st := s_cancellable) l23 c23 k23
  have F24 := fun_mk (st := s_units_in) l24 c24 k24
  have F25 := fun_mk (st := s_units) l25 c25 k25
  have F26 := fun_mk (st := s_law_cell) l26 c26 k26
  have F27 := fun_mk (st := s_law_box) l27 c27 k27
  have F28 := fun_mk (st := s_law_take) l28 c28 k28
  have F29 := fun_mk (st := s_law_mixed) l29 c29 k29
  have F30 := fun_mk (st := s_law_same) l30 c30 k30
  have F31 := fun_mk (st := s_law_followed) l31 c31 k31
  have F32 := fun_mk (st := s_law_from_moves) l32 c32 k32
  have F33 := fun_mk (st := s_law_relabelled) l33 c33 k33
  have F34 := fun_mk (st := s_law_plain) l34 c34 k34
  have F35 := fun_mk (st := s_law_drawn) l35 c35 k35
  have F36 := fun_mk (st := s_law_same_object) l36 c36 k36
  have F37 := fun_mk (st := s_law_copy) l37 c37 k37
  have F38 := fun_mk (st := s_law_refusals_right) l38 c38 k38
  have F39 := fun_mk (st := s_law_twice) l39 c39 k39
  have F40 := fun_mk (st := s_law_no_tables) l40 c40 k40
  have F41 := fun_mk (st := s_law_no_semigroup) l41 c41 k41
  have F42 := fun_mk (st := s_law_doors) l42 c42 k42
  have F43 := fun_mk (st := s_law_asked) l43 c43 k43
  have F44 := fun_mk (st := s_law_common) l44 c44 k44
  have F45 := fun_mk (st := s_law_dues) l45 c45 k45
  have F46 := fun_mk (st := s_law_table_right) l46 c46 k46
  have F47 := fun_mk (st := s_law) l47 c47 k47
  have FE0 := fun_mk (st := si_InvalidTable) liE0 ciE0 kiE0
  let T : Tx K mg := { f_is_integer := f0, d_is_integer := _, F_is_integer := F0, g_is_integer := PySem.W.mg_of X G a0, b_is_integer := F0.binds (ps := p_is_integer) (fun _ _ _ _ _ _ us hl => match us, hl with | [_], _ => rfl), f_is_within := f1, d_is_within := _, F_is_within := F1, g_is_within := PySem.W.mg_of X G a1, b_is_within := F1.binds (ps := p_is_within) (fun _ _ _ _ _ _ us hl => match us, hl with | [_, _, _], _ => rfl), f_is_index := f2, d_is_index := _, F_is_index := F2, g_is_index := PySem.W.mg_of X G a2, b_is_index := F2.binds (ps := p_is_index) (fun _ _ _ _ _ _ us hl => match us, hl with | [_, _], _ => rfl), f_is_list := f3, d_is_list := _, F_is_list := F3, g_is_list := PySem.W.mg_of X G a3, b_is_list := F3.binds (ps := p_is_list) (fun _ _ _ _ _ _ us hl => match us, hl with | [_], _ => rfl), f_is_tuple := f4, d_is_tuple := _, F_is_tuple := F4, g_is_tuple := PySem.W.mg_of X G a4, b_is_tuple := F4.binds (ps := p_is_tuple) (fun _ _ _ _ _ _ us hl => match us, hl with | [_, _], _ => rfl), f_are_elements := f5, d_are_elements := _, F_are_elements := F5, g_are_elements := PySem.W.mg_of X G a5, b_are_elements := F5.binds (ps := p_are_elements) (fun _ _ _ _ _ _ us hl => match us, hl with | [_, _], _ => rfl), f_is_table := f6, d_is_table := _, F_is_table := F6, g_is_table := PySem.W.mg_of X G a6, b_is_table := F6.binds (ps := p_is_table) (fun _ _ _ _ _ _ us hl => match us, hl with | [_], _ => rfl), f_is_broken := f7, d_is_broken := _, F_is_broken := F7, g_is_broken := PySem.W.mg_of X G a7, b_is_broken := F7.binds (ps := p_is_broken) (fun _ _ _ _ _ _ us hl => match us, hl with | [_, _, _, _], _ => rfl), f_broken_with := f8, d_broken_with := _, F_broken_with := F8, g_broken_with := PySem.W.mg_of X G a8, b_broken_with := F8.binds (ps := p_broken_with) (fun _ _ _ _ _ _ us hl => match us, hl with | [_, _], _ => rfl), f_is_semigroup := f9, d_is_semigroup := _, F_is_semigroup := F9, g_is_semigroup := PySem.W.mg_of X G a9, b_is_semigroup := F9.binds (ps := p_is_semigroup) (fun _ _ _ _ _ _ us hl => match us, hl with | [_], _ => rfl), f_check_semigroup := f10, d_check_semigroup := _, F_check_semigroup := F10, g_check_semigroup := PySem.W.mg_of X G a10, b_check_semigroup := F10.binds (ps := p_check_semigroup) (fun _ _ _ _ _ _ us hl => match us, hl with | [_], _ => rfl), f_idempotents_in := f11, d_idempotents_in := _, F_idempotents_in := F11, g_idempotents_in := PySem.W.mg_of X G a11, b_idempotents_in := F11.binds (ps := p_idempotents_in) (fun _ _ _ _ _ _ us hl => match us, hl with | [_], _ => rfl), f_idempotents := f12, d_idempotents := _, F_idempotents := F12, g_idempotents := PySem.W.mg_of X G a12, b_idempotents := F12.binds (ps := p_idempotents) (fun _ _ _ _ _ _ us hl => match us, hl with | [_], _ => rfl), kb_idempotents := fun_kbinds F12 (fun _ _ _ _ _ _ us ws hl => by rcases us with _ | ⟨u, us⟩ <;> rcases ws with _ | ⟨u1, _ | ⟨u2, ws⟩⟩ <;> first | rfl | exact absurd hl (by simp)) (fun h1 h2 => by cases h1 with | cons _ _ => exact .nil | nil => cases h2 with | nil => exact .nil | cons a1 t => cases t with | nil => exact .cons a1 (.nil) | cons _ _ => exact .nil), f_left_identities := f13, d_left_identities := _, F_left_identities := F13, g_left_identities := PySem.W.mg_of X G a13, b_left_identities := F13.binds (ps := p_left_identities) (fun _ _ _ _ _ _ us hl => match us, hl with | [_], _ => rfl), kb_left_identities := fun_kbinds F13 (fun _ _ _ _ _ _ us ws hl => by rcases us with _ | ⟨u, us⟩ <;> rcases ws with _ | ⟨u1, _ | ⟨u2, ws⟩⟩ <;> first | rfl | exact absurd hl (by simp)) (fun h1 h2 => by cases h1 with | cons _ _ => exact .nil | nil => cases h2 with | nil => exact .nil | cons a1 t => cases t with | nil => exact .cons a1 (.nil) | cons _ _ => exact .nil), f_right_identities := f14, d_right_identities := _, F_right_identities := F14, g_right_identities := PySem.W.mg_of X G a14, b_right_identities := F14.binds (ps := p_right_identities) (fun _ _ _ _ _ _ us hl => match us, hl with | [_], _ => rfl), kb_right_identities := fun_kbinds F14 (fun _ _ _ _ _ _ us ws hl => by rcases us with _ | ⟨u, us⟩ <;> rcases ws with _ | ⟨u1, _ | ⟨u2, ws⟩⟩ <;> first | rfl | exact absurd hl (by simp)) (fun h1 h2 => by cases h1 with | cons _ _ => exact .nil | nil => cases h2 with | nil => exact .nil | cons a1 t => cases t with | nil => exact .cons a1 (.nil) | cons _ _ => exact .nil), f_left_zeros_of := f15, d_left_zeros_of := _, F_left_zeros_of := F15, g_left_zeros_of := PySem.W.mg_of X G a15, b_left_zeros_of := F15.binds (ps := p_left_zeros_of) (fun _ _ _ _ _ _ us hl => match us, hl with | [_], _ => rfl), kb_left_zeros_of := fun_kbinds F15 (fun _ _ _ _ _ _ us ws hl => by rcases us with _ | ⟨u, us⟩ <;> rcases ws with _ | ⟨u1, _ | ⟨u2, ws⟩⟩ <;> first | rfl | exact absurd hl (by simp)) (fun h1 h2 => by cases h1 with | cons _ _ => exact .nil | nil => cases h2 with | nil => exact .nil | cons a1 t => cases t with | nil => exact .cons a1 (.nil) | cons _ _ => exact .nil), f_right_zeros_of := f16, d_right_zeros_of := _, F_right_zeros_of := F16, g_right_zeros_of := PySem.W.mg_of X G a16, b_right_zeros_of := F16.binds (ps := p_right_zeros_of) (fun _ _ _ _ _ _ us hl => match us, hl with | [_], _ => rfl), kb_right_zeros_of := fun_kbinds F16 (fun _ _ _ _ _ _ us ws hl => by rcases us with _ | ⟨u, us⟩ <;> rcases ws with _ | ⟨u1, _ | ⟨u2, ws⟩⟩ <;> first | rfl | exact absurd hl (by simp)) (fun h1 h2 => by cases h1 with | cons _ _ => exact .nil | nil => cases h2 with | nil => exact .nil | cons a1 t => cases t with | nil => exact .cons a1 (.nil) | cons _ _ => exact .nil), f_identity_of := f17, d_identity_of := _, F_identity_of := F17, g_identity_of := PySem.W.mg_of X G a17, b_identity_of := F17.binds (ps := p_identity_of) (fun _ _ _ _ _ _ us hl => match us, hl with | [_], _ => rfl), f_zero_of := f18, d_zero_of := _, F_zero_of := F18, g_zero_of := PySem.W.mg_of X G a18, b_zero_of := F18.binds (ps := p_zero_of) (fun _ _ _ _ _ _ us hl => match us, hl with | [_], _ => rfl), f_identity := f19, d_identity := _, F_identity := F19, g_identity := PySem.W.mg_of X G a19, b_identity := F19.binds (ps := p_identity) (fun _ _ _ _ _ _ us hl => match us, hl with | [_], _ => rfl), kb_identity := fun_kbinds F19 (fun _ _ _ _ _ _ us ws hl => by rcases us with _ | ⟨u, us⟩ <;> rcases ws with _ | ⟨u1, _ | ⟨u2, ws⟩⟩ <;> first | rfl | exact absurd hl (by simp)) (fun h1 h2 => by cases h1 with | cons _ _ => exact .nil | nil => cases h2 with | nil => exact .nil | cons a1 t => cases t with | nil => exact .cons a1 (.nil) | cons _ _ => exact .nil), f_zero := f20, d_zero := _, F_zero := F20, g_zero := PySem.W.mg_of X G a20, b_zero := F20.binds (ps := p_zero) (fun _ _ _ _ _ _ us hl => match us, hl with | [_], _ => rfl), kb_zero := fun_kbinds F20 (fun _ _ _ _ _ _ us ws hl => by rcases us with _ | ⟨u, us⟩ <;> rcases ws with _ | ⟨u1, _ | ⟨u2, ws⟩⟩ <;> first | rfl | exact absurd hl (by simp)) (fun h1 h2 => by cases h1 with | cons _ _ => exact .nil | nil => cases h2 with | nil => exact .nil | cons a1 t => cases t with | nil => exact .cons a1 (.nil) | cons _ _ => exact .nil), f_centre := f21, d_centre := _, F_centre := F21, g_centre := PySem.W.mg_of X G a21, b_centre := F21.binds (ps := p_centre) (fun _ _ _ _ _ _ us hl => match us, hl with | [_], _ => rfl), kb_centre := fun_kbinds F21 (fun _ _ _ _ _ _ us ws hl => by rcases us with _ | ⟨u, us⟩ <;> rcases ws with _ | ⟨u1, _ | ⟨u2, ws⟩⟩ <;> first | rfl | exact absurd hl (by simp)) (fun h1 h2 => by cases h1 with | cons _ _ => exact .nil | nil => cases h2 with | nil => exact .nil | cons a1 t => cases t with | nil => exact .cons a1 (.nil) | cons _ _ => exact .nil), f_commuting := f22, d_commuting := _, F_commuting := F22, g_commuting := PySem.W.mg_of X G a22, b_commuting := F22.binds (ps := p_commuting) (fun _ _ _ _ _ _ us hl => match us, hl with | [_], _ => rfl), kb_commuting := fun_kbinds F22 (fun _ _ _ _ _ _ us ws hl => by rcases us with _ | ⟨u, us⟩ <;> rcases ws with _ | ⟨u1, _ | ⟨u2, ws⟩⟩ <;> first | rfl | exact absurd hl (by simp)) (fun h1 h2 => by cases h1 with | cons _ _ => exact .nil | nil => cases h2 with | nil => exact .nil | cons a1 t => cases t with | nil => exact .cons a1 (.nil) | cons _ _ => exact .nil), f_cancellable := f23, d_cancellable := _, F_cancellable := F23, g_cancellable := PySem.W.mg_of X G a23, b_cancellable := F23.binds (ps := p_cancellable) (fun _ _ _ _ _ _ us hl => match us, hl with | [_], _ => rfl), kb_cancellable := fun_kbinds F23 (fun _ _ _ _ _ _ us ws hl => by rcases us with _ | ⟨u, us⟩ <;> rcases ws with _ | ⟨u1, _ | ⟨u2, ws⟩⟩ <;> first | rfl | exact absurd hl (by simp)) (fun h1 h2 => by cases h1 with | cons _ _ => exact .nil | nil => cases h2 with | nil => exact .nil | cons a1 t => cases t with | nil => exact .cons a1 (.nil) | cons _ _ => exact .nil), f_units_in := f24, d_units_in := _, F_units_in := F24, g_units_in := PySem.W.mg_of X G a24, b_units_in := F24.binds (ps := p_units_in) (fun _ _ _ _ _ _ us hl => match us, hl with | [_], _ => rfl), f_units := f25, d_units := _, F_units := F25, g_units := PySem.W.mg_of X G a25, b_units := F25.binds (ps := p_units) (fun _ _ _ _ _ _ us hl => match us, hl with | [_], _ => rfl), kb_units := fun_kbinds F25 (fun _ _ _ _ _ _ us ws hl => by rcases us with _ | ⟨u, us⟩ <;> rcases ws with _ | ⟨u1, _ | ⟨u2, ws⟩⟩ <;> first | rfl | exact absurd hl (by simp)) (fun h1 h2 => by cases h1 with | cons _ _ => exact .nil | nil => cases h2 with | nil => exact .nil | cons a1 t => cases t with | nil => exact .cons a1 (.nil) | cons _ _ => exact .nil), f_law_cell := f26, d_law_cell := _, F_law_cell := F26, g_law_cell := PySem.W.mg_of X G a26, b_law_cell := F26.binds (ps := p_law_cell) (fun _ _ _ _ _ _ us hl => match us, hl with | [_, _], _ => rfl), f_law_box := f27, d_law_box := _, F_law_box := F27, g_law_box := PySem.W.mg_of X G a27, b_law_box := F27.binds (ps := p_law_box) (fun _ _ _ _ _ _ us hl => match us, hl with | [_], _ => rfl), f_law_take := f28, d_law_take := _, F_law_take := F28, g_law_take := PySem.W.mg_of X G a28, b_law_take := F28.binds (ps := p_law_take) (fun _ _ _ _ _ _ us hl => match us, hl with | [_, _], _ => rfl), f_law_mixed := f29, d_law_mixed := _, F_law_mixed := F29, g_law_mixed := PySem.W.mg_of X G a29, b_law_mixed := F29.binds (ps := p_law_mixed) (fun _ _ _ _ _ _ us hl => match us, hl with | [_, _], _ => rfl), f_law_same := f30, d_law_same := _, F_law_same := F30, g_law_same := PySem.W.mg_of X G a30, b_law_same := F30.binds (ps := p_law_same) (fun _ _ _ _ _ _ us hl => match us, hl with | [_, _], _ => rfl), f_law_followed := f31, d_law_followed := _, F_law_followed := F31, g_law_followed := PySem.W.mg_of X G a31, b_law_followed := F31.binds (ps := p_law_followed) (fun _ _ _ _ _ _ us hl => match us, hl with | [_, _], _ => rfl), f_law_from_moves := f32, d_law_from_moves := _, F_law_from_moves := F32, g_law_from_moves := PySem.W.mg_of X G a32, b_law_from_moves := F32.binds (ps := p_law_from_moves) (fun _ _ _ _ _ _ us hl => match us, hl with | [_, _], _ => rfl), f_law_relabelled := f33, d_law_relabelled := _, F_law_relabelled := F33, g_law_relabelled := PySem.W.mg_of X G a33, b_law_relabelled := F33.binds (ps := p_law_relabelled) (fun _ _ _ _ _ _ us hl => match us, hl with | [_, _], _ => rfl), f_law_plain := f34, d_law_plain := _, F_law_plain := F34, g_law_plain := PySem.W.mg_of X G a34, b_law_plain := F34.binds (ps := p_law_plain) (fun _ _ _ _ _ _ us hl => match us, hl with | [_, _], _ => rfl), f_law_drawn := f35, d_law_drawn := _, F_law_drawn := F35, g_law_drawn := PySem.W.mg_of X G a35, b_law_drawn := F35.binds (ps := p_law_drawn) (fun _ _ _ _ _ _ us hl => match us, hl with | [_, _], _ => rfl), f_law_same_object := f36, d_law_same_object := _, F_law_same_object := F36, g_law_same_object := PySem.W.mg_of X G a36, b_law_same_object := F36.binds (ps := p_law_same_object) (fun _ _ _ _ _ _ us hl => match us, hl with | [_, _], _ => rfl), f_law_copy := f37, d_law_copy := _, F_law_copy := F37, g_law_copy := PySem.W.mg_of X G a37, b_law_copy := F37.binds (ps := p_law_copy) (fun _ _ _ _ _ _ us hl => match us, hl with | [_], _ => rfl), f_law_refusals_right := f38, d_law_refusals_right := _, F_law_refusals_right := F38, g_law_refusals_right := PySem.W.mg_of X G a38, b_law_refusals_right := F38.binds (ps := p_law_refusals_right) (fun _ _ _ _ _ _ us hl => match us, hl with | [_, _, _], _ => rfl), f_law_twice := f39, d_law_twice := _, F_law_twice := F39, g_law_twice := PySem.W.mg_of X G a39, b_law_twice := F39.binds (ps := p_law_twice) (fun _ _ _ _ _ _ us hl => match us, hl with | [_, _, _, _], _ => rfl), f_law_no_tables := f40, d_law_no_tables := _, F_law_no_tables := F40, g_law_no_tables := PySem.W.mg_of X G a40, b_law_no_tables := F40.binds (ps := p_law_no_tables) (fun _ _ _ _ _ _ us hl => match us, hl with | [_], _ => rfl), f_law_no_semigroup := f41, d_law_no_semigroup := _, F_law_no_semigroup := F41, g_law_no_semigroup := PySem.W.mg_of X G a41, b_law_no_semigroup := F41.binds (ps := p_law_no_semigroup) (fun _ _ _ _ _ _ us hl => match us, hl with | [_], _ => rfl), f_law_doors := f42, d_law_doors := _, F_law_doors := F42, g_law_doors := PySem.W.mg_of X G a42, b_law_doors := F42.binds (ps := p_law_doors) (fun _ _ _ _ _ _ us hl => match us, hl with | [], _ => rfl), f_law_asked := f43, d_law_asked := _, F_law_asked := F43, g_law_asked := PySem.W.mg_of X G a43, b_law_asked := F43.binds (ps := p_law_asked) (fun _ _ _ _ _ _ us hl => match us, hl with | [_, _, _], _ => rfl), f_law_common := f44, d_law_common := _, F_law_common := F44, g_law_common := PySem.W.mg_of X G a44, b_law_common := F44.binds (ps := p_law_common) (fun _ _ _ _ _ _ us hl => match us, hl with | [_, _], _ => rfl), f_law_dues := f45, d_law_dues := _, F_law_dues := F45, g_law_dues := PySem.W.mg_of X G a45, b_law_dues := F45.binds (ps := p_law_dues) (fun _ _ _ _ _ _ us hl => match us, hl with | [_], _ => rfl), f_law_table_right := f46, d_law_table_right := _, F_law_table_right := F46, g_law_table_right := PySem.W.mg_of X G a46, b_law_table_right := F46.binds (ps := p_law_table_right) (fun _ _ _ _ _ _ us hl => match us, hl with | [_, _], _ => rfl), f_law := fa, d_law := _, F_law := F47, g_law := PySem.W.mg_of X G a47, b_law := F47.binds (ps := p_law) (fun _ _ _ _ _ _ us hl => match us, hl with | [_], _ => rfl), c_SemigroupError := cB, gc_SemigroupError := PySem.W.mg_of X G gB, sem := ⟨PySem.W.mg_of X G gB, sB1, sB2, sB3, sB4, sB5, sB6⟩, c_InvalidTable := cE0, gc_InvalidTable := PySem.W.mg_of X G gE0, i_InvalidTable := iE0, di_InvalidTable := _, Fi_InvalidTable := FE0, bi_InvalidTable := FE0.binds (ps := ["self", "given"]) (fun _ _ _ _ _ _ us hl => match us, hl with | [_, _], _ => rfl), e_InvalidTable := { gC := PySem.W.mg_of X G gE0, oe := ⟨⟨_, _, _, _, _, _, _, _, _, _, _, _, _, _, _, xE0, rE0⟩, saE0, exE0, tyE0, kcE0⟩, iC := iE_0, tI := tiE0, xf := ⟨xaE0, xbE0, exE0, hdE0⟩, nf := nfE0, ic := icE0, ha := haE0, hn := hg1, ht := hg2, hm := hmE0 }, x_InvalidTable_SemigroupError := zE0, y_InvalidTable := yE0, x_InvalidTable_InvalidTable := q0_0, t_MOST_ELEMENTS := tG_MOST_ELEMENTS, gg_MOST_ELEMENTS := PySem.W.mg_of X G G_MOST_ELEMENTS, gf_gcd := PySem.W.mg_of X G zf_gcd, m_isinstance := PySem.W.mg_none_of X G z_isinstance, m_len := PySem.W.mg_none_of X G z_len, m_all := PySem.W.mg_none_of X G z_all, m_range := PySem.W.mg_none_of X G z_range, m_tuple := PySem.W.mg_none_of X G z_tuple, m_int := PySem.W.mg_none_of X G z_int, m_str := PySem.W.mg_none_of X G z_str, m_dict := PySem.W.mg_none_of X G z_dict, m_max := PySem.W.mg_none_of X G z_max, m_list := PySem.W.mg_none_of X G z_list, m_sum := PySem.W.mg_none_of X G z_sum, m_abs := PySem.W.mg_none_of X G z_abs, m_bool := PySem.W.mg_none_of X G z_bool, m_min := PySem.W.mg_none_of X G z_min, m_any := PySem.W.mg_none_of X G z_any, m_set := PySem.W.mg_none_of X G z_set }
  exact ⟨_, fun s v => .of_eq rfl, fun base _ _ => ok_law T⟩
end Kx
open PySem PySem.W PyProof.Rows
set_option maxHeartbeats 0 in
theorem PySem.Challenge.cw_semigroupbench_k12_special_elements_holds : PySem.Challenge.rw_semigroupbench_k12_special_elements.Holds := by
  w_on; o_law; k_head; (case hw => w_witness2)
  k_fill
  refine L2.walk_of (l := PySem.Challenge.rw_semigroupbench_k12_special_elements) (n := 63) (k := 13) (x := "script") (CX := fun _ => L2.CX0) (sp := fun w => Kx.spLaw _) rfl (by decide) rfl ⟨rfl, by decide, by decide⟩ (fun w h Y => PySem.W.kIn_of Y) ?F (fun _ _ a ns hl _ hS => ⟨a, ns, rfl, hl, hS, fun _ => rfl⟩) (fun _ _ _ _ _ h => h)
  case F =>
    intro w mg fa h KX G hmg
    refine' Kx.all_mk KX G hmg ?a0 ?l0 ?c0 ?k0 ?a1 ?l1 ?c1 ?k1 ?a2 ?l2 ?c2 ?k2 ?a3 ?l3 ?c3 ?k3 ?a4 ?l4 ?c4 ?k4 ?a5 ?l5 ?c5 ?k5 ?a6 ?l6 ?c6 ?k6 ?a7 ?l7 ?c7 ?k7 ?a8 ?l8 ?c8 ?k8 ?a9 ?l9 ?c9 ?k9 ?a10 ?l10 ?c10 ?k10 ?a11 ?l11 ?c11 ?k11 ?a12 ?l12 ?c12 ?k12 ?a13 ?l13 ?c13 ?k13 ?a14 ?l14 ?c14 ?k14 ?a15 ?l15 ?c15 ?k15 ?a16 ?l16 ?c16 ?k16 ?a17 ?l17 ?c17 ?k17 ?a18 ?l18 ?c18 ?k18 ?a19 ?l19 ?c19 ?k19 ?a20 ?l20 ?c20 ?k20 ?a21 ?l21 ?c21 ?k21 ?a22 ?l22 ?c22 ?k22 ?a23 ?l23 ?c23 ?k23 ?a24 ?l24 ?c24 ?k24 ?a25 ?l25 ?c25 ?k25 ?a26 ?l26 ?c26 ?k26 ?a27 ?l27 ?c27 ?k27 ?a28 ?l28 ?c28 ?k28 ?a29 ?l29 ?c29 ?k29 ?a30 ?l30 ?c30 ?k30 ?a31 ?l31 ?c31 ?k31 ?a32 ?l32 ?c32 ?k32 ?a33 ?l33 ?c33 ?k33 ?a34 ?l34 ?c34 ?k34 ?a35 ?l35 ?c35 ?k35 ?a36 ?l36 ?c36 ?k36 ?a37 ?l37 ?c37 ?k37 ?a38 ?l38 ?c38 ?k38 ?a39 ?l39 ?c39 ?k39 ?a40 ?l40 ?c40 ?k40 ?a41 ?l41 ?c41 ?k41 ?a42 ?l42 ?c42 ?k42 ?a43 ?l43 ?c43 ?k43 ?a44 ?l44 ?c44 ?k44 ?a45 ?l45 ?c45 ?k45 ?a46 ?l46 ?c46 ?k46 ?a47 ?l47 ?c47 ?k47 ?gB ?sB1 ?sB2 ?sB3 ?sB4 ?sB5 ?sB6 ?hg1 ?hg2 ?gE0 ?xE0 ?rE0 ?saE0 ?exE0 ?tyE0 ?kcE0 ?iE_0 ?tiE0 ?liE0 ?ciE0 ?kiE0 ?xaE0 ?xbE0 ?hdE0 ?nfE0 ?icE0 ?haE0 ?hmE0 ?yE0 ?zE0 ?q0_0 ?G_MOST_ELEMENTS ?zf_gcd ?z_isinstance ?z_len ?z_all ?z_range ?z_tuple ?z_int ?z_str ?z_dict ?z_max ?z_list ?z_sum ?z_abs ?z_bool ?z_min ?z_any ?z_set
    (case a0 => first | k_is | rfl)
    (case l0 => first | k_is | rfl)
    (case c0 => first | k_is | rfl)
    (case k0 => first | k_is | rfl)
    (case a1 => first | k_is | rfl)
    (case l1 => first | k_is | rfl)
    (case c1 => first | k_is | rfl)
    (case k1 => first | k_is | rfl)
    (case a2 => first | k_is | rfl)
    (case l2 => first | k_is | rfl)
    (case c2 => first | k_is | rfl)
    (case k2 => first | k_is | rfl)
    (case a3 => first | k_is | rfl)
    (case l3 => first | k_is | rfl)
    (case c3 => first | k_is | rfl)
    (case k3 => first | k_is | rfl)
    (case a4 => first | k_is | rfl)
    (case l4 => first | k_is | rfl)
    (case c4 => first | k_is | rfl)
    (case k4 => first | k_is | rfl)
    (case a5 => first | k_is | rfl)
    (case l5 => first | k_is | rfl)
    (case c5 => first | k_is | rfl)
    (case k5 => first | k_is | rfl)
    (case a6 => first | k_is | rfl)
    (case l6 => first | k_is | rfl)
    (case c6 => first | k_is | rfl)
    (case k6 => first | k_is | rfl)
    (case a7 => first | k_is | rfl)
    (case l7 => first | k_is | rfl)
    (case c7 => first | k_is | rfl)
    (case k7 => first | k_is | rfl)
    (case a8 => first | k_is | rfl)
    (case l8 => first | k_is | rfl)
    (case c8 => first | k_is | rfl)
    (case k8 => first | k_is | rfl)
    (case a9 => first | k_is | rfl)
    (case l9 => first | k_is | rfl)
    (case c9 => first | k_is | rfl)
    (case k9 => first | k_is | rfl)
    (case a10 => first | k_is | rfl)
    (case l10 => first | k_is | rfl)
    (case c10 => first | k_is | rfl)
    (case k10 => first | k_is | rfl)
    (case a11 => first | k_is | rfl)
    (case l11 => first | k_is | rfl)
    (case c11 => first | k_is | rfl)
    (case k11 => first | k_is | rfl)
    (case a12 => first | k_is | rfl)
    (case l12 => first | k_is | rfl)
    (case c12 => first | k_is | rfl)
    (case k12 => first | k_is | rfl)
    (case a13 => first | k_is | rfl)
    (case l13 => first | k_is | rfl)
    (case c13 => first | k_is | rfl)
    (case k13 => first | k_is | rfl)
    (case a14 => first | k_is | rfl)
    (case l14 => first | k_is | rfl)
    (case c14 => first | k_is | rfl)
    (case k14 => first | k_is | rfl)
    (case a15 => first | k_is | rfl)
    (case l15 => first | k_is | rfl)
    (case c15 => first | k_is | rfl)
    (case k15 => first | k_is | rfl)
    (case a16 => first | k_is | rfl)
    (case l16 => first | k_is | rfl)
    (case c16 => first | k_is | rfl)
    (case k16 => first | k_is | rfl)
    (case a17 => first | k_is | rfl)
    (case l17 => first | k_is | rfl)
    (case c17 => first | k_is | rfl)
    (case k17 => first | k_is | rfl)
    (case a18 => first | k_is | rfl)
    (case l18 => first | k_is | rfl)
    (case c18 => first | k_is | rfl)
    (case k18 => first | k_is | rfl)
    (case a19 => first | k_is | rfl)
    (case l19 => first | k_is | rfl)
    (case c19 => first | k_is | rfl)
    (case k19 => first | k_is | rfl)
    (case a20 => first | k_is | rfl)
    (case l20 => first | k_is | rfl)
    (case c20 => first | k_is | rfl)
    (case k20 => first | k_is | rfl)
    (case a21 => first | k_is | rfl)
    (case l21 => first | k_is | rfl)
    (case c21 => first | k_is | rfl)
    (case k21 => first | k_is | rfl)
    (case a22 => first | k_is | rfl)
    (case l22 => first | k_is | rfl)
    (case c22 => first | k_is | rfl)
    (case k22 => first | k_is | rfl)
    (case a23 => first | k_is | rfl)
    (case l23 => first | k_is | rfl)
    (case c23 => first | k_is | rfl)
    (case k23 => first | k_is | rfl)
    (case a24 => first | k_is | rfl)
    (case l24 => first | k_is | rfl)
    (case c24 => first | k_is | rfl)
    (case k24 => first | k_is | rfl)
    (case a25 => first | k_is | rfl)
    (case l25 => first | k_is | rfl)
    (case c25 => first | k_is | rfl)
    (case k25 => first | k_is | rfl)
    (case a26 => first | k_is | rfl)
    (case l26 => first | k_is | rfl)
    (case c26 => first | k_is | rfl)
    (case k26 => first | k_is | rfl)
    (case a27 => first | k_is | rfl)
    (case l27 => first | k_is | rfl)
    (case c27 => first | k_is | rfl)
    (case k27 => first | k_is | rfl)
    (case a28 => first | k_is | rfl)
    (case l28 => first | k_is | rfl)
    (case c28 => first | k_is | rfl)
    (case k28 => first | k_is | rfl)
    (case a29 => first | k_is | rfl)
    (case l29 => first | k_is | rfl)
    (case c29 => first | k_is | rfl)
    (case k29 => first | k_is | rfl)
    (case a30 => first | k_is | rfl)
    (case l30 => first | k_is | rfl)
    (case c30 => first | k_is | rfl)
    (case k30 => first | k_is | rfl)
    (case a31 => first | k_is | rfl)
    (case l31 => first | k_is | rfl)
    (case c31 => first | k_is | rfl)
    (case k31 => first | k_is | rfl)
    (case a32 => first | k_is | rfl)
    (case l32 => first | k_is | rfl)
    (case c32 => first | k_is | rfl)
    (case k32 => first | k_is | rfl)
    (case a33 => first | k_is | rfl)
    (case l33 => first | k_is | rfl)
    (case c33 => first | k_is | rfl)
    (case k33 => first | k_is | rfl)
    (case a34 => first | k_is | rfl)
    (case l34 => first | k_is | rfl)
    (case c34 => first | k_is | rfl)
    (case k34 => first | k_is | rfl)
    (case a35 => first | k_is | rfl)
    (case l35 => first | k_is | rfl)
    (case c35 => first | k_is | rfl)
    (case k35 => first | k_is | rfl)
    (case a36 => first | k_is | rfl)
    (case l36 => first | k_is | rfl)
    (case c36 => first | k_is | rfl)
    (case k36 => first | k_is | rfl)
    (case a37 => first | k_is | rfl)
    (case l37 => first | k_is | rfl)
    (case c37 => first | k_is | rfl)
    (case k37 => first | k_is | rfl)
    (case a38 => first | k_is | rfl)
    (case l38 => first | k_is | rfl)
    (case c38 => first | k_is | rfl)
    (case k38 => first | k_is | rfl)
    (case a39 => first | k_is | rfl)
    (case l39 => first | k_is | rfl)
    (case c39 => first | k_is | rfl)
    (case k39 => first | k_is | rfl)
    (case a40 => first | k_is | rfl)
    (case l40 => first | k_is | rfl)
    (case c40 => first | k_is | rfl)
    (case k40 => first | k_is | rfl)
    (case a41 => first | k_is | rfl)
    (case l41 => first | k_is | rfl)
    (case c41 => first | k_is | rfl)
    (case k41 => first | k_is | rfl)
    (case a42 => first | k_is | rfl)
    (case l42 => first | k_is | rfl)
    (case c42 => first | k_is | rfl)
    (case k42 => first | k_is | rfl)
    (case a43 => first | k_is | rfl)
    (case l43 => first | k_is | rfl)
    (case c43 => first | k_is | rfl)
    (case k43 => first | k_is | rfl)
    (case a44 => first | k_is | rfl)
    (case l44 => first | k_is | rfl)
    (case c44 => first | k_is | rfl)
    (case k44 => first | k_is | rfl)
    (case a45 => first | k_is | rfl)
    (case l45 => first | k_is | rfl)
    (case c45 => first | k_is | rfl)
    (case k45 => first | k_is | rfl)
    (case a46 => first | k_is | rfl)
    (case l46 => first | k_is | rfl)
    (case c46 => first | k_is | rfl)
    (case k46 => first | k_is | rfl)
    (case a47 => first | k_is | rfl)
    (case l47 => first | k_is | rfl)
    (case c47 => first | k_is | rfl)
    (case k47 => first | k_is | rfl)
    (case gB => first | k_is | rfl)
    (case sB1 => first | k_is | rfl)
    (case sB2 => first | k_is | rfl)
    (case sB3 => first | k_is | rfl)
    (case sB4 => first | k_is | rfl)
    (case sB5 => first | k_is | rfl)
    (case sB6 => first | k_is | rfl)
    (case hg1 => first | k_is | rfl)
    (case hg2 => first | k_is | rfl)
    (case gE0 => first | k_is | rfl)
    (case xE0 => first | k_is | rfl)
    (case rE0 => first | k_is | rfl)
    (case saE0 => first | k_is | rfl)
    (case exE0 => first | k_is | rfl)
    (case tyE0 => first | k_is | rfl)
    (case kcE0 => first | k_is | rfl)
    (case iE_0 => first | k_is | rfl)
    (case tiE0 => first | k_is | rfl)
    (case liE0 => first | k_is | rfl)
    (case ciE0 => first | k_is | rfl)
    (case kiE0 => first | k_is | rfl)
    (case xaE0 => first | k_is | rfl)
    (case xbE0 => first | k_is | rfl)
    (case hdE0 => first | k_is | rfl)
    (case nfE0 => first | k_is | rfl)
    (case icE0 => first | k_is | rfl)
    (case haE0 => first | k_is | rfl)
    (case hmE0 => first | k_is | rfl)
    (case yE0 => first | k_is | rfl)
    (case zE0 => first | k_is | rfl)
    (case q0_0 => first | k_is | rfl)
    (case G_MOST_ELEMENTS => first | k_is | rfl)
    (case zf_gcd => first | k_is | rfl)
    (case z_isinstance => first | k_is | rfl)
    (case z_len => first | k_is | rfl)
    (case z_all => first | k_is | rfl)
    (case z_range => first | k_is | rfl)
    (case z_tuple => first | k_is | rfl)
    (case z_int => first | k_is | rfl)
    (case z_str => first | k_is | rfl)
    (case z_dict => first | k_is | rfl)
    (case z_max => first | k_is | rfl)
    (case z_list => first | k_is | rfl)
    (case z_sum => first | k_is | rfl)
    (case z_abs => first | k_is | rfl)
    (case z_bool => first | k_is | rfl)
    (case z_min => first | k_is | rfl)
    (case z_any => first | k_is | rfl)
    (case z_set => first | k_is | rfl)

