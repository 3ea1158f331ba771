import PyProof.Rows.All
import Wide.All
import OpenK.AllK
import Wide.FinOn
import HandS.ForMost
import HandS.IsInst
import HandS.TryMany
import HandS.ExcInit
import HandS.ExcOwn
import HandS.ExcField
import HandS.Strs
import HandS.Conv
import HandS.TupMul
import HandS.Style
import HandS.Wide
import HandS.Flow
import HandS.Steps
import HandS.Deep
import KE.KExcIs
import HandS.IterVal
import HandS.Comp
import HandS.Sort
import KE.KDictKeyed
import HandS.Dict
import HandS.TupAny
import HandS.TryOnly
import HandS.SetFor
import HandS.SetBool
import HandS.Gcd
import HandS.DictComp
import HandS.More
import HandS.Star
import HandS.Zip
import HandS.WordsExc
import PySem.Challenge.RW_semigroupbench_k13_generated_and_words
set_option Elab.async false
set_option linter.all false
set_option maxRecDepth 100000
set_option maxHeartbeats 2000000
/-! DL: data over the hand layer: what an expression's reading gives as data, what a statement's reading makes of slots that hold data. -/
namespace DL
open PySem PySem.Spec PyProof.Rows L2
abbrev Sg := List (Option V)

/-- data, without addresses -/
inductive D where
  | non | bl (b : Bool) | int (i : Int) | str (x : Str)
  | tup (ds : List D) | lst (ds : List D) | dct (kvs : List (Key × D)) | op (v : V) | idn (v : V) (d : D) | rng (lo hi : Int)
  /-- an error of an own class, made as a value -/
  | exc (C : Addr)
  /-- a set of n numbers -/
  | set (w : World) (S : Int → Bool) (n : Nat)

def Ex (H H' : Hp) : Prop := ∀ a o, H a = some o → H' a = some o
theorem Ex.refl (H : Hp) : Ex H H := fun _ _ h => h
theorem Ex.trans {H H1 H2 : Hp} (a : Ex H H1) (b : Ex H1 H2) : Ex H H2 := fun x o h => b x o (a x o h)
theorem Ex.new {H : Hp} {p : Addr} {o : HO} (h : H p = none) : Ex H (upd H p o) := fun a u e => by
  rw [upd_ne (ne_of_none e h)]; exact e
theorem Ex.back {H H' : Hp} {p : Addr} (e : Ex H H') (h : H' p = none) : H p = none := by
  cases h1 : H p with
  | none => rfl
  | some o => rw [e p o h1] at h; cases h
theorem ex_rd {H H' : Hp} {a : Addr} {u : HO} (e : Ex H H') (h : Rd H a u) : Rd H' a u := by
  rcases h with h | ⟨o, h⟩
  · exact Or.inl (e a _ h)
  · exact Or.inr ⟨o, e a _ h⟩
theorem ex_l {K : PySem.W.Frag} {H H' : Hp} {a : Addr} {xs : List V} (e : Ex H H') (h : SqL K H a xs) : SqL K H' a xs := by
  rcases h with h | h
  · exact Or.inl (ex_rd e h)
  · exact Or.inr h
theorem ex_t {K : PySem.W.Frag} {H H' : Hp} {a : Addr} {xs : List V} (e : Ex H H') (h : SqT K H a xs) : SqT K H' a xs := by
  rcases h with h | h
  · exact Or.inl (ex_rd e h)
  · exact Or.inr h

mutual
/-- in the view G the value v is the data d -/
inductive Dat (K : PySem.W.Frag) (G : Hp) : V → D → Prop
  | non : Dat K G .non .non
  | bl (b : Bool) : Dat K G (.bl b) (.bl b)
  | int (i : Int) : Dat K G (.int i) (.int i)
  | str (x : Str) : Dat K G (.str x) (.str x)
  | tup {a : Addr} {xs : List V} {ds : List D} : SqT K G a xs → DatL K G xs ds → Dat K G (.ref a) (.tup ds)
  | lst {a : Addr} {xs : List V} {ds : List D} : G a = some (.lst xs) → DatL K G xs ds → Dat K G (.ref a) (.lst ds)
  | dct {a : Addr} {kvs : List (Key × V)} {kds : List (Key × D)} : G a = some (.dK kvs) → DatK K G kvs kds → Dat K G (.ref a) (.dct kds)
  | op (v : V) : Dat K G v (.op v)
  | idn {v : V} {d : D} : Dat K G v d → Dat K G v (.idn v d)
  | rng {a : Addr} {lo hi : Int} : G a = some (.rng lo hi) → Dat K G (.ref a) (.rng lo hi)
  | exc {a C dx : Addr} {fs : List (Str × V)} : G a = some (exo a C (some dx)) → G dx = some (exd dx fs) → Dat K G (.ref a) (.exc C)
  | set {a : Addr} {w : World} {S : Int → Bool} {n : Nat} : G a = some (SetO w a S n) → Dat K G (.ref a) (.set w S n)
inductive DatL (K : PySem.W.Frag) (G : Hp) : List V → List D → Prop
  | nil : DatL K G [] []
  | cons {v : V} {vs : List V} {d : D} {ds : List D} : Dat K G v d → DatL K G vs ds → DatL K G (v :: vs) (d :: ds)
inductive DatK (K : PySem.W.Frag) (G : Hp) : List (Key × V) → List (Key × D) → Prop
  | nil : DatK K G [] []
  | cons {k : Key} {v : V} {vs : List (Key × V)} {d : D} {ds : List (Key × D)} : Dat K G v d → DatK K G vs ds → DatK K G ((k, v) :: vs) ((k, d) :: ds)
end
section
variable {K : PySem.W.Frag} {G G' H H' : Hp}
mutual
theorem Dat.mono (e : Ex G G') : ∀ (d : D) (v : V), Dat K G v d → Dat K G' v d
  | .non, _, h => by cases h; exact .non
  | .bl b, _, h => by cases h; exact .bl b
  | .int i, _, h => by cases h; exact .int i
  | .str x, _, h => by cases h; exact .str x
  | .tup ds, _, h => by cases h with | tup a b => exact .tup (ex_t e a) (DatL.mono e ds _ b)
  | .lst ds, _, h => by cases h with | lst a b => exact .lst (e _ _ a) (DatL.mono e ds _ b)
  | .dct ds, _, h => by cases h with | dct a b => exact .dct (e _ _ a) (DatK.mono e ds _ b)
  | .op v, _, h => by cases h; exact .op v
  | .idn v d, _, h => by cases h with | idn a => exact .idn (Dat.mono e d _ a)
  | .rng _ _, _, h => by cases h with | rng a => exact .rng (e _ _ a)
  | .exc _, _, h => by cases h with | exc a b => exact .exc (e _ _ a) (e _ _ b)
  | .set _ _ _, _, h => by cases h with | set a => exact .set (e _ _ a)
theorem DatL.mono (e : Ex G G') : ∀ (ds : List D) (vs : List V), DatL K G vs ds → DatL K G' vs ds
  | [], _, h => by cases h; exact .nil
  | d :: ds, _, h => by cases h with | cons a b => exact .cons (Dat.mono e d _ a) (DatL.mono e ds _ b)
theorem DatK.mono (e : Ex G G') : ∀ (ds : List (Key × D)) (vs : List (Key × V)), DatK K G vs ds → DatK K G' vs ds
  | [], _, h => by cases h; exact .nil
  | (k, d) :: ds, _, h => by cases h with | cons a b => exact .cons (Dat.mono e d _ a) (DatK.mono e ds _ b)
end
theorem Dat.up {v : V} {d : D} (h : Dat K G v d) (e : Ex G G') : Dat K G' v d := Dat.mono e d v h
theorem DatL.up {v : List V} {d : List D} (h : DatL K G v d) (e : Ex G G') : DatL K G' v d := DatL.mono e d v h
theorem DatK.up {v : List (Key × V)} {d : List (Key × D)} (h : DatK K G v d) (e : Ex G G') : DatK K G' v d := DatK.mono e d v h
theorem DatL.length : ∀ {vs : List V} {ds : List D}, DatL K G vs ds → vs.length = ds.length
  | _, _, .nil => rfl
  | _, _, .cons _ t => by rw [List.length_cons, List.length_cons, DatL.length t]
theorem DatL.get : ∀ {vs : List V} {ds : List D} {i : Nat} {d : D}, DatL K G vs ds → ds[i]? = some d → ∃ v, vs[i]? = some v ∧ Dat K G v d
  | _, _, _, _, .nil, e => by simp at e
  | _, _, 0, _, .cons a _, e => by simp at e; subst e; exact ⟨_, rfl, a⟩
  | _, _, i + 1, _, .cons _ t, e => by
    obtain ⟨v, h1, h2⟩ := DatL.get (i := i) t (by simpa using e)
    exact ⟨v, by simpa using h1, h2⟩
theorem DatL.getV : ∀ {vs : List V} {ds : List D} {i : Nat} {v : V}, DatL K G vs ds → vs[i]? = some v → ∃ d, ds[i]? = some d ∧ Dat K G v d
  | _, _, _, _, .nil, e => by simp at e
  | _, _, 0, _, .cons a _, e => by simp at e; subst e; exact ⟨_, rfl, a⟩
  | _, _, i + 1, _, .cons _ t, e => by
    obtain ⟨v, h1, h2⟩ := DatL.getV (i := i) t (by simpa using e)
    exact ⟨v, by simpa using h1, h2⟩
theorem DatL.append : ∀ {vs ws : List V} {ds es : List D}, DatL K G vs ds → DatL K G ws es → DatL K G (vs ++ ws) (ds ++ es)
  | _, _, _, _, .nil, h => h
  | _, _, _, _, .cons a t, h => .cons a (DatL.append t h)
theorem DatL.one {v : V} {d : D} (h : Dat K G v d) : DatL K G [v] [d] := .cons h .nil
theorem DatL.set : ∀ {vs : List V} {ds : List D} {v : V} {d : D} (i : Nat), DatL K G vs ds → Dat K G v d → DatL K G (vs.set i v) (ds.set i d)
  | _, _, _, _, _, .nil, _ => .nil
  | _, _, _, _, 0, .cons _ t, h => .cons h t
  | _, _, _, _, i + 1, .cons a t, h => .cons a (DatL.set i t h)
theorem DatL.take : ∀ {vs : List V} {ds : List D} (n : Nat), DatL K G vs ds → DatL K G (vs.take n) (ds.take n)
  | _, _, 0, _ => .nil
  | _, _, _ + 1, .nil => .nil
  | _, _, n + 1, .cons a t => .cons a (DatL.take n t)
theorem DatL.drop : ∀ {vs : List V} {ds : List D} (n : Nat), DatL K G vs ds → DatL K G (vs.drop n) (ds.drop n)
  | _, _, 0, h => h
  | _, _, _ + 1, .nil => .nil
  | _, _, n + 1, .cons _ t => DatL.drop n t
theorem DatL.erase : ∀ {vs : List V} {ds : List D} (n : Nat), DatL K G vs ds → DatL K G (vs.eraseIdx n) (ds.eraseIdx n)
  | _, _, _, .nil => .nil
  | _, _, 0, .cons _ t => t
  | _, _, n + 1, .cons a t => .cons a (DatL.erase n t)
theorem DatL.ints : ∀ (ns : List Int), DatL K G (ns.map V.int) (ns.map D.int)
  | [] => .nil
  | n :: ns => .cons (.int n) (DatL.ints ns)
theorem DatL.intsV : ∀ {ns : List Int} {vs : List V}, DatL K G vs (ns.map D.int) → vs = ns.map V.int
  | [], _, h => by cases h; rfl
  | n :: ns, _, h => by
    cases h with
    | cons a t => cases a; rw [DatL.intsV t]; rfl
theorem DatL.bls : ∀ (ns : List Bool), DatL K G (ns.map V.bl) (ns.map D.bl)
  | [] => .nil
  | n :: ns => .cons (.bl n) (DatL.bls ns)
theorem DatL.blsV : ∀ {ns : List Bool} {vs : List V}, DatL K G vs (ns.map D.bl) → vs = ns.map V.bl
  | [], _, h => by cases h; rfl
  | n :: ns, _, h => by
    cases h with
    | cons a t => cases a; rw [DatL.blsV t]; rfl
theorem DatL.rep {v : V} {d : D} (h : Dat K G v d) : ∀ n, DatL K G (List.replicate n v) (List.replicate n d)
  | 0 => .nil
  | n + 1 => .cons h (DatL.rep h n)
theorem DatL.flatten : ∀ (n : Nat) {vs : List V} {ds : List D}, DatL K G vs ds → DatL K G (List.replicate n vs).flatten (List.replicate n ds).flatten
  | 0, _, _, _ => .nil
  | n + 1, _, _, h => by rw [List.replicate_succ, List.replicate_succ, List.flatten_cons, List.flatten_cons]; exact DatL.append h (DatL.flatten n h)
theorem Dat.intV {i : Int} {v : V} (h : Dat K G v (.int i)) : v = .int i := by cases h; rfl
theorem Dat.blV {i : Bool} {v : V} (h : Dat K G v (.bl i)) : v = .bl i := by cases h; rfl
theorem Dat.strV {i : Str} {v : V} (h : Dat K G v (.str i)) : v = .str i := by cases h; rfl
theorem Dat.nonV {v : V} (h : Dat K G v .non) : v = .non := by cases h; rfl
theorem Dat.tupV {ds : List D} {v : V} (h : Dat K G v (.tup ds)) : ∃ a xs, v = .ref a ∧ SqT K G a xs ∧ DatL K G xs ds := by
  cases h with | tup a b => exact ⟨_, _, rfl, a, b⟩
theorem Dat.lstV {ds : List D} {v : V} (h : Dat K G v (.lst ds)) : ∃ a xs, v = .ref a ∧ G a = some (.lst xs) ∧ DatL K G xs ds := by
  cases h with | lst a b => exact ⟨_, _, rfl, a, b⟩

/-- the heap grows, the view with it; what stands outside the view stays outside -/
structure Stp (G H G' H' : Hp) : Prop where
  gg : Ex G G'
  hh : Ex H H'
  gh : Ex G' H'
  ow : ∀ a, G a = none → H a ≠ none → G' a = none
theorem Stp.refl (h : Ex G H) : Stp G H G H := ⟨.refl _, .refl _, h, fun _ h _ => h⟩
theorem Stp.trans {G1 H1 G2 H2 : Hp} (a : Stp G H G1 H1) (b : Stp G1 H1 G2 H2) : Stp G H G2 H2 :=
  ⟨a.gg.trans b.gg, a.hh.trans b.hh, b.gh, fun x h1 h2 => b.ow x (a.ow x h1 h2) (fun e => by
    cases q : H x with
    | none => exact h2 q
    | some o => rw [a.hh x o q] at e; cases e)⟩
theorem Stp.new {p : Addr} {o : HO} (h : Ex G H) (n : H p = none) : Stp G H (upd G p o) (upd H p o) :=
  ⟨Ex.new (h.back n), Ex.new n, fun a u e => by
    by_cases ha : a = p
    · subst ha; rw [upd_same] at e ⊢; exact e
    · rw [upd_ne ha] at e ⊢; exact h a u e, fun a h1 h2 => by
    have : a ≠ p := fun e => h2 (e ▸ n)
    rw [upd_ne this]; exact h1⟩
end

/-! ### slots -/
/-- nothing to be known of the items -/
inductive DatN (K : PySem.W.Frag) (G : Hp) : Prop | mk
theorem DatN.up {K : PySem.W.Frag} {G G' : Hp} (_ : DatN K G) (_ : Ex G G') : DatN K G' := .mk
/-- what is known of a slot: nothing; a value that is data; a list of one's own that may still change -/
inductive Sl where
  | un
  | val (v : V) (d : D)
  | own (a : Addr) (ds : List D)
  /-- a dict of one's own -/
  | odi (a : Addr) (kds : List (Key × D))
  /-- any other thing of one's own -/
  | obj (a : Addr) (u : HO)
abbrev Env' := List Sl
/-- the view and the heap at the entry; the address of the box that the caller lends -/
structure Bas where
  G : Hp
  H : Hp
  bx : Option Addr
section
variable (K : PySem.W.Frag) (β : Bas) (G H : Hp)
def SlOk (o : Option V) : Sl → Prop
  | .un => True
  | .val v d => o = some v ∧ Dat K G v d
  | .own a ds => o = some (.ref a) ∧ (β.H a = none ∨ β.bx = some a) ∧ G a = none ∧ ∃ xs, H a = some (.lst xs) ∧ DatL K G xs ds
  | .odi a kds => o = some (.ref a) ∧ (β.H a = none ∨ β.bx = some a) ∧ G a = none ∧ ∃ kvs, H a = some (.dK kvs) ∧ DatK K G kvs kds
  | .obj a u => o = some (.ref a) ∧ (β.H a = none ∨ β.bx = some a) ∧ G a = none ∧ ∃ _x : Unit, H a = some u ∧ DatN K G
inductive SlsOk : Sg → Env' → Prop
  | nil : SlsOk [] []
  | cons {o : Option V} {s : Sl} {σ : Sg} {env : Env'} : SlOk K β G H o s → SlsOk σ env → SlsOk (o :: σ) (s :: env)
end
def ownA : Sl → Option Addr
  | .own a _ => some a
  | .odi a _ => some a
  | .obj a _ => some a
  | _ => none

structure Good (K : PySem.W.Frag) (β : Bas) (σ : Sg) (env : Env') (G H : Hp) : Prop where
  gg : Ex β.G G
  hh : ∀ a o, β.bx ≠ some a → β.H a = some o → H a = some o
  gh : Ex G H
  ow : ∀ a, β.G a = none → β.H a ≠ none → G a = none
  bh : ∀ a, β.bx = some a → H a ≠ none
  sl : SlsOk K β G H σ env
  nd : (env.filterMap ownA).Nodup
section
variable {K : PySem.W.Frag} {β : Bas} {G H G' H' : Hp} {σ : Sg} {env : Env'}
theorem SlOk.up {o : Option V} {s : Sl} (t : Stp G H G' H') (h : SlOk K β G H o s) : SlOk K β G' H' o s := by
  cases s with
  | un => trivial
  | val v d => exact ⟨h.1, h.2.up t.gg⟩
  | own a ds =>
    obtain ⟨h1, h2, h3, xs, h4, h5⟩ := h
    exact ⟨h1, h2, t.ow a h3 (by rw [h4]; exact (fun e => nomatch e)), xs, t.hh _ _ h4, h5.up t.gg⟩
  | odi a ds =>
    obtain ⟨h1, h2, h3, xs, h4, h5⟩ := h
    exact ⟨h1, h2, t.ow a h3 (by rw [h4]; exact (fun e => nomatch e)), xs, t.hh _ _ h4, h5.up t.gg⟩
  | obj a ds =>
    obtain ⟨h1, h2, h3, xs, h4, h5⟩ := h
    exact ⟨h1, h2, t.ow a h3 (by rw [h4]; exact (fun e => nomatch e)), xs, t.hh _ _ h4, h5.up t.gg⟩
theorem SlsOk.up (t : Stp G H G' H') : ∀ {σ : Sg} {env : Env'}, SlsOk K β G H σ env → SlsOk K β G' H' σ env
  | _, _, .nil => .nil
  | _, _, .cons a r => .cons (a.up t) (SlsOk.up t r)
theorem Good.hn (g : Good K β σ env G H) {a : Addr} (h : β.H a ≠ none) : H a ≠ none := by
  by_cases hx : β.bx = some a
  · exact g.bh a hx
  · cases q : β.H a with
    | none => exact absurd q h
    | some o => rw [g.hh a o hx q]; exact (fun e => nomatch e)
theorem Good.up (g : Good K β σ env G H) (t : Stp G H G' H') : Good K β σ env G' H' :=
  ⟨g.gg.trans t.gg, fun a o h1 h2 => t.hh _ _ (g.hh a o h1 h2), t.gh, fun a h1 h2 => t.ow a (g.ow a h1 h2) (g.hn h2), fun a h => by
    cases q : H a with
    | none => exact absurd q (g.bh a h)
    | some o => rw [t.hh a o q]; exact (fun e => nomatch e), g.sl.up t, g.nd⟩
theorem SlsOk.get : ∀ {σ : Sg} {env : Env'} {i : Nat} {s : Sl}, SlsOk K β G H σ env → env[i]? = some s → ∃ o, σ[i]? = some o ∧ SlOk K β G H o s
  | _, _, _, _, .nil, e => by simp at e
  | _, _, 0, _, .cons a _, e => by simp at e; subst e; exact ⟨_, rfl, a⟩
  | _, _, i + 1, _, .cons _ r, e => by
    obtain ⟨o, h1, h2⟩ := SlsOk.get (i := i) r (by simpa using e)
    exact ⟨o, by simpa using h1, h2⟩
theorem SlsOk.set {o : Option V} {s : Sl} (h : SlOk K β G H o s) : ∀ {σ : Sg} {env : Env'} (i : Nat), SlsOk K β G H σ env → SlsOk K β G H (σ.set i o) (env.set i s)
  | _, _, _, .nil => .nil
  | _, _, 0, .cons _ r => .cons h r
  | _, _, i + 1, .cons a r => .cons a (SlsOk.set h i r)
theorem nd_set {s : Sl} (hs : ownA s = none) : ∀ {env : Env'} (i : Nat), (env.filterMap ownA).Nodup → ((env.set i s).filterMap ownA).Nodup ∧ ((env.set i s).filterMap ownA).Sublist (env.filterMap ownA)
  | [], _, h => ⟨h, .refl _⟩
  | t :: env, 0, h => by
    rw [List.set_cons_zero, List.filterMap_cons, hs]
    rw [List.filterMap_cons] at h
    cases q : ownA t with
    | none => rw [q] at h; exact ⟨h, by rw [List.filterMap_cons, q]; exact .refl _⟩
    | some a => rw [q] at h; exact ⟨(List.nodup_cons.mp h).2, by rw [List.filterMap_cons, q]; exact List.sublist_cons_self _ _⟩
  | t :: env, i + 1, h => by
    rw [List.set_cons_succ, List.filterMap_cons]
    rw [List.filterMap_cons] at h
    cases q : ownA t with
    | none =>
      rw [q] at h
      have r := nd_set hs (env := env) i h
      exact ⟨r.1, by rw [List.filterMap_cons, q]; exact r.2⟩
    | some a =>
      rw [q] at h
      have r := nd_set hs (env := env) i (List.nodup_cons.mp h).2
      refine ⟨List.nodup_cons.mpr ⟨fun m => (List.nodup_cons.mp h).1 (r.2.subset m), r.1⟩, ?_⟩
      rw [List.filterMap_cons, q]
      exact r.2.cons_cons _
theorem nd_own {a : Addr} {ds ds' : List D} : ∀ {env : Env'} {i : Nat}, env[i]? = some (.own a ds) → (env.set i (.own a ds')).filterMap ownA = env.filterMap ownA
  | [], _, e => by simp at e
  | t :: env, 0, e => by simp at e; subst e; rfl
  | t :: env, i + 1, e => by
    rw [List.set_cons_succ, List.filterMap_cons, List.filterMap_cons, nd_own (env := env) (i := i) (by simpa using e)]
/-- a slot gets a value -/
theorem Good.set (g : Good K β σ env G H) (i : Nat) {v : V} {d : D} (h : Dat K G v d) : Good K β (σ.set i (some v)) (env.set i (.val v d)) G H :=
  ⟨g.gg, g.hh, g.gh, g.ow, g.bh, g.sl.set (s := .val v d) ⟨rfl, h⟩ i, (nd_set rfl i g.nd).1⟩
/-- a slot is forgotten -/
theorem Good.drop (g : Good K β σ env G H) (i : Nat) (o : Option V) : Good K β (σ.set i o) (env.set i .un) G H :=
  ⟨g.gg, g.hh, g.gh, g.ow, g.bh, g.sl.set (o := o) (s := .un) trivial i, (nd_set rfl i g.nd).1⟩
theorem SlsOk.forget : ∀ {σ : Sg} {env : Env'} (i : Nat), SlsOk K β G H σ env → SlsOk K β G H σ (env.set i .un)
  | _, _, _, .nil => .nil
  | _, _, 0, .cons _ r => .cons trivial r
  | _, _, i + 1, .cons a r => .cons a (SlsOk.forget i r)
theorem Good.forget (g : Good K β σ env G H) (i : Nat) : Good K β σ (env.set i .un) G H :=
  ⟨g.gg, g.hh, g.gh, g.ow, g.bh, g.sl.forget i, (nd_set rfl i g.nd).1⟩
def wipeE (env : Env') : List Nat → Env'
  | [] => env
  | v :: vs => (wipeE env vs).set v .un
theorem Good.wipe (g : Good K β σ env G H) : ∀ vs, Good K β (L2.wipe σ vs) (wipeE env vs) G H
  | [] => g
  | v :: vs => (Good.wipe g vs).drop v none
theorem SlsOk.wr {a : Addr} {ho : HO} : ∀ {σ : Sg} {env : Env'}, SlsOk K β G H σ env → a ∉ env.filterMap ownA → SlsOk K β G (upd H a ho) σ env
  | _, _, .nil, _ => .nil
  | _, s :: env, .cons x r, h => by
    rw [List.filterMap_cons] at h
    cases s with
    | un => exact .cons trivial (SlsOk.wr r h)
    | val v d => exact .cons x (SlsOk.wr r h)
    | own b ds =>
      have h' : a ∉ b :: env.filterMap ownA := h
      obtain ⟨h1, h2, h3, xs, h4, h5⟩ := x
      exact .cons ⟨h1, h2, h3, xs, by rw [upd_ne (fun e => h' (by rw [← e]; exact List.mem_cons_self))]; exact h4, h5⟩ (SlsOk.wr r fun m => h' (List.mem_cons_of_mem _ m))
    | odi b ds =>
      have h' : a ∉ b :: env.filterMap ownA := h
      obtain ⟨h1, h2, h3, xs, h4, h5⟩ := x
      exact .cons ⟨h1, h2, h3, xs, by rw [upd_ne (fun e => h' (by rw [← e]; exact List.mem_cons_self))]; exact h4, h5⟩ (SlsOk.wr r fun m => h' (List.mem_cons_of_mem _ m))
    | obj b ds =>
      have h' : a ∉ b :: env.filterMap ownA := h
      obtain ⟨h1, h2, h3, xs, h4, h5⟩ := x
      exact .cons ⟨h1, h2, h3, xs, by rw [upd_ne (fun e => h' (by rw [← e]; exact List.mem_cons_self))]; exact h4, h5⟩ (SlsOk.wr r fun m => h' (List.mem_cons_of_mem _ m))
theorem SlsOk.wrOwn {a : Addr} {ds ds' : List D} {xs : List V} (hx : DatL K G xs ds') : ∀ {σ : Sg} {env : Env'} {i : Nat}, SlsOk K β G H σ env → env[i]? = some (.own a ds) → (env.filterMap ownA).Nodup →
    SlsOk K β G (upd H a (.lst xs)) σ (env.set i (.own a ds'))
  | _, _, _, .nil, e, _ => by simp at e
  | _, s :: env, 0, .cons x r, e, nd => by
    simp at e; subst e
    obtain ⟨h1, h2, h3, ys, h4, h5⟩ := x
    exact .cons ⟨h1, h2, h3, xs, upd_same, hx⟩ (SlsOk.wr r (List.nodup_cons.mp (show (a :: env.filterMap ownA).Nodup from nd)).1)
  | _, s :: env, i + 1, .cons x r, e, nd => by
    have e' : env[i]? = some (.own a ds) := by simpa using e
    have hm : a ∈ env.filterMap ownA := List.mem_filterMap.mpr ⟨_, List.mem_of_getElem? e', rfl⟩
    rw [List.filterMap_cons] at nd
    cases s with
    | un => exact .cons trivial (SlsOk.wrOwn hx r e' nd)
    | val v d => exact .cons x (SlsOk.wrOwn hx r e' nd)
    | own b cs =>
      have nd' : (b :: env.filterMap ownA).Nodup := nd
      have hb : b ≠ a := fun z => (List.nodup_cons.mp nd').1 (z ▸ hm)
      obtain ⟨h1, h2, h3, ys, h4, h5⟩ := x
      exact .cons ⟨h1, h2, h3, ys, by rw [upd_ne hb]; exact h4, h5⟩ (SlsOk.wrOwn hx r e' (List.nodup_cons.mp nd').2)
    | odi b cs =>
      have nd' : (b :: env.filterMap ownA).Nodup := nd
      have hb : b ≠ a := fun z => (List.nodup_cons.mp nd').1 (z ▸ hm)
      obtain ⟨h1, h2, h3, ys, h4, h5⟩ := x
      exact .cons ⟨h1, h2, h3, ys, by rw [upd_ne hb]; exact h4, h5⟩ (SlsOk.wrOwn hx r e' (List.nodup_cons.mp nd').2)
    | obj b cs =>
      have nd' : (b :: env.filterMap ownA).Nodup := nd
      have hb : b ≠ a := fun z => (List.nodup_cons.mp nd').1 (z ▸ hm)
      obtain ⟨h1, h2, h3, ys, h4, h5⟩ := x
      exact .cons ⟨h1, h2, h3, ys, by rw [upd_ne hb]; exact h4, h5⟩ (SlsOk.wrOwn hx r e' (List.nodup_cons.mp nd').2)
theorem Good.own (g : Good K β σ env G H) {i : Nat} {a : Addr} {ds : List D} (e : env[i]? = some (.own a ds)) :
    σ[i]? = some (some (V.ref a)) ∧ (β.H a = none ∨ β.bx = some a) ∧ G a = none ∧ ∃ xs, H a = some (.lst xs) ∧ DatL K G xs ds := by
  obtain ⟨o, h1, h2, h3, h4, h5⟩ := g.sl.get e
  exact ⟨by rw [h1, h2], h3, h4, h5⟩
theorem Good.odi (g : Good K β σ env G H) {i : Nat} {a : Addr} {ds : List (Key × D)} (e : env[i]? = some (.odi a ds)) :
    σ[i]? = some (some (V.ref a)) ∧ (β.H a = none ∨ β.bx = some a) ∧ G a = none ∧ ∃ xs, H a = some (.dK xs) ∧ DatK K G xs ds := by
  obtain ⟨o, h1, h2, h3, h4, h5⟩ := g.sl.get e
  exact ⟨by rw [h1, h2], h3, h4, h5⟩
theorem Good.obj (g : Good K β σ env G H) {i : Nat} {a : Addr} {u : HO} (e : env[i]? = some (.obj a u)) :
    σ[i]? = some (some (V.ref a)) ∧ (β.H a = none ∨ β.bx = some a) ∧ G a = none ∧ ∃ _x : Unit, H a = some u ∧ DatN K G := by
  obtain ⟨o, h1, h2, h3, h4, h5⟩ := g.sl.get e
  exact ⟨by rw [h1, h2], h3, h4, h5⟩
/-- one's own list is written -/
theorem Good.write (g : Good K β σ env G H) {i : Nat} {a : Addr} {ds ds' : List D} {xs : List V} (e : env[i]? = some (.own a ds)) (hx : DatL K G xs ds') : Good K β σ (env.set i (.own a ds')) G (upd H a (.lst xs)) := by
  obtain ⟨h1, h2, h3, ys, h4, h5⟩ := g.own e
  refine ⟨g.gg, fun b o hb ho => ?_, fun b o ho => ?_, g.ow, fun b hb => ?_, g.sl.wrOwn hx e g.nd, by rw [nd_own e]; exact g.nd⟩
  · have : b ≠ a := fun z => by
      subst z
      rcases h2 with z | z
      · rw [z] at ho; cases ho
      · exact hb z
    rw [upd_ne this]; exact g.hh b o hb ho
  · have : b ≠ a := fun z => by subst z; rw [h3] at ho; cases ho
    rw [upd_ne this]; exact g.gh b o ho
  · by_cases z : b = a
    · subst z; rw [upd_same]; exact (fun e => nomatch e)
    · rw [upd_ne z]; exact g.bh b hb
theorem nd_newOwn {a : Addr} {ds : List D} : ∀ {env : Env'} (_ : a ∉ env.filterMap ownA) (i : Nat), (env.filterMap ownA).Nodup → ((env.set i (.own a ds)).filterMap ownA).Nodup ∧ ∀ b ∈ (env.set i (.own a ds)).filterMap ownA, b = a ∨ b ∈ env.filterMap ownA
  | [], _, _, h => ⟨h, fun b hb => .inr hb⟩
  | t :: env, na, 0, h => by
    have h2 : (env.filterMap ownA).Nodup ∧ ∀ b ∈ env.filterMap ownA, b ∈ (t :: env).filterMap ownA := by
      rw [List.filterMap_cons] at h ⊢
      cases q : ownA t with
      | none => rw [q] at h; exact ⟨h, fun b hb => hb⟩
      | some c => rw [q] at h; exact ⟨(List.nodup_cons.mp h).2, fun b hb => List.mem_cons_of_mem _ hb⟩
    refine ⟨List.nodup_cons.mpr ⟨fun m => na (h2.2 _ m), h2.1⟩, fun b hb => ?_⟩
    rcases List.mem_cons.mp (show b ∈ a :: env.filterMap ownA from hb) with z | z
    · exact .inl z
    · exact .inr (h2.2 _ z)
  | t :: env, na, i + 1, h => by
    rw [List.set_cons_succ]
    rw [List.filterMap_cons] at h na ⊢
    rw [List.filterMap_cons]
    cases q : ownA t with
    | none =>
      rw [q] at h na
      exact nd_newOwn na i h
    | some c =>
      rw [q] at h na
      have na' : a ≠ c ∧ a ∉ env.filterMap ownA := by
        constructor
        · intro z; exact na (by rw [z]; exact List.mem_cons_self)
        · intro z; exact na (List.mem_cons_of_mem _ z)
      have r := nd_newOwn (ds := ds) na'.2 i (List.nodup_cons.mp h).2
      refine ⟨List.nodup_cons.mpr ⟨fun m => ?_, r.1⟩, fun b hb => ?_⟩
      · rcases r.2 _ m with z | z
        · exact na'.1 z.symm
        · exact (List.nodup_cons.mp h).1 z
      · rcases List.mem_cons.mp hb with z | z
        · exact .inr (by rw [z]; exact List.mem_cons_self)
        · rcases r.2 _ z with z | z
          · exact .inl z
          · exact .inr (List.mem_cons_of_mem _ z)
/-- a new list that is one's own -/
theorem Good.newOwn (g : Good K β σ env G H) {a : Addr} {ds : List D} {xs : List V} (i : Nat) (hn : H a = none) (hx : DatL K G xs ds) : Good K β (σ.set i (some (V.ref a))) (env.set i (.own a ds)) G (upd H a (.lst xs)) := by
  have hb : β.H a = none := by
    cases q : β.H a with
    | none => rfl
    | some o => exact absurd hn (g.hn (by rw [q]; exact (fun e => nomatch e)))
  have hG : G a = none := g.gh.back hn
  have hna : a ∉ env.filterMap ownA := fun m => by
    obtain ⟨s, hs, e⟩ := List.mem_filterMap.mp m
    obtain ⟨j, hj⟩ := List.mem_iff_getElem?.mp hs
    cases s with
    | un => cases e
    | val v d => cases e
    | own b ds' =>
      obtain rfl : b = a := Option.some.inj e
      obtain ⟨_, _, _, ys, h4, _⟩ := g.own hj
      rw [h4] at hn; cases hn
    | odi b ds' =>
      obtain rfl : b = a := Option.some.inj e
      obtain ⟨_, _, _, ys, h4, _⟩ := g.odi hj
      rw [h4] at hn; cases hn
    | obj b ds' =>
      obtain rfl : b = a := Option.some.inj e
      obtain ⟨_, _, _, ys, h4, _⟩ := g.obj hj
      rw [h4] at hn; cases hn
  refine ⟨g.gg, fun b o hb' ho => ?_, fun b o ho => ?_, g.ow, fun b hb' => ?_, ?_, ?_⟩
  · rw [upd_ne (fun z => by subst z; rw [hb] at ho; cases ho)]; exact g.hh b o hb' ho
  · rw [upd_ne (fun z => by subst z; rw [hG] at ho; cases ho)]; exact g.gh b o ho
  · by_cases z : b = a
    · subst z; rw [upd_same]; exact (fun e => nomatch e)
    · rw [upd_ne z]; exact g.bh b hb'
  · exact (g.sl.wr hna).set (s := .own a ds) ⟨rfl, .inl hb, hG, xs, upd_same, hx⟩ i
  · exact (nd_newOwn hna i g.nd).1
end
end DL

set_option Elab.async false
set_option linter.all false
set_option maxRecDepth 100000
set_option maxHeartbeats 2000000
namespace DL
open PySem PySem.Spec PyProof.Rows L2

/-! ### readings that give data -/
section
variable (K : PySem.W.Frag) (β : Bas)
def EV (te : TE) (env : Env') (d : D) : Prop := ∀ σ G H, Good K β σ env G H → ∀ Q : VK, (∀ v G' H', Stp G H G' H' → Dat K G' v d → Q v H') → te σ H Q
def EVv (te : TE) (env : Env') (v : V) (d : D) : Prop := ∀ σ G H, Good K β σ env G H → ∀ Q : VK, (∀ G' H', Stp G H G' H' → Dat K G' v d → Q v H') → te σ H Q
def EVT (tt : TT) (env : Env') (b : Bool) : Prop := ∀ σ G H, Good K β σ env G H → ∀ Q : Bool → Hp → Prop, (∀ G' H', Stp G H G' H' → Q b H') → tt σ H Q
def EVA (ta : TA) (env : Env') (ds : List D) : Prop := ∀ σ G H, Good K β σ env G H → ∀ Q : List V → Hp → Prop, (∀ vs G' H', Stp G H G' H' → DatL K G' vs ds → Q vs H') → ta σ H Q
def EVAv (ta : TA) (env : Env') (vs : List V) (ds : List D) : Prop := ∀ σ G H, Good K β σ env G H → ∀ Q : List V → Hp → Prop, (∀ G' H', Stp G H G' H' → DatL K G' vs ds → Q vs H') → ta σ H Q
def EVO (to : TO) (env : Env') (o : Option Int) : Prop := ∀ σ G H, Good K β σ env G H → ∀ Q : Option Int → Hp → Prop, (∀ G' H', Stp G H G' H' → Q o H') → to σ H Q
/-- an operation on data -/
def OpD (r : R2) (x y z : D) : Prop := ∀ G H v1 v2, Ex G H → Dat K G v1 x → Dat K G v2 y → ∀ Q : VK, (∀ v G' H', Stp G H G' H' → Dat K G' v z → Q v H') → r v1 v2 H Q
def UnD (r : V → Hp → VK → Prop) (x z : D) : Prop := ∀ G H v1, Ex G H → Dat K G v1 x → ∀ Q : VK, (∀ v G' H', Stp G H G' H' → Dat K G' v z → Q v H') → r v1 H Q
def CbD (r : List V → Hp → VK → Prop) (xs : List D) (z : D) : Prop := ∀ G H vs, Ex G H → DatL K G vs xs → ∀ Q : VK, (∀ v G' H', Stp G H G' H' → Dat K G' v z → Q v H') → r vs H Q
end
section
variable {K : PySem.W.Frag} {β : Bas} {env : Env'} {ta tb te tc : TE} {tt tu : TT} {x y z d : D} {v w : V}
theorem EVv.ev (h : EVv K β te env v d) : EV K β te env d := fun σ G H g Q q => h σ G H g Q fun G' H' => q v G' H'
theorem EVAv.ev {ta : TA} {vs ds} (h : EVAv K β ta env vs ds) : EVA K β ta env ds := fun σ G H g Q q => h σ G H g Q fun G' H' => q vs G' H'
theorem evv_var {i : Nat} (h : env[i]? = some (.val v d)) : EVv K β (tVar i) env v d := fun σ G H g Q q => by
  obtain ⟨o, h1, h2, h3⟩ := g.sl.get h
  exact ⟨v, by rw [h1, h2], q G H (.refl g.gh) h3⟩
theorem ev_var {i : Nat} (h : env[i]? = some (.val v d)) : EV K β (tVar i) env d := (evv_var h).ev
theorem ev_int {i : Int} : EV K β (tC (.int i)) env (.int i) := fun σ G H g Q q => q _ G H (.refl g.gh) (.int i)
theorem ev_str {i : Str} : EV K β (tC (.str i)) env (.str i) := fun σ G H g Q q => q _ G H (.refl g.gh) (.str i)
theorem ev_bl {i : Bool} : EV K β (tC (.bl i)) env (.bl i) := fun σ G H g Q q => q _ G H (.refl g.gh) (.bl i)
theorem ev_non : EV K β (tC .non) env .non := fun σ G H g Q q => q _ G H (.refl g.gh) .non
theorem evv_c {v : V} : EVv K β (tC v) env v (.op v) := fun σ G H g Q q => q G H (.refl g.gh) (.op v)
theorem ev_c {v : V} : EV K β (tC v) env (.op v) := evv_c.ev
theorem ev_op {r : R2} (ha : EV K β ta env x) (hb : EV K β tb env y) (hr : OpD K r x y z) : EV K β (tOp r ta tb) env z := fun σ G H g Q q =>
  ha σ G H g _ fun v1 G1 H1 t1 d1 => hb σ G1 H1 (g.up t1) _ fun v2 G2 H2 t2 d2 => hr G2 H2 v1 v2 t2.gh (d1.up t2.gg) d2 Q fun v G3 H3 t3 d3 => q v G3 H3 ((t1.trans t2).trans t3) d3
theorem ev_un {r : V → Hp → VK → Prop} (ha : EV K β ta env x) (hr : UnD K r x z) : EV K β (tUn r ta) env z := fun σ G H g Q q =>
  ha σ G H g _ fun v1 G1 H1 t1 d1 => hr G1 H1 v1 t1.gh d1 Q fun v G3 H3 t3 d3 => q v G3 H3 (t1.trans t3) d3
theorem ea_nil : EVA K β tNil env [] := fun σ G H g Q q => q _ G H (.refl g.gh) .nil
theorem ea_cons {tr : TA} {ds : List D} (h : EV K β te env d) (hr : EVA K β tr env ds) : EVA K β (tCons te tr) env (d :: ds) := fun σ G H g Q q =>
  h σ G H g _ fun v1 G1 H1 t1 d1 => hr σ G1 H1 (g.up t1) _ fun vs G2 H2 t2 d2 => q _ G2 H2 (t1.trans t2) (.cons (d1.up t2.gg) d2)
theorem eav_nil : EVAv K β tNil env [] [] := fun σ G H g Q q => q G H (.refl g.gh) .nil
theorem eav_cons {tr : TA} {ds : List D} {vs : List V} (h : EVv K β te env v d) (hr : EVAv K β tr env vs ds) : EVAv K β (tCons te tr) env (v :: vs) (d :: ds) := fun σ G H g Q q =>
  h σ G H g _ fun G1 H1 t1 d1 => hr σ G1 H1 (g.up t1) _ fun G2 H2 t2 d2 => q G2 H2 (t1.trans t2) (.cons (d1.up t2.gg) d2)
theorem ev_tup {ta : TA} {ds : List D} (h : EVA K β ta env ds) (hl : ds.length ≤ sizeLine) : EV K β (tTup ta) env (.tup ds) := fun σ G H g Q q =>
  h σ G H g _ fun vs G1 H1 t1 d1 => ⟨by rw [d1.length]; exact hl, fun p hp => q _ (upd G1 p (.tup vs)) _ (t1.trans (.new t1.gh hp)) (.tup (.of upd_same) (d1.up (.new (t1.gh.back hp))))⟩
theorem ev_lst {ta : TA} {ds : List D} (h : EVA K β ta env ds) (hl : ds.length ≤ sizeLine) : EV K β (tLst ta) env (.lst ds) := fun σ G H g Q q =>
  h σ G H g _ fun vs G1 H1 t1 d1 => ⟨by rw [d1.length]; exact hl, fun p hp => q _ (upd G1 p (.lst vs)) _ (t1.trans (.new t1.gh hp)) (.lst upd_same (d1.up (.new (t1.gh.back hp))))⟩
theorem ev_cb {r : List V → Hp → VK → Prop} {ta : TA} {ds : List D} (h : EVA K β ta env ds) (hr : CbD K r ds z) : EV K β (tCB r ta) env z := fun σ G H g Q q =>
  h σ G H g _ fun vs G1 H1 t1 d1 => hr G1 H1 vs t1.gh d1 Q fun v G3 H3 t3 d3 => q v G3 H3 (t1.trans t3) d3
theorem ev_then {k : V → Hp → VK → Prop} (h : EV K β ta env x) (hr : UnD K k x z) : EV K β (tThen ta k) env z := fun σ G H g Q q =>
  h σ G H g _ fun v1 G1 H1 t1 d1 => hr G1 H1 v1 t1.gh d1 Q fun v G3 H3 t3 d3 => q v G3 H3 (t1.trans t3) d3
/-! tests -/
theorem et_test {b : Bool} (h : EV K β te env (.bl b)) : EVT K β (tTest te) env b := fun σ G H g Q q => h σ G H g _ fun v G1 H1 t1 d1 => ⟨b, d1.blV, q G1 H1 t1⟩
theorem et_B {b : Bool} (h : EV K β te env (.bl b)) : EVT K β (tB te) env b := fun σ G H g Q q => h σ G H g _ fun v G1 H1 t1 d1 => ⟨b, d1.blV, q G1 H1 t1⟩
theorem et_and {a b : Bool} (h1 : EVT K β tt env a) (h2 : a = true → EVT K β tu env b) : EVT K β (tAnd tt tu) env (a && b) := fun σ G H g Q q => h1 σ G H g _ fun G1 H1 t1 => by
  cases a with
  | true => show tu σ H1 Q; exact h2 rfl σ G1 H1 (g.up t1) Q fun G2 H2 t2 => q G2 H2 (t1.trans t2)
  | false => show Q false H1; exact q G1 H1 t1
theorem et_or {a b : Bool} (h1 : EVT K β tt env a) (h2 : a = false → EVT K β tu env b) : EVT K β (tOr tt tu) env (a || b) := fun σ G H g Q q => h1 σ G H g _ fun G1 H1 t1 => by
  cases a with
  | true => show Q true H1; exact q G1 H1 t1
  | false => show tu σ H1 Q; exact h2 rfl σ G1 H1 (g.up t1) Q fun G2 H2 t2 => q G2 H2 (t1.trans t2)
theorem et_not {a : Bool} (h1 : EVT K β tt env a) : EVT K β (tNot tt) env (!a) := fun σ G H g Q q => h1 σ G H g _ fun G1 H1 t1 => q G1 H1 t1
theorem et_is {a b : Bool} (h : EVT K β tt env a) (e : a = b) : EVT K β tt env b := e ▸ h
theorem ev_is {w : D} (h : EV K β te env d) (e : d = w) : EV K β te env w := e ▸ h
theorem ev_and {a b : Bool} (h1 : EV K β ta env (.bl a)) (h2 : a = true → EV K β tb env (.bl b)) : EV K β (tAndV ta tb) env (.bl (a && b)) := fun σ G H g Q q => h1 σ G H g _ fun v1 G1 H1 t1 d1 => ⟨a, d1.blV, by
  cases a with
  | true => show tb σ H1 Q; exact h2 rfl σ G1 H1 (g.up t1) Q fun v G2 H2 t2 d2 => q v G2 H2 (t1.trans t2) d2
  | false => show Q (.bl false) H1; exact q _ G1 H1 t1 (.bl false)⟩
theorem ev_or {a b : Bool} (h1 : EV K β ta env (.bl a)) (h2 : a = false → EV K β tb env (.bl b)) : EV K β (tOrV ta tb) env (.bl (a || b)) := fun σ G H g Q q => h1 σ G H g _ fun v1 G1 H1 t1 d1 => ⟨a, d1.blV, by
  cases a with
  | true => show Q (.bl true) H1; exact q _ G1 H1 t1 (.bl true)
  | false => show tb σ H1 Q; exact h2 rfl σ G1 H1 (g.up t1) Q fun v G2 H2 t2 d2 => q v G2 H2 (t1.trans t2) d2⟩
theorem ev_not {a : Bool} (h1 : EV K β ta env (.bl a)) : EV K β (tNotV ta) env (.bl (!a)) := fun σ G H g Q q => h1 σ G H g _ fun v1 G1 H1 t1 d1 => ⟨a, d1.blV, q _ G1 H1 t1 (.bl _)⟩
theorem ev_if {b : Bool} (h : EVT K β tt env b) (h1 : b = true → EV K β ta env d) (h2 : b = false → EV K β tb env d) : EV K β (tIf tt ta tb) env d := fun σ G H g Q q => h σ G H g _ fun G1 H1 t1 => by
  cases b with
  | true => show ta σ H1 Q; exact h1 rfl σ G1 H1 (g.up t1) Q fun v G2 H2 t2 d2 => q v G2 H2 (t1.trans t2) d2
  | false => show tb σ H1 Q; exact h2 rfl σ G1 H1 (g.up t1) Q fun v G2 H2 t2 d2 => q v G2 H2 (t1.trans t2) d2
theorem evv_if {b : Bool} (h : EVT K β tt env b) (h1 : b = true → EVv K β ta env v d) (h2 : b = false → EVv K β tb env v d) : EVv K β (tIf tt ta tb) env v d := fun σ G H g Q q => h σ G H g _ fun G1 H1 t1 => by
  cases b with
  | true => show ta σ H1 Q; exact h1 rfl σ G1 H1 (g.up t1) Q fun G2 H2 t2 d2 => q G2 H2 (t1.trans t2) d2
  | false => show tb σ H1 Q; exact h2 rfl σ G1 H1 (g.up t1) Q fun G2 H2 t2 d2 => q G2 H2 (t1.trans t2) d2
theorem ev_chain {r r' : R2} {b b' : Bool} (ha : EV K β ta env x) (hb : EV K β tb env y) (hr : OpD K r x y (.bl b)) (hc : b = true → EV K β tc env z) (hr' : b = true → OpD K r' y z (.bl b')) : EV K β (tChain r r' ta tb tc) env (.bl (b && b')) := fun σ G H g Q q =>
  ha σ G H g _ fun v1 G1 H1 t1 d1 => hb σ G1 H1 (g.up t1) _ fun v2 G2 H2 t2 d2 => hr G2 H2 v1 v2 t2.gh (d1.up t2.gg) d2 _ fun v G3 H3 t3 d3 => ⟨b, d3.blV, by
    cases b with
    | true =>
      rw [if_pos rfl]
      exact hc rfl σ G3 H3 (((g.up t1).up t2).up t3) _ fun v4 G4 H4 t4 d4 => hr' rfl G4 H4 v2 v4 t4.gh (d2.up (t3.gg.trans t4.gg)) d4 Q fun v5 G5 H5 t5 d5 => q v5 G5 H5 ((((t1.trans t2).trans t3).trans t4).trans t5) d5
    | false => rw [if_neg Bool.false_ne_true]; exact q _ G3 H3 ((t1.trans t2).trans t3) (.bl false)⟩

/-! ### operations -/
theorem Dat.sq {G : Hp} {v : V} (h : Dat K G v d) : Dat K G v d := h
theorem op_I0 {g : Int → Int → V} {g' : Int → Int → D} (hg : ∀ i j G, Dat K G (g i j) (g' i j)) {i j : Int} : OpD K (rI0 g) (.int i) (.int j) (g' i j) := fun G H v1 v2 e d1 d2 Q q =>
  ⟨i, j, d1.intV, d2.intV, q _ G H (.refl e) (hg i j G)⟩
theorem op_addI {i j : Int} : OpD K (rI0 fun i j => .int (i + j)) (.int i) (.int j) (.int (i + j)) := op_I0 (g' := fun i j => .int (i + j)) fun _ _ _ => .int _
theorem op_subI {i j : Int} : OpD K (rI0 fun i j => .int (i - j)) (.int i) (.int j) (.int (i - j)) := op_I0 (g' := fun i j => .int (i - j)) fun _ _ _ => .int _
theorem op_ltI {i j : Int} : OpD K (rI0 fun i j => .bl (decide (i < j))) (.int i) (.int j) (.bl (decide (i < j))) := op_I0 (g' := fun i j => .bl (decide (i < j))) fun _ _ _ => .bl _
theorem op_leI {i j : Int} : OpD K (rI0 fun i j => .bl (decide (i ≤ j))) (.int i) (.int j) (.bl (decide (i ≤ j))) := op_I0 (g' := fun i j => .bl (decide (i ≤ j))) fun _ _ _ => .bl _
theorem op_gtI {i j : Int} : OpD K (rI0 fun i j => .bl (decide (j < i))) (.int i) (.int j) (.bl (decide (j < i))) := op_I0 (g' := fun i j => .bl (decide (j < i))) fun _ _ _ => .bl _
theorem op_geI {i j : Int} : OpD K (rI0 fun i j => .bl (decide (j ≤ i))) (.int i) (.int j) (.bl (decide (j ≤ i))) := op_I0 (g' := fun i j => .bl (decide (j ≤ i))) fun _ _ _ => .bl _
theorem op_IC {C : Int → Int → Prop} {g : Int → Int → V} {g' : Int → Int → D} (hg : ∀ i j G, Dat K G (g i j) (g' i j)) {i j : Int} (hc : C i j) : OpD K (rI C g) (.int i) (.int j) (g' i j) := fun G H v1 v2 e d1 d2 Q q =>
  ⟨i, j, d1.intV, d2.intV, hc, q _ G H (.refl e) (hg i j G)⟩
theorem op_mulI {i j : Int} (h : (-(2 ^ 64) < i ∧ i < 2 ^ 64) ∨ (-(2 ^ 64) < j ∧ j < 2 ^ 64)) : OpD K (rI CMul fun i j => .int (i * j)) (.int i) (.int j) (.int (i * j)) := op_IC (g' := fun i j => .int (i * j)) (fun _ _ _ => .int _) h
theorem op_fdivI {i j : Int} (h : 0 < j ∧ j < 1073741824) : OpD K (rI CDiv fun i j => .int (i / j)) (.int i) (.int j) (.int (i / j)) := op_IC (g' := fun i j => .int (i / j)) (fun _ _ _ => .int _) h
theorem op_modI {i j : Int} (h : 0 < j) : OpD K (rI (fun _ j => 0 < j) fun i j => .int (i % j)) (.int i) (.int j) (.int (i % j)) := op_IC (g' := fun i j => .int (i % j)) (fun _ _ _ => .int _) h
/-- scalars: == -/
def scalD : D → Option V
  | .non => some .non | .bl b => some (.bl b) | .int i => some (.int i) | .str x => some (.str x) | _ => none
theorem Dat.scal {G : Hp} {u : V} (h : Dat K G v d) (e : scalD d = some u) : v = u := by
  cases h <;> first | exact Option.some.inj e | cases e
theorem op_eqS {u1 u2 : V} (h1 : scalD x = some u1) (h2 : scalD y = some u2) (h : L2.scal u1 u2 = true) : OpD K rEq x y (.bl (decide (u1 = u2))) := fun G H v1 v2 e d1 d2 Q q => by
  rw [d1.scal h1, d2.scal h2]
  exact ⟨h, q _ G H (.refl e) (.bl _)⟩
theorem op_neS {u1 u2 : V} (h1 : scalD x = some u1) (h2 : scalD y = some u2) (h : L2.scal u1 u2 = true) : OpD K rNe x y (.bl (!decide (u1 = u2))) := fun G H v1 v2 e d1 d2 Q q => by
  rw [d1.scal h1, d2.scal h2]
  exact ⟨h, q _ G H (.refl e) (.bl _)⟩
theorem op_eqI {i j : Int} : OpD K rEq (.int i) (.int j) (.bl (decide (i = j))) := fun G H v1 v2 e d1 d2 Q q => by
  rw [d1.intV, d2.intV]
  refine ⟨rfl, ?_⟩
  rw [show (decide (V.int i = V.int j)) = decide (i = j) by simp]
  exact q _ G H (.refl e) (.bl _)
theorem op_neI {i j : Int} : OpD K rNe (.int i) (.int j) (.bl (!decide (i = j))) := fun G H v1 v2 e d1 d2 Q q => by
  rw [d1.intV, d2.intV]
  refine ⟨rfl, ?_⟩
  rw [show (decide (V.int i = V.int j)) = decide (i = j) by simp]
  exact q _ G H (.refl e) (.bl _)
theorem op_eqB {i j : Bool} : OpD K rEq (.bl i) (.bl j) (.bl (i == j)) := fun G H v1 v2 e d1 d2 Q q => by
  rw [d1.blV, d2.blV]
  refine ⟨rfl, ?_⟩
  rw [show (decide (V.bl i = V.bl j)) = (i == j) by cases i <;> cases j <;> rfl]
  exact q _ G H (.refl e) (.bl _)
theorem op_neB {i j : Bool} : OpD K rNe (.bl i) (.bl j) (.bl (i != j)) := fun G H v1 v2 e d1 d2 Q q => by
  rw [d1.blV, d2.blV]
  refine ⟨rfl, ?_⟩
  rw [show (!decide (V.bl i = V.bl j)) = (i != j) by cases i <;> cases j <;> rfl]
  exact q _ G H (.refl e) (.bl _)
theorem op_eqStr {i j : Str} : OpD K rEq (.str i) (.str j) (.bl (decide (i = j))) := fun G H v1 v2 e d1 d2 Q q => by
  rw [d1.strV, d2.strV]
  refine ⟨rfl, ?_⟩
  rw [show (decide (V.str i = V.str j)) = decide (i = j) by simp]
  exact q _ G H (.refl e) (.bl _)
theorem op_neStr {i j : Str} : OpD K rNe (.str i) (.str j) (.bl (!decide (i = j))) := fun G H v1 v2 e d1 d2 Q q => by
  rw [d1.strV, d2.strV]
  refine ⟨rfl, ?_⟩
  rw [show (decide (V.str i = V.str j)) = decide (i = j) by simp]
  exact q _ G H (.refl e) (.bl _)
theorem op_isBD {i j : Bool} : OpD K rIsB (.bl i) (.bl j) (.bl (decide (i = j))) := fun G H v1 v2 e d1 d2 Q q => ⟨i, j, d1.blV, d2.blV, q _ G H (.refl e) (.bl _)⟩
/-- a[i] of a tuple, a list -/
theorem atI_of {xs : List V} {ds : List D} {G : Hp} (h : DatL K G xs ds) {i : Int} (e : atI ds i = some d) : ∃ u, atI xs i = some u ∧ Dat K G u d := by
  unfold atI at e ⊢
  rw [h.length]
  cases q : ixN ds.length i with
  | none => rw [q] at e; cases e
  | some j =>
    rw [q] at e
    exact h.get e
theorem op_ixT {ds : List D} {i : Int} (e : atI ds i = some d) : OpD K (rIxT K) (.tup ds) (.int i) d := fun G H v1 v2 e0 d1 d2 Q q => by
  obtain ⟨a, xs, rfl, ht, hl⟩ := d1.tupV
  obtain ⟨u, hu, du⟩ := atI_of hl e
  exact ⟨a, xs, i, u, rfl, d2.intV, ex_t e0 ht, hu, q u G H (.refl e0) du⟩
theorem op_ixL {ds : List D} {i : Int} (e : atI ds i = some d) : OpD K (rIxL K) (.lst ds) (.int i) d := fun G H v1 v2 e0 d1 d2 Q q => by
  obtain ⟨a, xs, rfl, ht, hl⟩ := d1.lstV
  obtain ⟨u, hu, du⟩ := atI_of hl e
  exact ⟨a, xs, i, u, rfl, d2.intV, ex_l e0 (.of ht), hu, q u G H (.refl e0) du⟩
theorem ixN_nat {n j : Nat} (hj : j < n) : ixN n (j : Int) = some j := by
  unfold ixN
  rw [if_pos (by omega), if_pos (by omega)]
  simp
theorem atI_natD {α : Type} {xs : List α} {j : Nat} {a : α} (h : xs[j]? = some a) : atI xs (j : Int) = some a := by
  unfold atI
  rw [ixN_nat (by obtain ⟨h, _⟩ := List.getElem?_eq_some_iff.mp h; exact h)]
  exact h
theorem atI_int {α : Type} {xs : List α} {i : Int} {a : α} (h0 : 0 ≤ i) (h : xs[i.toNat]? = some a) : atI xs i = some a := by
  have e : ((i.toNat : Nat) : Int) = i := Int.toNat_of_nonneg h0
  rw [← e]
  exact atI_natD h
/-- any of the two -/
theorem op_ix {ds : List D} {i : Int} (h : x = .tup ds ∨ x = .lst ds) (e : atI ds i = some d) : OpD K (rIx K) x (.int i) d := fun G H v1 v2 e0 d1 d2 Q q => by
  rcases h with rfl | rfl
  · exact Or.inr (Or.inl (op_ixT e G H v1 v2 e0 d1 d2 Q q))
  · exact Or.inl (op_ixL e G H v1 v2 e0 d1 d2 Q q)
/-- xs + ys of lists, of tuples -/
theorem op_catTD {ds es : List D} (hl : ds.length + es.length ≤ sizeLine) (h1 : ds ≠ []) (h2 : es ≠ []) : OpD K (rCatT K) (.tup ds) (.tup es) (.tup (ds ++ es)) := fun G H v1 v2 e0 d1 d2 Q q => by
  obtain ⟨a, xs, rfl, ht, hd⟩ := d1.tupV
  obtain ⟨b, ys, rfl, ht', hd'⟩ := d2.tupV
  refine ⟨a, b, xs, ys, rfl, rfl, ex_t e0 ht, ex_t e0 ht', fun z => h1 (List.eq_nil_of_length_eq_zero (by rw [← hd.length, z]; rfl)), by rw [hd.length, hd'.length]; exact hl, ?_⟩
  refine ⟨fun z => absurd (List.eq_nil_of_length_eq_zero (by rw [← hd'.length, z]; rfl)) h2, fun _ p hp => ?_⟩
  exact q _ (upd G p (.tup (xs ++ ys))) _ (.new e0 hp) (.tup (.of upd_same) ((hd.append hd').up (.new (e0.back hp))))
end
end DL

set_option Elab.async false
set_option linter.all false
set_option maxRecDepth 100000
set_option maxHeartbeats 2000000
namespace DL
open PySem PySem.Spec PyProof.Rows L2

/-! ### t * k of tuples, k from 1 on -/
theorem tuple_mul1 (l : Addr) (items : Array Value) (n : Nat) (dd : Option Addr) (sl : Array (Option Value)) (u : Tok) :
    Meets (Builtin.«tuple.__mul__» ⟨[.ref l, .int 1 u], []⟩) (fun _ R s => s.heap.get? l = some { cls := .type "tuple", dict := dd, data := .seq items n, slots := sl } ∧ R (.ok (.ret (Value.ref l))) s) :=
  .of_wp fun prog w A R s h => by
    obtain ⟨hp, g, d, tk, os⟩ := s
    obtain ⟨hl, h⟩ := h
    have f1 := AutoSeq1.idx_int
    wp_walk using wpAny_loadPart' hl
    repeat (first
      | (refine wpAny_ite_false (decide_eq_false (by decide)) ?_; wp_walk using wpAny_loadPart' hl)
      | (refine wpAny_ite_true (decide_eq_true (by simp)) ?_; wp_walk using wpAny_loadPart' hl))
    exact ⟨_, rfl, h⟩
def rRepT2 (K : PySem.W.Frag) : R2 := fun x y H Q => ∃ l k xs, x = .ref l ∧ y = .int k ∧ SqT K H l xs ∧ xs ≠ [] ∧ xs.length ≤ 1000 ∧ k ≤ 1000 ∧ ((k = 1 ∧ Q (.ref l) H) ∨ (2 ≤ k ∧ ∀ p, H p = none → Q (.ref p) (upd H p (.tup (List.replicate k.toNat xs).flatten))))
theorem op_repT2 {X : Cx} : OpR X (binaryOp .Mult) (rRepT2 X.K) := by
  intro pins s σ H x y v u Q I rx ry h
  obtain ⟨l, k, xs, rfl, rfl, hT, hne, hz, hk, h | ⟨h2, q⟩⟩ := h
  · obtain ⟨rfl, q⟩ := h
    cases rx
    obtain ⟨t, rfl⟩ := ry
    obtain ⟨its, r, ⟨⟨cls, dd, data, sl⟩, ho, hc, n, hd⟩, hs⟩ := I.tuple hT
    simp only at hc hd
    subst hc hd
    exact wpAny_binaryOp_repeat_ref (T := "tuple") (U := "int") (by decide) ⟨_, ho, rfl⟩ (fun s' => typeIs_int s' 1 t) noFill_tuple_mul F.fills_int_mul F.slot_int_rmul repeat_tuple F.slot_int_index.lookup
      (call_meets F.slot_int_rmul (typeIs_int s 1 t) F.entry_int_rmul (F.args_int_rmul_2 _ _) (int_rmul_tuple 1 t l its.toArray n dd sl)
        ⟨ho, rfl, ⟨_, ho, rfl⟩, call_meets F.slot_tuple_mul ⟨_, ho, rfl⟩ F.entry_tuple_mul (F.args_tuple_mul_2 _ _) (tuple_mul1 l its.toArray n dd sl t) ⟨ho, ⟨.ref l, H, I, rfl, q⟩⟩⟩)
  · exact op_repT pins s σ H _ _ v u Q I rx ry ⟨l, k, xs, rfl, rfl, hT, hne, h2, hk, hz, q⟩
section
variable {K : PySem.W.Frag} {β : Bas} {env : Env'} {ta tb te tc : TE} {tt tu : TT} {x y z d : D} {v w : V}
theorem op_repT2K {X : Cx} {K : PySem.W.Frag} (h : X.K = K := by rfl) : OpR X (binaryOp .Mult) (rRepT2 K) := h ▸ op_repT2
theorem op_repTD {ds : List D} {k : Int} (h1 : 1 ≤ k) (h2 : k ≤ 1000) (hn : ds ≠ []) (hl : ds.length ≤ 1000) : OpD K (rRepT2 K) (.tup ds) (.int k) (.tup (List.replicate k.toNat ds).flatten) := fun G H v1 v2 e0 d1 d2 Q q => by
  obtain ⟨a, xs, rfl, ht, hd⟩ := d1.tupV
  refine ⟨a, k, xs, rfl, d2.intV, ex_t e0 ht, fun z => hn (List.eq_nil_of_length_eq_zero (by rw [← hd.length, z]; rfl)), by rw [hd.length]; exact hl, h2, ?_⟩
  by_cases hk : k = 1
  · subst hk
    refine .inl ⟨rfl, q _ G H (.refl e0) ?_⟩
    rw [show (List.replicate (1 : Int).toNat ds).flatten = ds by simp]
    exact .tup ht hd
  · refine .inr ⟨by omega, fun p hp => q _ (upd G p _) _ (.new e0 hp) (.tup (.of upd_same) ((DatL.flatten _ hd).up (.new (e0.back hp))))⟩
theorem op_catLD {ds es : List D} (hl : ds.length + es.length ≤ sizeLine) : OpD K rCat (.lst ds) (.lst es) (.lst (ds ++ es)) := fun G H v1 v2 e0 d1 d2 Q q => by
  obtain ⟨a, xs, rfl, ht, hd⟩ := d1.lstV
  obtain ⟨b, ys, rfl, ht', hd'⟩ := d2.lstV
  exact ⟨a, b, xs, ys, rfl, rfl, e0 _ _ ht, e0 _ _ ht', by rw [hd.length, hd'.length]; exact hl, fun p hp => q _ (upd G p (.lst (xs ++ ys))) _ (.new e0 hp) (.lst upd_same ((hd.append hd').up (.new (e0.back hp))))⟩
theorem op_repLD {ds : List D} {k : Int} (h1 : -(2 ^ 63) ≤ k) (h2 : k < 2 ^ 63) (hl : ds.length * k.toNat ≤ sizeLine) : OpD K rRep (.lst ds) (.int k) (.lst (List.replicate k.toNat ds).flatten) := fun G H v1 v2 e0 d1 d2 Q q => by
  obtain ⟨a, xs, rfl, ht, hd⟩ := d1.lstV
  exact ⟨a, k, xs, rfl, d2.intV, e0 _ _ ht, h1, h2, by rw [hd.length]; exact hl, fun p hp => q _ (upd G p _) _ (.new e0 hp) (.lst upd_same ((DatL.flatten _ hd).up (.new (e0.back hp))))⟩
/-! ### built-ins -/
theorem cb_abs {i : Int} : CbD K (fun xs H Q => ∃ i, xs = [V.int i] ∧ Q (.int (if i < 0 then -i else i)) H) [.int i] (.int (if i < 0 then -i else i)) := fun G H vs e dl Q q => by
  cases dl with | cons a t => cases t; cases a; exact ⟨i, rfl, q _ G H (.refl e) (.int _)⟩
theorem cb_int {i : Int} : CbD K (fun xs H Q => (∃ i, xs = [V.int i] ∧ Q (.int i) H) ∨ ∃ k, xs = [V.bl k] ∧ Q (.int (if k then 1 else 0)) H) [.int i] (.int i) := fun G H vs e dl Q q => by
  cases dl with | cons a t => cases t; cases a; exact .inl ⟨i, rfl, q _ G H (.refl e) (.int _)⟩
theorem cb_max2 {i j : Int} : CbD K (fun xs H Q => ∃ i j, xs = [V.int i, V.int j] ∧ Q (.int (if j > i then j else i)) H) [.int i, .int j] (.int (if j > i then j else i)) := fun G H vs e dl Q q => by
  cases dl with | cons a t => cases t with | cons b t => cases t; cases a; cases b; exact ⟨i, j, rfl, q _ G H (.refl e) (.int _)⟩
theorem cb_min2 {i j : Int} : CbD K (fun xs H Q => ∃ i j, xs = [V.int i, V.int j] ∧ Q (.int (if j < i then j else i)) H) [.int i, .int j] (.int (if j < i then j else i)) := fun G H vs e dl Q q => by
  cases dl with | cons a t => cases t with | cons b t => cases t; cases a; cases b; exact ⟨i, j, rfl, q _ G H (.refl e) (.int _)⟩
/-- len -/
def rLen (K : PySem.W.Frag) : List V → Hp → VK → Prop := fun xs H Q => ∃ x n, xs = [x] ∧ LenV K x H n ∧ Q (.int n) H
theorem cb_lenT {ds : List D} : CbD K (rLen K) [.tup ds] (.int ds.length) := fun G H vs e dl Q q => by
  cases dl with | cons a t =>
  cases t
  obtain ⟨a, xs, rfl, ht, hd⟩ := a.tupV
  exact ⟨_, xs.length, rfl, .inr ⟨xs, ex_t e ht, rfl⟩, by rw [hd.length]; exact q _ G H (.refl e) (.int _)⟩
theorem cb_lenL {ds : List D} : CbD K (rLen K) [.lst ds] (.int ds.length) := fun G H vs e dl Q q => by
  cases dl with | cons a t =>
  cases t
  obtain ⟨a, xs, rfl, ht, hd⟩ := a.lstV
  exact ⟨_, xs.length, rfl, .inl ⟨xs, .of (e _ _ ht), rfl⟩, by rw [hd.length]; exact q _ G H (.refl e) (.int _)⟩
/-- tuple(xs) -/
theorem un_tupL {ds : List D} : UnD K (kTup K) (.lst ds) (.tup ds) := fun G H v e d1 Q q => by
  obtain ⟨a, xs, rfl, ht, hd⟩ := d1.lstV
  exact .inl ⟨a, xs, rfl, .of (e _ _ ht), fun p hp => q _ (upd G p (.tup xs)) _ (.new e hp) (.tup (.of upd_same) (hd.up (.new (e.back hp))))⟩
theorem un_tupT {ds : List D} : UnD K (kTup K) (.tup ds) (.tup ds) := fun G H v e d1 Q q => by
  obtain ⟨a, xs, rfl, ht, hd⟩ := d1.tupV
  exact .inr ⟨a, xs, rfl, ex_t e ht, q _ G H (.refl e) (.tup ht hd)⟩
/-- the ints lo, lo + 1, .. as data -/
def rgD (lo : Int) (n : Nat) : List D := (List.range n).map fun i => D.int (lo + (i : Nat))
theorem DatL.rg {G : Hp} (lo : Int) (n : Nat) : DatL K G ((List.range n).map fun i => V.int (lo + (i : Nat))) (rgD lo n) := by
  have h := DatL.ints (K := K) (G := G) ((List.range n).map fun i => lo + (i : Nat))
  rw [List.map_map, List.map_map] at h
  exact h
theorem rgD_length (lo : Int) (n : Nat) : (rgD lo n).length = n := by unfold rgD; rw [List.length_map, List.length_range]
theorem rgD_get {lo : Int} {n i : Nat} (h : i < n) : (rgD lo n)[i]? = some (.int (lo + (i : Nat))) := by
  unfold rgD
  rw [List.getElem?_map, List.getElem?_range h]
  rfl
theorem ev_tupRg1 {n : Int} (h : EV K β ta env (.int n)) (h1 : n ≤ 16777216) (h0 : 0 ≤ n) : EV K β (tTupRg (tRg1 ta)) env (.tup (rgD 0 n.toNat)) := fun σ G H g Q q =>
  h σ G H g _ fun v1 G1 H1 t1 d1 => ⟨n, d1.intV, .of_le (by omega) h1 (by omega) h0, fun p hp => by
    have e : rgV 0 n = ((List.range n.toNat).map fun i => V.int (0 + (i : Nat))) := by unfold rgV; rw [Int.sub_zero]
    rw [e]
    exact q _ (upd G1 p _) _ (t1.trans (.new t1.gh hp)) (.tup (.of upd_same) (DatL.rg 0 _))⟩
theorem ev_lstRg1 {n : Int} (h : EV K β ta env (.int n)) (h1 : n ≤ 16777216) (h0 : 0 ≤ n) : EV K β (tLstRg (tRg1 ta)) env (.lst (rgD 0 n.toNat)) := fun σ G H g Q q =>
  h σ G H g _ fun v1 G1 H1 t1 d1 => ⟨n, d1.intV, .of_le (by omega) h1 (by omega) h0, fun p hp => by
    have e : rgV 0 n = ((List.range n.toNat).map fun i => V.int (0 + (i : Nat))) := by unfold rgV; rw [Int.sub_zero]
    rw [e]
    exact q _ (upd G1 p _) _ (t1.trans (.new t1.gh hp)) (.lst upd_same (DatL.rg 0 _))⟩
theorem ev_tupRg2 {m n : Int} (h : EV K β ta env (.int m)) (h' : EV K β tb env (.int n)) (h0 : 0 ≤ m ∧ m ≤ 16777216 ∧ 0 ≤ n ∧ n ≤ 16777216) : EV K β (tTupRg (tRg2 ta tb)) env (.tup (rgD m (n - m).toNat)) := fun σ G H g Q q =>
  h σ G H g _ fun v1 G1 H1 t1 d1 => h' σ G1 H1 (g.up t1) _ fun v2 G2 H2 t2 d2 => ⟨m, n, d1.intV, d2.intV, .of_le h0.1 h0.2.2.2 h0.2.1 h0.2.2.1, fun p hp => q _ (upd G2 p _) _ ((t1.trans t2).trans (.new t2.gh hp)) (.tup (.of upd_same) (DatL.rg m _))⟩
theorem ev_lstRg2 {m n : Int} (h : EV K β ta env (.int m)) (h' : EV K β tb env (.int n)) (h0 : 0 ≤ m ∧ m ≤ 16777216 ∧ 0 ≤ n ∧ n ≤ 16777216) : EV K β (tLstRg (tRg2 ta tb)) env (.lst (rgD m (n - m).toNat)) := fun σ G H g Q q =>
  h σ G H g _ fun v1 G1 H1 t1 d1 => h' σ G1 H1 (g.up t1) _ fun v2 G2 H2 t2 d2 => ⟨m, n, d1.intV, d2.intV, .of_le h0.1 h0.2.2.2 h0.2.1 h0.2.2.1, fun p hp => q _ (upd G2 p _) _ ((t1.trans t2).trans (.new t2.gh hp)) (.lst upd_same (DatL.rg m _))⟩
/-! ### isinstance -/
/-- the type of data -/
def tyD : D → Option String
  | .non => some "NoneType" | .bl _ => some "bool" | .int _ => some "int" | .str _ => some "str" | .tup _ => some "tuple" | .lst _ => some "list" | .dct _ => some "dict" | .op _ => none | .rng _ _ => none | .exc _ => none | .set _ _ _ => none | .idn _ d => tyD d
theorem Dat.ty {G H : Hp} (x : Ex G H) : ∀ {d : D} {v : V} {t : String}, Dat K G v d → tyD d = some t → TyX K H v (.type t)
  | .non, _, _, h, e => by cases h; cases e; exact .base .non
  | .bl b, _, _, h, e => by cases h; cases e; exact .base (.bl b)
  | .int b, _, _, h, e => by cases h; cases e; exact .base (.int b)
  | .str b, _, _, h, e => by cases h; cases e; exact .base (.str b)
  | .tup b, _, _, h, e => by
    cases e
    cases h with | tup a b =>
    rcases ex_t x a with a | ⟨o, its, n, h1, h2, _⟩
    · rcases a with a | ⟨o, a⟩
      · exact .base (.tup a)
      · exact .fTuple a
    · exact .kTuple h1 h2
  | .lst b, _, _, h, e => by cases e; cases h with | lst a b => exact .base (.lst (x _ _ a))
  | .dct b, _, _, h, e => by cases e; cases h with | dct a b => exact .base (.dK (x _ _ a))
  | .op v, _, _, h, e => by cases e
  | .rng _ _, _, _, h, e => by cases e
  | .exc _, _, _, h, e => by cases e
  | .set _ _ _, _, _, h, e => by cases e
  | .idn v d, _, _, h, e => by cases h with | idn a => exact Dat.ty x a e
/-- isinstance(x, T) -/
theorem cb_isi {t T : String} {b : Bool} (e : tyD d = some t) (h : kitB t T = some b) : CbD K (rIsi K) [d, .op (.ty T)] (.bl b) := fun G H vs x dl Q q => by
  cases dl with | cons a t => cases t with | cons c t =>
  cases t
  cases c
  exact ⟨_, _, _, _, b, rfl, .ty T, a.ty x e, kit_ty h, q _ G H (.refl x) (.bl b)⟩
/-- isinstance(x, (S, T)) -/
theorem ev_isi2 {t S T : String} {b c : Bool} (hx : EV K β te env d) (e : tyD d = some t) (h : kitB t S = some b) (h' : kitB t T = some c) :
    EV K β (tCB (rIsiT K) (tCons te (tCons (tTup (tCons (tC (.ty S)) (tCons (tC (.ty T)) tNil))) tNil))) env (.bl (b || c)) := fun σ G H g Q q =>
  hx σ G H g _ fun v1 G1 H1 t1 d1 => ⟨by show 2 ≤ sizeLine; decide, fun p hp => by
    have t2 := t1.trans (Stp.new (o := .tup [V.ty S, V.ty T]) t1.gh hp)
    refine ⟨_, _, _, _, _, b || c, rfl, upd_same, .cons (.ty S) (.cons (.ty T) .nil), d1.ty (t1.gh.trans (.new hp)) e, ?_, q _ _ _ t2 (.bl _)⟩
    refine kitAny_cons (kit_ty h) (fun hb => ?_) (fun hb => by rw [hb]; rfl)
    exact kitAny_cons (kit_ty h') (fun hc => by rw [hb, hc]; exact kitAny_nil) (fun hc => by rw [hc, Bool.or_true])⟩

/-! ### what is walked -/
variable (K β) in
/-- the iterator gives the values vs, one after another, and makes nothing -/
def ItV (J : It) (G : Hp) (vs : List V) : Prop := ∀ i H, Ex G H → (i = vs.length → J.stop i H) ∧ ∀ x, vs[i]? = some x → J.go i H ∧ ∀ y H3, J.yld i H y H3 → y = x ∧ H3 = H
variable (K β) in
def EVI (wi : TI) (env : Env') (ds : List D) : Prop := ∀ σ G H, Good K β σ env G H → ∀ R : It → Hp → Prop, (∀ J vs G' H', Stp G H G' H' → DatL K G' vs ds → ItV J G' vs → R J H') → wi σ H R
theorem itv_list {a : Addr} {vs : List V} {G : Hp} (h : G a = some (.lst vs)) : ItV (Itl K a) G vs := fun i H e =>
  ⟨fun hi => ⟨vs, .of (e _ _ h), by omega⟩, fun x hx => ⟨⟨vs, x, .of (e _ _ h), hx⟩, fun y H3 hy => by
    obtain ⟨e3, f⟩ := hy
    exact ⟨Option.some.inj ((f vs (.of (e _ _ h))).symm.trans hx), e3⟩⟩⟩
theorem itv_tup {a : Addr} {vs : List V} {G : Hp} (h : SqT K G a vs) : ItV (Itt K a) G vs := fun i H e =>
  ⟨fun hi => ⟨vs, ex_t e h, by omega⟩, fun x hx => ⟨⟨vs, x, ex_t e h, hx⟩, fun y H3 hy => by
    obtain ⟨e3, f⟩ := hy
    exact ⟨Option.some.inj ((f vs (ex_t e h)).symm.trans hx), e3⟩⟩⟩
theorem itv_rng {lo : Int} {n : Nat} {G : Hp} : ItV (Itr lo n) G ((List.range n).map fun i => V.int (lo + (i : Nat))) := fun i H e =>
  ⟨fun hi => by
    rw [List.length_map, List.length_range] at hi
    exact Nat.le_of_eq hi.symm, fun x hx => by
    rw [List.getElem?_map] at hx
    by_cases hi : i < n
    · rw [List.getElem?_range hi] at hx
      refine ⟨hi, fun y H3 hy => ?_⟩
      obtain ⟨e3, f⟩ := hy
      refine ⟨?_, ?_⟩
      · first | exact f.trans (Option.some.inj hx) | exact e3.trans (Option.some.inj hx)
      · first | exact e3 | exact f
    · rw [List.getElem?_eq_none (by rw [List.length_range]; omega)] at hx
      cases hx⟩
theorem ei_list {tl : TE} {ds : List D} (h : EV K β tl env (.lst ds)) : EVI K β (iList K tl) env ds := fun σ G H g R q =>
  h σ G H g _ fun v G1 H1 t1 d1 => by
    obtain ⟨a, xs, rfl, ht, hd⟩ := d1.lstV
    exact ⟨a, rfl, ⟨xs, .of (t1.gh _ _ ht)⟩, q _ xs G1 H1 t1 hd (itv_list ht)⟩
theorem ei_tup {tl : TE} {ds : List D} (h : EV K β tl env (.tup ds)) : EVI K β (iTup K tl) env ds := fun σ G H g R q =>
  h σ G H g _ fun v G1 H1 t1 d1 => by
    obtain ⟨a, xs, rfl, ht, hd⟩ := d1.tupV
    exact ⟨a, rfl, ⟨xs, ex_t t1.gh ht⟩, q _ xs G1 H1 t1 hd (itv_tup ht)⟩
theorem ei_rng1 {ta : TA} {n : Int} (h : EVA K β ta env [.int n]) (h0 : -(2 ^ 62) ≤ n) (h1 : n < 2 ^ 62) : EVI K β (iRng1 ta) env (rgD 0 n.toNat) := fun σ G H g R q =>
  h σ G H g _ fun vs G1 H1 t1 d1 => by
    cases d1 with | cons a t => cases t; cases a; exact ⟨n, rfl, h0, h1, q _ _ G1 H1 t1 (DatL.rg 0 _) itv_rng⟩
theorem ei_rng2 {ta : TA} {m n : Int} (h : EVA K β ta env [.int m, .int n]) (h0 : -(2 ^ 62) ≤ m ∧ m < 2 ^ 62 ∧ -(2 ^ 62) ≤ n ∧ n < 2 ^ 62) : EVI K β (iRng2 ta) env (rgD m (n - m).toNat) := fun σ G H g R q =>
  h σ G H g _ fun vs G1 H1 t1 d1 => by
    cases d1 with | cons a t => cases t with | cons b t => cases t; cases a; cases b; exact ⟨m, n, rfl, h0, q _ _ G1 H1 t1 (DatL.rg m _) itv_rng⟩
variable (K β) in
/-- a target -/
def EG (g : TG) (env : Env') (v : V) (d : D) (P : Env' → Prop) : Prop := ∀ σ G H, Good K β σ env G H → Dat K G v d → ∀ Q : Sg → Hp → Prop, (∀ σ' env', Good K β σ' env' G H → P env' → Q σ' H) → g v σ H Q
theorem eg_name {i : Nat} : EG K β (gName i) env v d (fun e => e = env.set i (.val v d)) := fun σ G H g dv Q q => q _ _ (g.set i dv) rfl
theorem eg_tup {gs : TGs} {n : Nat} {ds : List D} {P : Env' → Prop} (hn : ds.length = n) (h : ∀ vs σ G H, Good K β σ env G H → DatL K G vs ds → ∀ Q : Sg → Hp → Prop, (∀ σ' env', Good K β σ' env' G H → P env' → Q σ' H) → gs vs σ H Q) : EG K β (gTup K n gs) env v (.tup ds) P := fun σ G H g dv Q q => by
  obtain ⟨a, xs, rfl, ht, hd⟩ := dv.tupV
  exact ⟨a, xs, rfl, ex_t g.gh ht, by rw [hd.length, hn], h xs σ G H g hd Q q⟩
theorem eg_two {i j : Nat} {a b : D} : EG K β (gTup K 2 (gCons (gName i) (gCons (gName j) gNil))) env v (.tup [a, b]) (fun e => ∃ v1 v2, e = (env.set i (.val v1 a)).set j (.val v2 b)) :=
  eg_tup rfl fun vs σ G H g dl Q q => by
    cases dl with | cons d1 t => cases t with | cons d2 t =>
    cases t
    exact ⟨_, _, rfl, _, _, rfl, rfl, q _ _ ((g.set i d1).set j d2) ⟨_, _, rfl⟩⟩
/-! ### comprehensions -/
theorem Stp.side {G H G' H' : Hp} {p : Addr} {o : HO} (t : Stp G H G' H') (h1 : H p = none) (h2 : G' p = none) : Stp G H G' (upd H' p o) :=
  ⟨t.gg, fun a u e => by rw [upd_ne (ne_of_none e h1)]; exact t.hh a u e, fun a u e => by rw [upd_ne (ne_of_none e h2)]; exact t.gh a u e, t.ow⟩
theorem Stp.take {G H G' H' : Hp} {p : Addr} {o : HO} (t : Stp G H G' H') (h1 : H p = none) (h2 : G' p = none) (h3 : H' p = some o) : Stp G H (upd G' p o) H' :=
  ⟨t.gg.trans (.new h2), t.hh, fun a u e => by
    by_cases ha : a = p
    · subst ha; rw [upd_same] at e; rw [h3]; exact e
    · rw [upd_ne ha] at e; exact t.gh a u e, fun a h4 h5 => by
    have : a ≠ p := fun e => h5 (e ▸ h1)
    rw [upd_ne this]; exact t.ow a h4 h5⟩
theorem wipe_set (σ : Sg) : ∀ (vs : List Nat) (j : Nat) (x : Option V), j ∈ vs → L2.wipe ((L2.wipe σ vs).set j x) vs = L2.wipe σ vs := by
  intro vs j x hj
  refine List.ext_getElem? fun i => ?_
  have key : ∀ (ws : List Nat) (τ : Sg) (i : Nat), i ∈ ws → i < τ.length → (L2.wipe τ ws)[i]? = some none := by
    intro ws
    induction ws with
    | nil => intro τ i h; cases h
    | cons w ws ih =>
      intro τ i h hl
      unfold L2.wipe
      by_cases e : w = i
      · subst e
        rw [List.getElem?_set_self (by rw [L2.wipe_length]; exact hl)]
      · rw [List.getElem?_set_ne e]
        exact ih τ i (by
          rcases List.mem_cons.mp h with z | z
          · exact absurd z.symm e
          · exact z) hl
  by_cases hi : i ∈ vs
  · by_cases hl : i < σ.length
    · rw [key vs _ i hi (by rw [List.length_set, L2.wipe_length]; exact hl), key vs _ i hi hl]
    · rw [List.getElem?_eq_none (by rw [L2.wipe_length, List.length_set, L2.wipe_length]; omega), List.getElem?_eq_none (by rw [L2.wipe_length]; omega)]
  · rw [L2.wipe_out hi, List.getElem?_set_ne (fun e => hi (by rw [← e]; exact hj))]
/-- [e for j in .. if ..]: f says which turns give, F what -/
def keep (f : Nat → Bool) (F : Nat → D) (n : Nat) : List D := ((List.range n).filter f).map F
theorem keep_yes {f : Nat → Bool} {F : Nat → D} {n : Nat} (h : f n = true) : keep f F (n + 1) = keep f F n ++ [F n] := by
  unfold keep
  rw [List.range_succ, List.filter_append, List.map_append, List.filter_cons, if_pos h] <;> rfl
theorem keep_no {f : Nat → Bool} {F : Nat → D} {n : Nat} (h : f n = false) : keep f F (n + 1) = keep f F n := by
  unfold keep
  rw [List.range_succ, List.filter_append, List.map_append, List.filter_cons, if_neg (by rw [h]; decide)]
  exact List.append_nil _
theorem keep_len (f : Nat → Bool) (F : Nat → D) (n : Nat) : (keep f F n).length ≤ n := by
  unfold keep
  rw [List.length_map]
  have h := List.length_filter_le f (List.range n)
  rw [List.length_range] at h
  exact h
theorem keep_all {F : Nat → D} {n : Nat} : keep (fun _ => true) F n = (List.range n).map F := by
  unfold keep
  rw [List.filter_eq_self.mpr (fun _ _ => rfl)]
theorem ev_lc {wi : TI} {g : TG} {vs : List Nat} {ds : List D} {f : Nat → Bool} {F : Nat → D} (hI : EVI K β wi env ds) (hn : ds.length < sizeLine)
    (hg : ∀ i v d, ds[i]? = some d → ∃ P, EG K β g (wipeE env vs) v d P ∧ (∀ σ' env' G H, Good K β σ' env' G H → P env' → True) ∧
      ∀ env', P env' → EVT K β tt env' (f i) ∧ (f i = true → EV K β te env' (F i)))
    (hw : ∀ x σ H (Q : Sg → Hp → Prop), g x (L2.wipe σ vs) H Q → g x (L2.wipe σ vs) H fun σ2 H2 => L2.wipe σ2 vs = L2.wipe σ vs ∧ Q σ2 H2) :
    EV K β (tLc wi g tt te vs) env (.lst (keep f F ds.length)) := fun σ G H g0 Q q =>
  hI σ G H g0 _ fun J us G1 H1 t1 hd hJ Dl hD => by
    refine ⟨fun i m H' => m = us.length - i ∧ i ≤ us.length ∧ ∃ G' acc, Stp G1 H1 G' H' ∧ G' Dl = none ∧ H' Dl = some (.lst acc) ∧ DatL K G' acc (keep f F i),
      ⟨us.length, by simp, Nat.zero_le _, G1, [], (Stp.refl t1.gh).side hD (t1.gh.back hD), t1.gh.back hD, upd_same, .nil⟩, ?_⟩
    rintro i m H' ⟨rfl, hi, G', acc, t2, hG, hacc, hda⟩
    by_cases hlt : i < us.length
    · have hx : us[i]? = some us[i] := List.getElem?_eq_getElem hlt
      obtain ⟨d, hdi, dx⟩ := hd.getV hx
      obtain ⟨P, hgP, _, hP⟩ := hg i us[i] d hdi
      obtain ⟨hgo, hyl⟩ := (hJ i H' (t2.gg.trans t2.gh)).2 _ hx
      refine .inr ⟨hgo, fun H'' => ∃ G' acc, Stp G1 H1 G' H'' ∧ G' Dl = none ∧ H'' Dl = some (.lst acc) ∧ DatL K G' acc (keep f F (i + 1)), fun H'' z => ⟨us.length - (i + 1), by omega, rfl, hlt, z⟩, fun x H'' hy => ?_⟩
      obtain ⟨rfl, rfl⟩ := hyl _ _ hy
      have gB := ((g0.up t1).up t2).wipe vs
      refine hw _ _ _ _ (hgP _ _ _ gB (dx.up t2.gg) _ fun σ2 env2 g2 hp2 => ?_)
      obtain ⟨hT, hE⟩ := hP env2 hp2
      refine hT _ _ _ g2 _ fun G3 H3 t3 => ?_
      have a3 : G3 Dl = none := t3.ow _ hG (by rw [hacc]; exact (fun e => nomatch e))
      cases hf : f i with
      | false =>
        rw [if_neg Bool.false_ne_true]
        exact ⟨G3, acc, t2.trans t3, a3, t3.hh _ _ hacc, by rw [keep_no hf]; exact hda.up t3.gg⟩
      | true =>
        rw [if_pos rfl]
        refine hE hf _ _ _ (g2.up t3) _ fun y G4 H4 t4 dy => ?_
        have a4 : G4 Dl = none := t4.ow _ a3 (by rw [t3.hh _ _ hacc]; exact (fun e => nomatch e))
        refine ⟨acc, t4.hh _ _ (t3.hh _ _ hacc), ?_, G4, acc ++ [y], ((t2.trans t3).trans t4).side hD a4, a4, upd_same, ?_⟩
        · rw [hda.length]
          have := keep_len f F i
          have := hd.length
          omega
        · rw [keep_yes hf]
          exact (hda.up (t3.gg.trans t4.gg)).append (.one dy)
    · have hil : i = us.length := by omega
      refine .inl ⟨(hJ i H' (t2.gg.trans t2.gh)).1 hil, ?_⟩
      refine q _ (upd G' Dl (.lst acc)) H' (t1.trans (t2.take hD hG hacc)) (.lst upd_same (.up ?_ (.new hG)))
      rw [hil, hd.length] at hda
      exact hda
/-- the usual form: the target a name -/
theorem ev_lcN {wi : TI} {j : Nat} {vs : List Nat} {ds : List D} {f : Nat → Bool} {F : Nat → D} (hI : EVI K β wi env ds) (hn : ds.length < sizeLine) (hj : j ∈ vs)
    (hs : ∀ i v d, ds[i]? = some d → EVT K β tt ((wipeE env vs).set j (.val v d)) (f i) ∧ (f i = true → EV K β te ((wipeE env vs).set j (.val v d)) (F i))) :
    EV K β (tLc wi (gName j) tt te vs) env (.lst (keep f F ds.length)) :=
  ev_lc hI hn (fun i v d hd => ⟨_, eg_name, fun _ _ _ _ _ _ => trivial, fun env' e => by subst e; exact hs i v d hd⟩)
    fun x σ H Q h => ⟨wipe_set σ vs j (some x) hj, h⟩
theorem et_yes : EVT K β tYes env true := fun σ G H g Q q => q G H (.refl g.gh)
/-- without a test -/
theorem ev_lcA {wi : TI} {j : Nat} {vs : List Nat} {ds : List D} {F : Nat → D} (hI : EVI K β wi env ds) (hn : ds.length < sizeLine) (hj : j ∈ vs)
    (hs : ∀ i v d, ds[i]? = some d → EV K β te ((wipeE env vs).set j (.val v d)) (F i)) :
    EV K β (tLc wi (gName j) tYes te vs) env (.lst ((List.range ds.length).map F)) := by
  rw [← keep_all]
  exact ev_lcN hI hn hj fun i v d hd => ⟨et_yes, fun _ => hs i v d hd⟩
end
end DL

set_option Elab.async false
set_option linter.all false
set_option maxRecDepth 100000
set_option maxHeartbeats 2000000
namespace DL
open PySem PySem.Spec PyProof.Rows L2
/-! ### rules whose reading names K: K given ahead, for what stands in a comprehension -/
section
variable {X : Cx} (K : PySem.W.Frag)
theorem call_isiK (h : X.K = K := by rfl) : CallR X (.builtin "isinstance") (rIsi K) := h ▸ call_isi
theorem call_isiTK (h : X.K = K := by rfl) : CallR X (.builtin "isinstance") (rIsiT K) := h ▸ call_isiT
theorem call_lenK (h : X.K = K := by rfl) : CallR X (.builtin "len") (rLen K) := by subst h; exact call_len
theorem ix_seqK (h : X.K = K := by rfl) : IxR X (rIx K) := h ▸ ix_seq
theorem ix_listK (h : X.K = K := by rfl) : IxR X (rIxL K) := h ▸ ix_list
theorem ix_tupK (h : X.K = K := by rfl) : IxR X (rIxT K) := h ▸ ix_tup
theorem op_catTK (h : X.K = K := by rfl) : OpR X (binaryOp .Add) (rCatT K) := h ▸ op_catT
theorem op_inK (h : X.K = K := by rfl) : OpR X (compareOp .In) (rIn K false) := h ▸ op_in_seq
theorem op_notInK (h : X.K = K := by rfl) : OpR X (compareOp .NotIn) (rIn K true) := h ▸ op_notIn_seq
theorem sl_listK (h : X.K = K := by rfl) : SlR X (rSlL K) := h ▸ sl_list
theorem pi_listK {tg l : Expr} {tl : TE} (hl : PE X l tl) (h : X.K = K := by rfl) : PI X tg l (iList K tl) := h ▸ pi_list hl
theorem pi_tupK {tg l : Expr} {tl : TE} (hl : PE X l tl) (h : X.K = K := by rfl) : PI X tg l (iTup K tl) := h ▸ pi_tup hl
theorem pe_tupleOfK {a : Expr} {ta : TE} {p pos : Pos} (hg : Gl X "tuple") (hm : X.mg "tuple" = none) (ha : PE X a ta) (na : starEach [a] X.env = (false, eval a X.env) :: starEach [] X.env := by rfl) (h : X.K = K := by rfl) :
    PE X (.Call (.Name "tuple" p) [a] [] pos) (tThen ta (kTup K)) := h ▸ pe_tupleOf hg hm ha na
def rListOf (K : PySem.W.Frag) : List V → Hp → VK → Prop := fun xs H Q => ∃ p ys, xs = [.ref p] ∧ (SqL K H p ys ∨ SqT K H p ys) ∧ ∀ l, H l = none → Q (.ref l) (upd H l (.lst ys))
theorem call_list_ofK (h : X.K = K := by rfl) : CallR X (.type "list") (rListOf K) := by subst h; exact call_list_of
theorem pg_tupK {es : List Expr} {k : Nat} {t : TGs} {n : Nat} {pos : Pos} (hc : X.calm = true) (hp : PGs X es t)
    (hn : (assignEach es X.env).length = n := by rfl) (hst : (assignEach es X.env).findIdx? (·.1) = none := by rfl) (h : X.K = K := by rfl) : PG X (.Tuple es k pos) (gTup K n t) := h ▸ pg_tup hc hp hn hst
theorem pe_bmK {o e : Expr} {es : List Expr} {to : TE} {t : TA} {name : Str} {apos cpos : Pos} {T id : String} {r : V → List V → Hp → VK → Prop} (pa : PlainAttrs T) (slot : Slot T name id) (hty : typeOf (.builtin id) = pure (.type "method_descriptor")) (hm : MtR X id r) (ho : PE X o to) (ha : PA X (e :: es) t)
    (hbase : attributeBase o name X.env (eval o X.env) = eval o X.env := by rfl)
    (hfew : ((backTo cpos (starEach (e :: es) X.env)).all (fun x => !x.1) && (backToKw cpos (keywordEach [] X.env)).all (fun x => x.1.isSome)
      && decide ((e :: es).length + ([] : List Keyword).length + (if ([] : List Keyword).isEmpty then 0 else 1) < 30)) = true := by rfl)
    (hline : (apos.endLine == cpos.line) = true := by rfl) (hs : starEach (e :: es) X.env = (false, eval e X.env) :: starEach es X.env := by rfl) (hplain : (backTo cpos (starEach es X.env)).any (·.1) = false := by rfl) (h : X.K = K := by rfl) :
    PE X (.Call (.Attribute o name apos) (e :: es) [] cpos) (tBM K T r to t) := h ▸ pe_bm pa slot hty hm ho ha hbase hfew hline hs hplain
end
end DL

set_option Elab.async false
set_option linter.all false
set_option maxRecDepth 100000
set_option maxHeartbeats 2000000
namespace DL
open PySem PySem.Spec PyProof.Rows L2

/-! ### statements -/
/-- what is wanted behind a statement: of the slots where it goes on, of what it hands back, of what it raises (class, the error's field and its value) -/
structure Post where
  nx : Env' → Prop := fun _ => False
  rt : V → D → Env' → Prop := fun _ _ _ => False
  bk : Env' → Prop := fun _ => False
  ct : Env' → Prop := fun _ => False
  ex : Value → Str → V → Env' → Prop := fun _ _ _ _ => False
section
variable (K : PySem.W.Frag) (β : Bas)
/-- the wish W takes what P says may be raised -/
def ExOk (W : WX) (P : Post) (G : Hp) : Prop := ∀ σ' env' G' H' cls f v dx, Good K β σ' env' G' H' → Ex G G' → H' dx = some (.xd [(f, v)]) → G' dx = none → P.ex cls f v env' → W cls (some dx) σ' H'
structure Cont (Dn : Ends) (P : Post) (G : Hp) : Prop where
  nx : ∀ σ' env' G' H', Good K β σ' env' G' H' → Ex G G' → P.nx env' → Dn.nx σ' H'
  rt : ∀ σ' env' G' H' v d, Good K β σ' env' G' H' → Ex G G' → Dat K G' v d → P.rt v d env' → Dn.rt v H'
  bk : ∀ σ' env' G' H', Good K β σ' env' G' H' → Ex G G' → P.bk env' → Dn.bk σ' H'
  ct : ∀ σ' env' G' H', Good K β σ' env' G' H' → Ex G G' → P.ct env' → Dn.ct σ' H'
def EX (W : WX) (ts : TS) (env : Env') (P : Post) : Prop := ∀ σ G H, Good K β σ env G H → ∀ Dn : Ends, Cont K β Dn P G → ExOk K β W P G → ts Dn σ H
end
section
variable {K : PySem.W.Frag} {β : Bas} {env : Env'} {ta tb te tc : TE} {tt tu : TT} {x y z d : D} {v w : V} {P : Post} {W : WX} {ts tr : TS}
theorem ExOk.up {G G' : Hp} (h : ExOk K β W P G) (e : Ex G G') : ExOk K β W P G' := fun σ' env' G2 H2 cls f v dx g e2 => h σ' env' G2 H2 cls f v dx g (e.trans e2)
theorem Cont.up {Dn : Ends} {G G' : Hp} (h : Cont K β Dn P G) (e : Ex G G') : Cont K β Dn P G' :=
  ⟨fun σ' env' G2 H2 g e2 => h.nx σ' env' G2 H2 g (e.trans e2), fun σ' env' G2 H2 v d g e2 => h.rt σ' env' G2 H2 v d g (e.trans e2), fun σ' env' G2 H2 g e2 => h.bk σ' env' G2 H2 g (e.trans e2), fun σ' env' G2 H2 g e2 => h.ct σ' env' G2 H2 g (e.trans e2)⟩
/-- one statement, then the rest -/
theorem ex_seq {N : Env' → Prop} (h1 : EX K β W ts env { P with nx := N }) (h2 : ∀ env', N env' → EX K β W tr env' P) : EX K β W (tSeq ts tr) env P := fun σ G H g Dn c x =>
  h1 σ G H g _ ⟨fun σ' env' G' H' g' e n => h2 env' n σ' G' H' g' Dn (c.up e) (x.up e), c.rt, c.bk, c.ct⟩ x
/-- .. one that leaves one state of the slots -/
theorem ex_cons {env1 : Env'} (h1 : EX K β W ts env { P with nx := fun e => e = env1 }) (h2 : EX K β W tr env1 P) : EX K β W (tSeq ts tr) env P := ex_seq h1 fun env' e => e ▸ h2
theorem ex_next (h : P.nx env) : EX K β W tNext env P := fun σ G H g Dn c x => c.nx σ env G H g (.refl _) h
theorem ex_asg {i : Nat} (he : EV K β te env d) (h : ∀ v, P.nx (env.set i (.val v d))) : EX K β W (tAsg te (gName i)) env P := fun σ G H g Dn c x =>
  he σ G H g _ fun v G1 H1 t1 d1 => c.nx _ _ G1 H1 ((g.up t1).set i d1) t1.gg (h v)
theorem ex_asgV {i : Nat} (he : EVv K β te env v d) (h : P.nx (env.set i (.val v d))) : EX K β W (tAsg te (gName i)) env P := fun σ G H g Dn c x =>
  he σ G H g _ fun G1 H1 t1 d1 => c.nx _ _ G1 H1 ((g.up t1).set i d1) t1.gg h
/-- x = e, then the rest: a fresh value -/
theorem ex_let {i : Nat} (he : EV K β te env d) (h : ∀ v, EX K β W tr (env.set i (.val v d)) P) : EX K β W (tSeq (tAsg te (gName i)) tr) env P :=
  ex_seq (N := fun e => ∃ v, e = env.set i (.val v d)) (ex_asg he fun v => ⟨v, rfl⟩) fun env' ⟨v, e⟩ => e ▸ h v
theorem ex_ret (he : EV K β te env d) (h : ∀ v, P.rt v d env) : EX K β W (tRet te) env P := fun σ G H g Dn c x =>
  he σ G H g _ fun v G1 H1 t1 d1 => c.rt _ _ G1 H1 v d (g.up t1) t1.gg d1 (h v)
theorem ex_retV (he : EVv K β te env v d) (h : P.rt v d env) : EX K β W (tRet te) env P := fun σ G H g Dn c x =>
  he σ G H g _ fun G1 H1 t1 d1 => c.rt _ _ G1 H1 v d (g.up t1) t1.gg d1 h
theorem ex_drop (he : EV K β te env d) (h : P.nx env) : EX K β W (tDrop te) env P := fun σ G H g Dn c x =>
  he σ G H g _ fun v G1 H1 t1 d1 => c.nx _ _ G1 H1 (g.up t1) t1.gg h
theorem ex_if {b : Bool} (ht : EVT K β tt env b) (h1 : b = true → EX K β W ts env P) (h2 : b = false → EX K β W tr env P) : EX K β W (tIfS tt ts tr) env P := fun σ G H g Dn c x =>
  ht σ G H g _ fun G1 H1 t1 => by
    cases b with
    | true => rw [if_pos rfl]; exact h1 rfl σ G1 H1 (g.up t1) Dn (c.up t1.gg) (x.up t1.gg)
    | false => rw [if_neg Bool.false_ne_true]; exact h2 rfl σ G1 H1 (g.up t1) Dn (c.up t1.gg) (x.up t1.gg)
/-- if without else, then the rest -/
theorem ex_when {b : Bool} (ht : EVT K β tt env b) (h1 : b = true → EX K β W ts env { P with nx := fun _ => False }) (h2 : b = false → EX K β W tr env P) : EX K β W (tSeq (tIfS tt ts tNext) tr) env P := by
  cases b with
  | true => exact ex_seq (N := fun _ => False) (ex_if ht h1 fun h => nomatch h) fun env' n => False.elim n
  | false => exact ex_seq (N := fun e => e = env) (ex_if ht (fun h => nomatch h) fun _ => ex_next rfl) fun env' n => n ▸ h2 rfl
theorem ex_break (h : P.bk env) : EX K β W tBreak env P := fun σ G H g Dn c x => c.bk σ env G H g (.refl _) h
theorem ex_cont (h : P.ct env) : EX K β W tCont env P := fun σ G H g Dn c x => c.ct σ env G H g (.refl _) h
/-- a weaker wish -/
theorem EX.imp {Q : Post} (h : EX K β W ts env Q) (h1 : ∀ e, Q.nx e → P.nx e) (h2 : ∀ v d e, Q.rt v d e → P.rt v d e) (h3 : ∀ e, Q.bk e → P.bk e) (h4 : ∀ e, Q.ct e → P.ct e) (h5 : ∀ c f v e, Q.ex c f v e → P.ex c f v e) : EX K β W ts env P := fun σ G H g Dn c x =>
  h σ G H g Dn ⟨fun σ' env' G' H' g' e n => c.nx σ' env' G' H' g' e (h1 _ n), fun σ' env' G' H' v d g' e dv n => c.rt σ' env' G' H' v d g' e dv (h2 _ _ _ n), fun σ' env' G' H' g' e n => c.bk σ' env' G' H' g' e (h3 _ n), fun σ' env' G' H' g' e n => c.ct σ' env' G' H' g' e (h4 _ n)⟩
    fun σ' env' G' H' cls f v dx g' e q1 q2 n => x σ' env' G' H' cls f v dx g' e q1 q2 (h5 _ _ _ _ n)
/-! ### loops -/
theorem ex_for {wi : TI} {g : TG} {ds : List D} (I : Nat → Env' → Prop) (hI : EVI K β wi env ds) (h0 : I 0 env)
    (hs : ∀ i env' v d, ds[i]? = some d → I i env' → ∃ Pg, EG K β g env' v d Pg ∧ ∀ env2, Pg env2 → EX K β W ts env2 { P with nx := I (i + 1), ct := I (i + 1), bk := P.nx })
    (hd : ∀ env', I ds.length env' → P.nx env') : EX K β W (tFor wi g ts) env P := fun σ G H g0 Dn c x =>
  hI σ G H g0 _ fun J us G1 H1 t1 hdl hJ => by
    refine ⟨fun i m σ' H' => m = us.length - i ∧ i ≤ us.length ∧ ∃ env' G', Good K β σ' env' G' H' ∧ Ex G1 G' ∧ I i env', ⟨us.length, by simp, Nat.zero_le _, env, G1, g0.up t1, .refl _, h0⟩, ?_⟩
    rintro i m σ' H' ⟨rfl, hi, env', G', g', e', hIi⟩
    by_cases hlt : i < us.length
    · have hx : us[i]? = some us[i] := List.getElem?_eq_getElem hlt
      obtain ⟨d, hdi, dx⟩ := hdl.getV hx
      obtain ⟨Pg, hg, hb⟩ := hs i env' us[i] d hdi hIi
      obtain ⟨hgo, hyl⟩ := (hJ i H' (e'.trans g'.gh)).2 _ hx
      refine .inr ⟨hgo, fun σ2 H2 => ∃ env2 G2, Good K β σ2 env2 G2 H2 ∧ Ex G1 G2 ∧ I (i + 1) env2, fun σ2 H2 z => ⟨us.length - (i + 1), by omega, rfl, hlt, z⟩, fun x0 H'' hy => ?_⟩
      obtain ⟨rfl, rfl⟩ := hyl _ _ hy
      refine hg _ _ _ g' (dx.up e') _ fun σ2 env2 g2 hp => ?_
      refine hb env2 hp σ2 G' _ g2 _ ⟨fun σ3 env3 G3 H3 g3 e3 n => ⟨env3, G3, g3, e'.trans e3, n⟩, fun σ3 env3 G3 H3 v d g3 e3 => c.rt σ3 env3 G3 H3 v d g3 (t1.gg.trans (e'.trans e3)), fun σ3 env3 G3 H3 g3 e3 => c.nx σ3 env3 G3 H3 g3 (t1.gg.trans (e'.trans e3)),
        fun σ3 env3 G3 H3 g3 e3 n => ⟨env3, G3, g3, e'.trans e3, n⟩⟩ (x.up (t1.gg.trans e'))
    · have hil : i = us.length := by omega
      refine .inl ⟨(hJ i H' (e'.trans g'.gh)).1 hil, ?_⟩
      refine c.nx σ' env' G' H' g' (t1.gg.trans e') (hd env' ?_)
      rw [hil, hdl.length] at hIi
      exact hIi
/-- the target a name -/
theorem ex_forN {wi : TI} {j : Nat} {ds : List D} (I : Nat → Env' → Prop) (hI : EVI K β wi env ds) (h0 : I 0 env)
    (hs : ∀ i env' v d, ds[i]? = some d → I i env' → EX K β W ts (env'.set j (.val v d)) { P with nx := I (i + 1), ct := I (i + 1), bk := P.nx })
    (hd : ∀ env', I ds.length env' → P.nx env') : EX K β W (tFor wi (gName j) ts) env P :=
  ex_for I hI h0 (fun i env' v d hd' hi => ⟨_, eg_name, fun env2 e => by subst e; exact hs i env' v d hd' hi⟩) hd
theorem ex_while {tt : Env' → Bool} {ttr : TT} (I : Env' → Prop) (μ : Env' → Nat) (h0 : I env) (ht : ∀ env', I env' → EVT K β ttr env' (tt env'))
    (hs : ∀ env', I env' → tt env' = true → EX K β W ts env' { P with nx := fun e => I e ∧ μ e < μ env', ct := fun e => I e ∧ μ e < μ env', bk := P.nx })
    (hd : ∀ env', I env' → tt env' = false → P.nx env') : EX K β W (tWhile ttr ts) env P := fun σ G H g0 Dn c x => by
  refine ⟨fun m σ' H' => ∃ env' G', m = μ env' ∧ Good K β σ' env' G' H' ∧ Ex G G' ∧ I env', ⟨_, env, G, rfl, g0, .refl _, h0⟩, ?_⟩
  rintro m σ' H' ⟨env', G', rfl, g', e', hi⟩
  refine ht env' hi σ' G' H' g' _ fun G1 H1 t1 => ?_
  cases hb : tt env' with
  | true =>
    rw [if_pos rfl]
    refine ⟨fun σ2 H2 => ∃ env2 G2, Good K β σ2 env2 G2 H2 ∧ Ex G G2 ∧ I env2 ∧ μ env2 < μ env', fun σ2 H2 ⟨env2, G2, g2, e2, i2, l⟩ => ⟨_, l, env2, G2, rfl, g2, e2, i2⟩, ?_⟩
    exact hs env' hi hb σ' G1 H1 (g'.up t1) _ ⟨fun σ3 env3 G3 H3 g3 e3 n => ⟨env3, G3, g3, (e'.trans t1.gg).trans e3, n.1, n.2⟩, fun σ3 env3 G3 H3 v d g3 e3 => c.rt σ3 env3 G3 H3 v d g3 ((e'.trans t1.gg).trans e3),
      fun σ3 env3 G3 H3 g3 e3 => c.nx σ3 env3 G3 H3 g3 ((e'.trans t1.gg).trans e3), fun σ3 env3 G3 H3 g3 e3 n => ⟨env3, G3, g3, (e'.trans t1.gg).trans e3, n.1, n.2⟩⟩ (x.up (e'.trans t1.gg))
  | false =>
    rw [if_neg Bool.false_ne_true]
    exact c.nx σ' env' G1 H1 (g'.up t1) (e'.trans t1.gg) (hd env' hi hb)
/-! ### lists of one's own -/
/-- x = [] (or any display whose items are data) that is one's own from here on -/
theorem ex_new {i : Nat} {ta : TA} {ds : List D} (he : EVA K β ta env ds) (hl : ds.length ≤ sizeLine) (h : ∀ a, P.nx (env.set i (.own a ds))) : EX K β W (tAsg (tLst ta) (gName i)) env P := fun σ G H g Dn c x =>
  he σ G H g _ fun vs G1 H1 t1 d1 => ⟨by rw [d1.length]; exact hl, fun p hp => c.nx _ _ G1 _ ((g.up t1).newOwn i hp d1) t1.gg (h p)⟩
theorem ex_app {i : Nat} {a : Addr} {ds : List D} (hi : env[i]? = some (.own a ds)) (he : EV K β te env d) (hl : ds.length < sizeLine) (h : P.nx (env.set i (.own a (ds ++ [d])))) :
    EX K β W (tDrop (tBM K "list" rAppend (tVar i) (tCons te tNil))) env P := fun σ G H g Dn c x => by
  obtain ⟨h1, h2, h3, xs, h4, h5⟩ := g.own hi
  refine ⟨.ref a, h1, .inl ⟨rfl, xs, .of h4⟩, he σ G H g _ fun v G1 H1 t1 d1 => ?_⟩
  refine ⟨a, xs, v, rfl, rfl, t1.hh _ _ h4, by rw [h5.length]; exact hl, ?_⟩
  exact c.nx _ _ G1 _ ((g.up t1).write hi ((h5.up t1.gg).append (.one d1))) t1.gg h
/-- return x, x a list of one's own: it is handed over -/
theorem ex_retOwn {i : Nat} {a : Addr} {ds : List D} (hi : env[i]? = some (.own a ds)) (hb : ∀ σ G H, Good K β σ env G H → β.bx ≠ some a) (h : ∀ v, P.rt v (.lst ds) (env.set i .un)) : EX K β W (tRet (tVar i)) env P := fun σ G H g Dn c x => by
  obtain ⟨h1, h2, h3, xs, h4, h5⟩ := g.own hi
  have hb' := hb σ G H g
  have h6 : β.H a = none := h2.resolve_right hb'
  have g1 := g.forget i
  have hna : a ∉ (env.set i .un).filterMap ownA := by
    have nd := g.nd
    clear h hb hb' g1 h1 h2 h3 h4 h5 h6 g c x
    induction env generalizing i with
    | nil => simp at hi
    | cons t env ih =>
      cases i with
      | zero =>
        simp at hi
        subst hi
        exact (List.nodup_cons.mp (show (a :: env.filterMap ownA).Nodup from nd)).1
      | succ i =>
        have hi' : env[i]? = some (.own a ds) := by simpa using hi
        rw [List.set_cons_succ, List.filterMap_cons]
        rw [List.filterMap_cons] at nd
        have hm : a ∈ env.filterMap ownA := List.mem_filterMap.mpr ⟨_, List.mem_of_getElem? hi', rfl⟩
        cases q : ownA t with
        | none => rw [q] at nd; exact ih hi' nd
        | some b =>
          rw [q] at nd
          intro m
          rcases List.mem_cons.mp m with z | z
          · exact (List.nodup_cons.mp nd).1 (z ▸ hm)
          · exact ih hi' (List.nodup_cons.mp nd).2 z
  refine ⟨.ref a, h1, c.rt σ (env.set i .un) (upd G a (.lst xs)) H (.ref a) (.lst ds) ?_ (.new h3) (.lst upd_same (h5.up (.new h3))) (h _)⟩
  have sl : ∀ {σ : Sg} {env : Env'}, SlsOk K β G H σ env → a ∉ env.filterMap ownA → SlsOk K β (upd G a (.lst xs)) H σ env := by
    intro σ env s
    induction s with
    | nil => intro _; exact .nil
    | @cons o s σ env x r ih =>
      intro m
      rw [List.filterMap_cons] at m
      cases s with
      | un => exact .cons trivial (ih m)
      | val v d => exact .cons ⟨x.1, x.2.up (.new h3)⟩ (ih m)
      | own b es =>
        have m' : a ∉ b :: env.filterMap ownA := m
        obtain ⟨y1, y2, y3, ys, y4, y5⟩ := x
        have hne : b ≠ a := fun z => m' (by rw [← z]; exact List.mem_cons_self)
        exact .cons ⟨y1, y2, by rw [upd_ne hne]; exact y3, ys, y4, y5.up (.new h3)⟩ (ih fun z => m' (List.mem_cons_of_mem _ z))
      | odi b es =>
        have m' : a ∉ b :: env.filterMap ownA := m
        obtain ⟨y1, y2, y3, ys, y4, y5⟩ := x
        have hne : b ≠ a := fun z => m' (by rw [← z]; exact List.mem_cons_self)
        exact .cons ⟨y1, y2, by rw [upd_ne hne]; exact y3, ys, y4, y5.up (.new h3)⟩ (ih fun z => m' (List.mem_cons_of_mem _ z))
      | obj b es =>
        have m' : a ∉ b :: env.filterMap ownA := m
        obtain ⟨y1, y2, y3, ys, y4, y5⟩ := x
        have hne : b ≠ a := fun z => m' (by rw [← z]; exact List.mem_cons_self)
        exact .cons ⟨y1, y2, by rw [upd_ne hne]; exact y3, ys, y4, y5.up (.new h3)⟩ (ih fun z => m' (List.mem_cons_of_mem _ z))
  exact ⟨g.gg.trans (.new h3), g.hh, fun b u e => by
    by_cases hb : b = a
    · subst hb; rw [upd_same] at e; rw [h4]; exact e
    · rw [upd_ne hb] at e; exact g.gh b u e, fun b e1 e2 => by
    have hne : b ≠ a := fun z => e2 (z ▸ h6)
    rw [upd_ne hne]; exact g.ow b e1 e2, g.bh, sl g1.sl hna, g1.nd⟩
/-- found[k], len(found) of one's own -/
theorem ev_ixOwn {i : Nat} {a : Addr} {ds : List D} {k : Int} (hi : env[i]? = some (.own a ds)) (hk : EV K β tb env (.int k)) (e : atI ds k = some d) : EV K β (tOp (rIxL K) (tVar i) tb) env d := fun σ G H g Q q => by
  obtain ⟨h1, h2, h3, xs, h4, h5⟩ := g.own hi
  refine ⟨.ref a, h1, hk σ G H g _ fun v G1 H1 t1 d1 => ?_⟩
  obtain ⟨u, hu, du⟩ := atI_of (h5.up t1.gg) e
  exact ⟨a, xs, k, u, rfl, d1.intV, .of (t1.hh _ _ h4), hu, q u G1 H1 t1 du⟩
theorem ev_lenOwn {i : Nat} {a : Addr} {ds : List D} (hi : env[i]? = some (.own a ds)) : EV K β (tCB (rLen K) (tCons (tVar i) tNil)) env (.int ds.length) := fun σ G H g Q q => by
  obtain ⟨h1, h2, h3, xs, h4, h5⟩ := g.own hi
  exact ⟨.ref a, h1, .ref a, xs.length, rfl, .inl ⟨xs, .of h4, rfl⟩, by rw [h5.length]; exact q _ G H (.refl g.gh) (.int _)⟩
/-! ### promises -/
variable (K) in
/-- a def that hands back data by data and does nothing else -/
def spD (R : List D → D → Prop) : Sp := fun vs H Q _ => ∃ G ds d, Ex G H ∧ DatL K G vs ds ∧ R ds d ∧ ∀ v G' H', Stp G H G' H' → Dat K G' v d → Q v H'
theorem ev_call {R : List D → D → Prop} {ta : TA} {ds : List D} {E : XK} (he : EVA K β ta env ds) (h : R ds d) : EV K β (tCall (spD K R) [] E ta) env d := fun σ G H g Q q =>
  he σ G H g _ fun vs G1 H1 t1 d1 => ⟨G1, ds, d, t1.gh, by rw [List.append_nil]; exact d1, h, fun v G2 H2 t2 d2 => q v G2 H2 (t1.trans t2) d2⟩
/-- a def's entry: nothing lent -/
theorem EX.fin {G H : Hp} {Q : VK} {d : D} {t : TS} {σ : Sg} (g : Good K ⟨G, H, none⟩ σ env G H) (q : ∀ v G' H', Stp G H G' H' → Dat K G' v d → Q v H') (h : EX K ⟨G, H, none⟩ W t env { rt := fun _ d' _ => d' = d, nx := fun _ => d = .non }) :
    t { nx := fun _ H' => Q .non H', rt := Q } σ H := by
  have st : ∀ {σ' env' G' H'}, Good K ⟨G, H, none⟩ σ' env' G' H' → Stp G H G' H' := fun g' => ⟨g'.gg, fun a o e => g'.hh a o (fun z => nomatch z) e, g'.gh, g'.ow⟩
  refine h σ G H g _ ⟨fun σ' env' G' H' g' e n => q _ G' H' (st g') (n ▸ .non), fun σ' env' G' H' v d' g' e dv n => q v G' H' (st g') (n ▸ dv), fun _ _ _ _ _ _ n => False.elim n, fun _ _ _ _ _ _ n => False.elim n⟩ fun _ _ _ _ _ _ _ _ _ _ _ _ n => False.elim n
theorem SlsOk.vals {G H : Hp} : ∀ {vs : List V} {ds : List D}, DatL K G vs ds → SlsOk K β G H (vs.map some) (List.zipWith Sl.val vs ds)
  | _, _, .nil => .nil
  | _, _, .cons a t => .cons ⟨rfl, a⟩ (SlsOk.vals t)
theorem SlsOk.uns {G H : Hp} : ∀ m : Nat, SlsOk K β G H (List.replicate m none) (List.replicate m Sl.un)
  | 0 => .nil
  | m + 1 => .cons (s := .un) trivial (SlsOk.uns m)
theorem SlsOk.app {G H : Hp} : ∀ {σ τ : Sg} {env env' : Env'}, SlsOk K β G H σ env → SlsOk K β G H τ env' → SlsOk K β G H (σ ++ τ) (env ++ env')
  | _, _, _, _, .nil, h => h
  | _, _, _, _, .cons a r, h => .cons a (SlsOk.app r h)
theorem own_vals : ∀ (vs : List V) (ds : List D), (List.zipWith Sl.val vs ds).filterMap ownA = []
  | [], _ => by simp
  | _ :: _, [] => rfl
  | v :: vs, d :: ds => by
    rw [List.zipWith_cons_cons, List.filterMap_cons]
    exact own_vals vs ds
theorem own_uns : ∀ m : Nat, (List.replicate m Sl.un).filterMap ownA = []
  | 0 => rfl
  | m + 1 => by
    rw [List.replicate_succ, List.filterMap_cons]
    exact own_uns m
/-- the slots at a def's entry: the parameters' data, then nothing -/
def entry (N : List Str) (vs : List V) (ds : List D) : Env' := List.zipWith Sl.val vs ds ++ List.replicate (N.length - vs.length) Sl.un
theorem good_start {G H : Hp} (e : Ex G H) {vs : List V} {ds : List D} (h : DatL K G vs ds) (N : List Str) : Good K ⟨G, H, none⟩ (start N vs) (entry N vs ds) G H :=
  ⟨.refl _, fun _ _ _ e => e, e, fun _ h _ => h, (fun _ h => by cases h), (SlsOk.vals h).app (.uns _), by
    unfold entry
    rw [List.filterMap_append, own_vals, own_uns]
    exact List.nodup_nil⟩
end
end DL

set_option Elab.async false
set_option linter.all false
set_option maxRecDepth 100000
set_option maxHeartbeats 2000000
namespace DL
open PySem PySem.Spec PyProof.Rows L2

/-! ### an error class of the program: directly below SemigroupError, which is a ValueError -/
/-- what the written part says of SemigroupError -/
structure SemC (K : PySem.W.Frag) (mg : Str → Option Value) (C0 : Addr) : Prop where
  gC : mg "SemigroupError" = some (.ref C0)
  sp : PySem.W.specialIn K (.ref C0) "__getattribute__" = some (some (.builtin "type.__getattribute__"))
  rd : PySem.W.readsIn K C0 (.type "type") = true
  fi : PySem.W.findCls K (.ref C0) (.type "type") "__init__" = some (.val (.builtin "ValueError.__init__"))
  exC : PySem.W.subIn K (.ref C0) (.type "BaseException") = some true
  tyC : PySem.W.typeIn K (.ref C0) = some (.type "type")
  ic : PySem.W.isClsIn K C0 = true
/-- .. of a class x with one field f, set by its __init__ at fI -/
structure ErrC (K : PySem.W.Frag) (mg : Str → Option Value) (x f : Str) (C fI : Addr) : Prop where
  gC : mg x = some (.ref C)
  oe : OexC K C
  iC : PySem.W.findIn K (.ref C) "__init__" = some (some (.ref fI))
  tI : PySem.W.typeIn K (.ref fI) = some (.type "function")
  xf : XfC K C
  nf : PySem.W.findIn K (.ref C) f = some none
  ic : PySem.W.isClsIn K C = true
  ha : PySem.W.findIn K (.ref C) "__class__" = some (some (.builtin "object.__class__"))
  hn : PySem.W.specialIn K (.builtin "object.__class__") "__get__" = some (some (.builtin "getset_descriptor.__get__"))
  ht : PySem.W.takesIn K (.builtin "object.__class__") = some true
  hm : PySem.W.mroIn K C (.type "object") = some true
section
variable {X : Cx} {o e : Expr} {es : List Expr} {to te : TE} {ta : TA} {f : Str} {p p' p1 p2 pos : Pos}
theorem pe_seinit {pl : Sem Bool} {C0 : Addr} (S : SemC X.K X.mg C0) (hg : Gl X "SemigroupError") (ha : PA X (e :: es) ta)
    (hc : eval (.Call (.Attribute (.Name "SemigroupError" p1) "__init__" p2) (e :: es) [] pos) X.env = (do
      let ov ← eval (.Name "SemigroupError" p1) X.env
      standAt p2.atName
      let (f, first) ← holding [ov] (getMethod ov "__init__" pl)
      callWith pos f first (backTo pos (starEach (e :: es) X.env)) (backToKw pos (keywordEach [] X.env))) := by rfl)
    (he : starEach (e :: es) X.env = (false, eval e X.env) :: starEach es X.env := by rfl) (hpl : (backTo pos (starEach es X.env)).any (·.1) = false := by rfl) :
    PE X (.Call (.Attribute (.Name "SemigroupError" p1) "__init__" p2) (e :: es) [] pos) (tVeI X.K ta) := by
  refine ⟨fun pins s σ H Q I h => ?_⟩
  refine PySem.W.methodCall_KW (ld_glob I hg S.gC ?_ (by decide)) hc
  refine PySem.W.method_cls I.kIn S.sp (PySem.W.cls_value I.kIn S.rd S.fi (by decide +kernel) ?_)
  show wpAny _ _ (callWith pos (Value.builtin "ValueError.__init__") [] (backTo pos (starEach (e :: es) X.env)) []) _ _ _
  refine PyProof.Rows.callWith_method1 (thn (ha.run pos pins _ σ H _ (I.tok _) h) fun us s1 ⟨vs, H1, I1, r1, a, C, ws, ev, hl, T, ea, q⟩ => ?_) he hpl
  subst ev
  cases r1 with
  | @cons _ u0 _ ur ra rw' =>
    obtain rfl : u0 = Value.ref a := ra
    have hlen : ur.length ≤ sizeLine := by
      rw [← Paired.length rw', sizeLine_eq]
      omega
    exact oinit_ok T I1 ea hlen fun s' J => ⟨.non, H1, J, rfl, q⟩
end
/-- what __init__ of such a class does -/
def spErr (K : PySem.W.Frag) (f : Str) : Sp := fun vs H Q _ => ∃ (a C : Addr) (v : V), vs = [.ref a, v] ∧ OexC K C ∧ PySem.W.findIn K (.ref C) f = some none ∧ H a = some (exo a C none) ∧
  ∀ dx, H dx = none → dx ≠ a → Q .non (upd (upd H dx (exd dx [(f, v)])) a (exo a C (some dx)))
section
variable {K : PySem.W.Frag} {β : Bas} {env : Env'} {ta tb te tc : TE} {tt tu : TT} {x y z d : D} {v w : V} {P : Post} {W : WX} {ts tr : TS} {C : Addr} {f : Str}
/-- raise X(e) -/
theorem ex_raise {ta : TA} (he : EVAv K β ta env [v] [d]) (T : OexC K C) (nf : PySem.W.findIn K (.ref C) f = some none) (h : P.ex (.ref C) f v env) :
    EX K β W (fun _ σ H => tMkO C (spErr K f) [] ta σ H fun cls dd H' => W cls dd σ H') env P := fun σ G H g Dn c x =>
  he σ G H g _ fun G1 H1 t1 d1 => ⟨by show 1 ≤ 1000; decide, fun a ha => ⟨a, C, v, rfl, T, nf, upd_same, fun dx h1 h2 => by
    rw [upd_ne h2] at h1
    have e2 : ∀ b, b ≠ a → b ≠ dx → (upd (upd (upd H1 a (exo a C none)) dx (exd dx [(f, v)])) a (exo a C (some dx))) b = H1 b := fun b hb hd => by rw [upd_ne hb, upd_ne hd, upd_ne hb]
    refine ⟨rfl, dx, [(f, v)], upd_same, by rw [upd_ne h2, upd_same], h1, ?_⟩
    have g1 : G1 dx = none := t1.gh.back h1
    have eq : upd (del (upd (upd (upd H1 a (exo a C none)) dx (exd dx [(f, v)])) a (exo a C (some dx))) a) dx (.xd [(f, v)]) = upd H1 dx (.xd [(f, v)]) := by
      funext b
      by_cases hd : b = dx
      · subst hd; rw [upd_same, upd_same]
      · rw [upd_ne hd, upd_ne hd]
        by_cases hb : b = a
        · subst hb; rw [del_same, ha]
        · rw [del_ne hb, e2 b hb hd]
    rw [eq]
    exact x σ env G1 _ (.ref C) f v dx ((g.up t1).up ((Stp.refl t1.gh).side h1 g1)) t1.gg upd_same g1 h⟩⟩
/-! ### promises of defs that may raise -/
variable (K) in
/-- data by data, or an error of the class C with the field f that is the value v -/
def spX (R : List D → D → Prop) (E' : List V → List D → Value → Str → V → Prop) : Sp := fun vs H Q E => ∃ G ds, Ex G H ∧ DatL K G vs ds ∧
  ((∃ d, R ds d ∧ ∀ v G' H', Stp G H G' H' → Dat K G' v d → Q v H') ∨ (∃ cls f v, E' vs ds cls f v ∧ ∀ G' H' dx, Stp G H G' H' → H' dx = some (.xd [(f, v)]) → G' dx = none → E cls (some dx) H'))
/-- a call, on the way on which it hands back -/
theorem ev_callX {R : List D → D → Prop} {E' : List V → List D → Value → Str → V → Prop} {ta : TA} {ds : List D} {E : Sg → XK} (he : EVA K β ta env ds) (h : R ds d) : EV K β (tCallS (spX K R E') E ta) env d := fun σ G H g Q q =>
  he σ G H g _ fun vs G1 H1 t1 d1 => ⟨G1, ds, t1.gh, d1, .inl ⟨d, h, fun v G2 H2 t2 d2 => q v G2 H2 (t1.trans t2) d2⟩⟩
/-- .. on the way on which it raises: whatever the statement does with its value is never reached -/
def Raises' (K : PySem.W.Frag) (β : Bas) (W : WX) (te : TE) (env : Env') (cls : Value) (f : Str) (v : V) : Prop :=
  ∀ σ G H, Good K β σ env G H → ∀ Q : VK, (∀ G' H' dx, Stp G H G' H' → H' dx = some (.xd [(f, v)]) → G' dx = none → W cls (some dx) σ H') → te σ H Q
theorem rs_call {R : List D → D → Prop} {E' : List V → List D → Value → Str → V → Prop} {ta : TA} {ds : List D} {vs : List V} {cls : Value} (he : EVAv K β ta env vs ds) (h : E' vs ds cls f v) : Raises' K β W (tCallS (spX K R E') (WE W) ta) env cls f v := fun σ G H g Q q =>
  he σ G H g _ fun G1 H1 t1 d1 => ⟨G1, ds, t1.gh, d1, .inr ⟨cls, f, v, h, fun G2 H2 dx t2 => q G2 H2 dx (t1.trans t2)⟩⟩
theorem ex_rs {cls : Value} (h : Raises' K β W te env cls f v) (hp : P.ex cls f v env) {k : Ends → Sg → VK} : EX K β W (fun D σ H => te σ H (k D σ)) env P := fun σ G H g Dn c x =>
  h σ G H g _ fun G1 H1 dx t1 e1 e2 => x σ env G1 H1 cls f v dx (g.up t1) t1.gg e1 e2 hp
theorem ex_rsDrop {cls : Value} (h : Raises' K β W te env cls f v) (hp : P.ex cls f v env) : EX K β W (tSeq (tDrop te) tr) env P :=
  ex_seq (N := fun _ => False) (show EX K β W (fun D σ H => te σ H (fun _ H' => D.nx σ H')) env { P with nx := fun _ => False } from ex_rs (P := { P with nx := fun _ => False }) (k := fun D σ _ H' => D.nx σ H') h hp) fun _ n => n.elim
theorem ex_rsRet {cls : Value} (h : Raises' K β W te env cls f v) (hp : P.ex cls f v env) : EX K β W (tRet te) env P := ex_rs (k := fun D _ => D.rt) h hp
/-- a def's end, where it may raise -/
theorem EX.finX {G H : Hp} {Q : VK} {E : XK} {t : TS} {σ : Sg} (g : Good K ⟨G, H, none⟩ σ env G H)
    (q : (∃ d, (∀ v G' H', Stp G H G' H' → Dat K G' v d → Q v H') ∧ EX K ⟨G, H, none⟩ (fun cls d _ H => E cls d H) t env { rt := fun _ d' _ => d' = d, nx := fun _ => d = .non }) ∨
      (∃ cls f v, (∀ G' H' dx, Stp G H G' H' → H' dx = some (.xd [(f, v)]) → G' dx = none → E cls (some dx) H') ∧ EX K ⟨G, H, none⟩ (fun cls d _ H => E cls d H) t env { ex := fun c f' v' _ => c = cls ∧ f' = f ∧ v' = v })) :
    t { nx := fun _ H' => Q .non H', rt := Q } σ H := by
  have st : ∀ {σ' env' G' H'}, Good K ⟨G, H, none⟩ σ' env' G' H' → Stp G H G' H' := fun g' => ⟨g'.gg, fun a o e => g'.hh a o (fun z => nomatch z) e, g'.gh, g'.ow⟩
  rcases q with ⟨d, q, h⟩ | ⟨cls, f, v, q, h⟩
  · exact h σ G H g _ ⟨fun σ' env' G' H' g' e n => q _ G' H' (st g') (n ▸ .non), fun σ' env' G' H' v d' g' e dv n => q v G' H' (st g') (n ▸ dv), fun _ _ _ _ _ _ n => False.elim n, fun _ _ _ _ _ _ n => False.elim n⟩ fun _ _ _ _ _ _ _ _ _ _ _ _ n => False.elim n
  · refine h σ G H g _ ⟨fun _ _ _ _ _ _ n => False.elim n, fun _ _ _ _ _ _ _ _ _ n => False.elim n, fun _ _ _ _ _ _ n => False.elim n, fun _ _ _ _ _ _ n => False.elim n⟩ fun σ' env' G' H' c f' v' dx g' e e1 e2 n => ?_
    obtain ⟨rfl, rfl, rfl⟩ := n
    exact q G' H' dx (st g') e1 e2
end
/-! ### several except clauses, with names or without -/
/-- what the clauses wish: (class, the slot of the name if there is one, the suite) -/
def wManyA (K : PySem.W.Frag) (Wout : WX) (D : Ends) : List (Value × Option Nat × (Addr → Value → Option Addr → TS)) → WX
  | [] => Wout
  | (c, none, ts) :: r => fun cls d σ H => ∃ b, PySem.W.exmOne K cls c = some b ∧ (b = true → ∀ a, H a = none → ts a cls d D σ H) ∧ (b = false → wManyA K Wout D r cls d σ H)
  | (c, some i, ts) :: r => fun cls d σ H => ∃ b, PySem.W.exmOne K cls c = some b ∧
      (b = true → ∀ a, H a = none → ts a cls d { nx := fun σ' H' => D.nx (σ'.set i none) H', rt := D.rt, bk := fun σ' H' => D.bk (σ'.set i none) H', ct := fun σ' H' => D.ct (σ'.set i none) H' } (σ.set i (some (.ref a))) H) ∧ (b = false → wManyA K Wout D r cls d σ H)
inductive HdsA (X : Cx) : List ExceptHandler → List (Value × Option Nat × (Addr → Value → Option Addr → TS)) → Prop
  | nil : HdsA X [] []
  | cons {x : Str} {c : Value} {ts : Addr → Value → Option Addr → TS} {b₀ : Stmt} {suite : List Stmt} {np pos' : Pos} {hds : List ExceptHandler} {l} (hc : Names X x c)
      (hsu : ∀ (a : Addr) (oe : Obj) (cls : Value) (d : Option Addr) (pn : List (Addr × Obj)), Zc cls d oe → (∃ vs, oe.data = .fields vs) → PSs (X.suite a ((a, oe) :: pn)) (b₀ :: suite) (ts a cls d)) (r : HdsA X hds l) :
      HdsA X (.ExceptHandler (some (.Name x np)) none (b₀ :: suite) pos' :: hds) ((c, none, ts) :: l)
  | consA {x n : Str} {i : Nat} {c : Value} {ts : Addr → Value → Option Addr → TS} {b₀ : Stmt} {suite : List Stmt} {np pos' : Pos} {hds : List ExceptHandler} {l} (hc : Names X x c) (hN : X.N.Nodup) (hi : X.N[i]? = some n) (hln : X.env.kindOf n = some .local)
      (hsu : ∀ (a : Addr) (oe : Obj) (cls : Value) (d : Option Addr) (pn : List (Addr × Obj)), Zc cls d oe → (∃ vs, oe.data = .fields vs) → PSs (X.suite a ((a, oe) :: pn)) (b₀ :: suite) (ts a cls d)) (r : HdsA X hds l) :
      HdsA X (.ExceptHandler (some (.Name x np)) (some n) (b₀ :: suite) pos' :: hds) ((c, some i, ts) :: l)
section
variable {X : Cx} {body : List Stmt} {h₀ : ExceptHandler} {hds : List ExceptHandler} {l : List (Value × Option Nat × (Addr → Value → Option Addr → TS))} {pos : Pos} {tb : WX → TS} {Wout : WX}
theorem ps_try_manyA (hs : X.stack = X.env :: X.outer) (hf : X.env.frame = some X.env.locals) (tk : Takes X Wout)
    (hb : ∀ (W : WX) (pn : List (Addr × Obj)) (xe : Value → Shared → Prop), Takes (X.tr pn xe) W → PassesOwn (model X.prog X.w) X.A X.env xe → PSs (X.tr pn xe) body (tb W))
    (hh : HdsA X (h₀ :: hds) l) : PS X (.Try body (h₀ :: hds) [] [] pos) (fun D σ H => tb (wManyA X.K Wout D l) D σ H) := by
  refine ⟨fun pins s σ H D I h => ?_⟩
  have ok := I.ok
  have hfr : X.A.frames = some (X.env :: X.outer) := by rw [ok.frames, hs]
  refine wpAny_Try_except ?_
  refine wpAny_mono ((hb (wManyA X.K Wout D l) (X.pn ++ pins) (fun e s₁ => wpAny (model X.prog X.w) X.A (noteFrame e X.env) (fun _ s₂ => wpAny (model X.prog X.w) X.A (setFlight e none) (fun _ s₃ =>
    wpAny (model X.prog X.w) X.A (handleBy e X.env (h₀ :: hds)) (SP X pins D) X.xe s₃) X.xe s₂) X.xe s₁) (fun u s' xx => ?_) PassesOwn.looking).run [] s σ H D (I.toTry _) h) (fun f s1 hsp => ?_) (fun e s1 he => he)
  · obtain ⟨a, B, sI, pins', σ', H', cls, d, rfl, J', nb, up, sky, na, os, ag, w⟩ := xx
    have J : Inv X pins σ' H' sI := J'.ofTry ok
    have sky' : Sky B (X.env :: X.outer) a (Zc cls d) X.env.locals s'.heap := by rw [← hs]; exact sky
    show wpAny (model X.prog X.w) X.A (noteFrame (.ref a) X.env) _ _ _
    refine Sky.land Zc.steady hfr hf sky' fun h3 fl3 up3 => ?_
    have J3 : Inv X pins σ' H' { s' with heap := h3 } := J.landed nb fl3.1 (up.trans up3) os ag
    obtain ⟨oe3, vs3, he3, hz3, hd3⟩ := fl3.there
    have notFr : ∀ {h : Heap} {o : Obj} {vs : Array Value}, h.FunFrames B (X.env :: X.outer) → h.get? a = some o → o.data = .fields vs → a ∉ frs (X.env :: X.outer) := fun {h o vs} ff e dd hm => by
      obtain ⟨_, o', e', hnf⟩ := ff.mem hm
      rw [e] at e'; cases e'
      exact hnf _ dd
    have nfr := notFr fl3.2.2.1 he3 hd3
    have nL : a ≠ X.env.locals := fun z => nfr (List.mem_filterMap.mpr ⟨X.env, List.mem_cons_self, by rw [hf, z]⟩)
    have nF : a ∉ X.fs := fun hm => by
      obtain ⟨e, he, q⟩ := List.mem_filterMap.mp hm
      exact nfr (List.mem_filterMap.mpr ⟨e, List.mem_cons_of_mem _ he, q⟩)
    have S3 := J3.suite he3 hd3 na nL nF
    have LT : PySem.W.Looks (model X.prog X.w) h3 (typeOf (.ref a)) cls := fun A Q E s k q => wpAny_typeOf_ref (k _ _ he3) (by rw [hz3.1]; exact q)
    have test : ∀ {x : Str} {c : Value} {np : Pos} {Q : Value → Shared → Prop} {E : Value → Shared → Prop}, Names X x c → Q c { s' with heap := h3 } → wpAny (model X.prog X.w) (X.A.mark (some (.ref a))) (eval (.Name x np) X.env) Q E { s' with heap := h3 } := fun {x c np Q E} hc q => by
      obtain ⟨hg, hdbg, hm | ⟨hm, hv, hnn⟩⟩ := hc
      · exact ld_glob (X := X.suite a ((a, oe3) :: (X.pn ++ pins))) S3 hg hm q hdbg
      · exact ld_blt (X := X.suite a ((a, oe3) :: (X.pn ++ pins))) S3 hg hm hv q hnn hdbg
    have go : ∀ {hds' : List ExceptHandler} {l'}, HdsA X hds' l' → wManyA X.K Wout D l' cls d σ' H' →
        wpAny (model X.prog X.w) X.A (handleBy (.ref a) X.env hds') (SP X pins D) X.xe { s' with heap := h3 } := by
      intro hds' l' hk
      induction hk with
      | nil =>
        intro w
        refine wpAny_handleBy_nil ?_
        obtain ⟨k1, k2, k3, oe, vs, T, oT, ts', he, hz, hd, h1, hr⟩ := id fl3
        unfold PySem.passOn
        refine wpAny_bind (wpAny_field he hd h1 ?_)
        rw [if_neg (show ¬ ((Value.ref T == Value.none) = true) from by simp)]
        have fin : wpAny (model X.prog X.w) X.A (setFlight (.ref a) X.env.frame) (fun _ s4 => wpAny (model X.prog X.w) X.A (throw (.ref a) : Sem Flow) (SP X pins D) X.xe s4) X.xe { s' with heap := h3 } := by
          rw [hf]
          refine HandSPX.setFlight_upZ fl3 fun h4 hh4 up4 => wpAny_throw (tk _ _ ?_)
          exact ⟨a, B, sI, pins, σ', H', cls, d, rfl, J, nb, (up.trans up3).trans up4, .inr (.inr (by rw [hs]; exact hh4)), na, os, ag, w⟩
        first
          | exact wpAny_bind (wpAny_pure (wpAny_bind fin))
          | exact wpAny_bind fin
      | @cons x c ts b₀ suite np pos' hds2 l2 hc hsu r ih =>
        intro w
        obtain ⟨b, hb1, hyes, hno⟩ := w
        refine wpAny_handleBy_cons (codeAny_handlers_test ?_) (by intro q; cases q)
        have LM := PySem.W.exm_one (M := model X.prog X.w) (J3.kIn) LT hb1
        refine test hc (LM.here ?_)
        cases b with
        | true =>
          refine codeAny_handlers_suite ?_
          refine HandSPX.lands_againZ fl3 fun h4 fl4 up4 => ?_
          have J4 : Inv X pins σ' H' { s' with heap := h4 } := J.landed nb fl4.1 ((up.trans up3).trans up4) os ag
          obtain ⟨oe4, vs4, he4, hz4, hd4⟩ := fl4.there
          have S4 := J4.suite he4 hd4 na nL nF
          refine wpAny_mono ((hsu a oe4 cls d (X.pn ++ pins) hz4 ⟨_, hd4⟩).run [] _ _ H' _ S4 (hyes rfl a na)) (fun f s6 hsp => ?_) (fun _ _ z => False.elim z)
          cases f with
          | next =>
            obtain ⟨σ6, H6, S6, q6⟩ := hsp
            exact ⟨_, _, S6.unsuite ok, q6⟩
          | brk =>
            obtain ⟨σ6, H6, S6, q6⟩ := hsp
            exact ⟨_, _, S6.unsuite ok, q6⟩
          | cont =>
            obtain ⟨σ6, H6, S6, q6⟩ := hsp
            exact ⟨_, _, S6.unsuite ok, q6⟩
          | ret u =>
            obtain ⟨v6, σ6, H6, S6, r6, q6⟩ := hsp
            exact ⟨_, _, _, S6.unsuite ok, r6, q6⟩
        | false =>
          show wpAny _ X.A (handleBy (.ref a) X.env hds2) _ _ _
          exact ih (hno rfl)
      | @consA x n i c ts b₀ suite np pos' hds2 l2 hc hN hi hln hsu r ih =>
        intro w
        obtain ⟨b, hb1, hyes, hno⟩ := w
        have hloc : Loc X.env.scope n := .inl hln
        refine wpAny_handleBy_cons (codeAny_handlers_test ?_) (by intro q; cases q)
        have LM := PySem.W.exm_one (M := model X.prog X.w) (J3.kIn) LT hb1
        refine test hc (LM.here ?_)
        cases b with
        | true =>
          refine codeAny_handlers_suite_as ?_
          refine HandSPX.lands_againZ fl3 fun h4 fl4 up4 => ?_
          have J4 : Inv X pins σ' H' { s' with heap := h4 } := J.landed nb fl4.1 ((up.trans up3).trans up4) os ag
          obtain ⟨oe4, vs4, he4, hz4, hd4⟩ := fl4.there
          have S4 := J4.suite he4 hd4 na nL nF
          refine store_ok (X := X.suite a ((a, oe4) :: (X.pn ++ pins))) (v := .ref a) S4 hN hi hloc rfl (fun s5 S5 => ?_) (.inr hln)
          refine wpAny_mono ((hsu a oe4 cls d (X.pn ++ pins) hz4 ⟨_, hd4⟩).run [] s5 _ H' _ S5 (hyes rfl a na)) (fun f s6 hsp => ?_) (fun _ _ z => False.elim z)
          have end_ : ∀ {σ6 : Sg} {H6 : Hp} {Q : Shared → Prop}, Inv (X.suite a ((a, oe4) :: (X.pn ++ pins))) [] σ6 H6 s6 → (∀ s7, Inv X pins (σ6.set i none) H6 s7 → Q s7) →
              wpAny (model X.prog X.w) X.A (do bindName X.env n .none; unbindBehindTheSuite X.env n pos') (fun _ s7 => Q s7) X.xe s6 := fun {σ6 H6 Q} S6 hq => gone_ok (S6.unsuite ok) hN hi hln hq
          cases f with
          | next =>
            obtain ⟨σ6, H6, S6, q6⟩ := hsp
            exact end_ S6 fun s7 J7 => ⟨_, _, J7, q6⟩
          | brk =>
            obtain ⟨σ6, H6, S6, q6⟩ := hsp
            exact end_ S6 fun s7 J7 => ⟨_, _, J7, q6⟩
          | cont =>
            obtain ⟨σ6, H6, S6, q6⟩ := hsp
            exact end_ S6 fun s7 J7 => ⟨_, _, J7, q6⟩
          | ret u =>
            obtain ⟨v6, σ6, H6, S6, r6, q6⟩ := hsp
            exact end_ S6 fun s7 J7 => ⟨_, _, _, J7, r6, q6⟩
        | false =>
          show wpAny _ X.A (handleBy (.ref a) X.env hds2) _ _ _
          exact ih (hno rfl)
    exact go hh w
  · cases f with
    | next =>
      obtain ⟨σ', H', J', q⟩ := hsp
      exact wpAny_execs_nil ⟨σ', H', J'.ofTry ok, q⟩
    | brk =>
      obtain ⟨σ', H', J', q⟩ := hsp
      exact ⟨σ', H', J'.ofTry ok, q⟩
    | cont =>
      obtain ⟨σ', H', J', q⟩ := hsp
      exact ⟨σ', H', J'.ofTry ok, q⟩
    | ret u =>
      obtain ⟨v, σ', H', J', r, q⟩ := hsp
      exact ⟨v, σ', H', J'.ofTry ok, r, q⟩
/-- isinstance(e, c), e the caught error of the class D with its dict -/
def rIsX (K : PySem.W.Frag) (D a : Addr) (d : Option Addr) : List V → Hp → VK → Prop := fun xs H Q => ∃ (c : V) (cv : Value) (b : Bool) (dd : Addr) (fs : List (Str × V)), xs = [.ref a, c] ∧ (∀ u, RelV c u → u = cv) ∧ d = some dd ∧ H dd = some (.xd fs) ∧ PySem.W.kitOne K (.ref D) cv = some b ∧ Q (.bl b) H
theorem call_isX {a D : Addr} {d : Option Addr} {oe : Obj} {mg : Str → Option Value} {x f : Str} {fI : Addr} {cls : Value} {pn : List (Addr × Obj)} (C : ErrC X.K mg x f D fI) (hz : Zc cls d oe) (hf : ∃ vs, oe.data = .fields vs) :
    CallR (X.suite a ((a, oe) :: pn)) (.builtin "isinstance") (fun xs H Q => cls = .ref D ∧ rIsX X.K D a d xs H Q) := by
  intro pins s σ H xs us Q I r h
  obtain ⟨rfl, c, cv, b, dd, fs, rfl, hcv, rfl, hxd, e, q⟩ := h
  cases r with
  | cons rx rr =>
    cases rr with
    | cons rt rr =>
      cases rr
      cases rx
      have ec := hcv _ rt
      subst ec
      obtain ⟨hget, _⟩ := I.pin (a, oe) (List.mem_append.mpr (.inl List.mem_cons_self))
      obtain ⟨vs, hv⟩ := hf
      have hx : ObjOk X.prog X.w H s.heap dd (.xd fs) := I.hok dd _ hxd
      obtain ⟨mA, ⟨od, es, ep, ho, hr⟩, _⟩ := hx
      have J : PySem.W.InstAt s.heap a oe D (some od) := ⟨hget, hz.1, by unfold PySem.W.notCls; rw [hv] <;> rfl, by rw [hz.2]; exact ho⟩
      have hcl : (PySem.W.clsIn X.K D).isSome = true := C.ic
      exact PySem.W.kia_one (PySem.W.kitx_exc (od := some od) hcl C.xf.ga C.xf.gg C.xf.exC C.ha C.hn C.ht C.hm) I.kIn J e (fun z => nomatch z) fun tk => ⟨.bl b, H, I.kept (t' := tk) fun _ _ z => z, rfl, q⟩
end
end DL

set_option Elab.async false
set_option linter.all false
set_option maxRecDepth 100000
set_option maxHeartbeats 2000000
namespace DL
open PySem PySem.Spec PyProof.Rows L2

/-! ### calls by keywords alone -/
def tCallK0 (sp : Sp) (gV : List V → List V → List V) (E : Sg → XK) (tk : TA) : TE := fun σ H Q => tk σ H fun zs H2 => sp (gV [] zs) H2 Q (E σ)
section
variable {X : Cx} {CX : CXT} {k n : Nat} {f C : Addr} {fd : FuncData} {ps ks : List Str} {sp : Sp} {E : XK} {ES : Sg → XK} {x : Str} {p pos : Pos} {kws : List Keyword} {t tk : TA} {g : List Value → List Value → List Value} {gV : List V → List V → List V}
theorem pe_callK0 (F : FnOk X.prog X.w X.K X.mg X.base CX k f fd ps sp) (hr : Room k X.A) (hg : Gl X x) (hm : X.mg x = some (.ref f)) (hk : PySem.W.keepIn X.K (.ref f) = true) (hb : KBinds X.K fd ps ks g gV) (hx : Passes CX X E)
    (hkw : PK X kws tk) (hall : (backToKw pos (keywordEach kws X.env)).all (·.1.isSome) = true := by rfl) (hks : (backToKw pos (keywordEach kws X.env)).filterMap (·.1) = ks := by rfl)
    (hdb : (x == ("__debug__" : Str)) = false := by decide) (hpl : ((backTo pos (starEach [] X.env)).any (·.1) || (backToKw pos (keywordEach kws X.env)).any (·.1.isNone)) = false := by rfl) :
    PE X (.Call (.Name x p) [] kws pos) (tCallK0 sp gV (fun _ => E) tk) := by
  refine ⟨fun pins s σ H Q I h => ?_⟩
  refine wpAny_Call_Name_kw (ld_glob I hg hm ?_ hdb)
  refine PySem.W.callWith_KW0 (h₀ := X.base) I.ok.mod.kin hk hall ?_ hpl
  refine thn (hkw.run pos pins s σ H _ I h) fun ws s2 ⟨zs, H2, I2, rz, q2⟩ => ⟨I2.kIn, ?_⟩
  rw [hks]
  exact run_fnk F hr hb hx I2 .nil rz q2
theorem run_fnkS {pins : List (Addr × Obj)} {σ : Sg} {H : Hp} {s : Shared} {Q : VK} {us ws : List Value} {vs zs : List V} (F : FnOk X.prog X.w X.K X.mg X.base CX k f fd ps sp) (hr : Room k X.A) (hb : KBinds X.K fd ps ks g gV) (hx : PassesAt CX X σ (ES σ))
    (I : Inv X pins σ H s) (r : Vals vs us) (rz : Vals zs ws) (h : sp (gV vs zs) H Q (ES σ)) : wpAny (model X.prog X.w) X.A (call (.ref f) us (ks.zip ws)) (EP X pins σ Q) X.xe s := by
  have r2 := hb.rel r rz
  have hl : (g us ws).length = ps.length := by rw [← r2.length]; exact F.len _ _ _ _ h
  refine wpAny_call (codeAny_mono (F.run X.A X.stack s H ⟨us, ks.zip ws⟩ (g us ws) (gV vs zs) Q (ES σ) hr I.env0 (hb.to s us ws I.kIn hl) r2 h) fun r s' hq => ?_)
  cases r with
  | error e => exact hx pins H s e s' I hq
  | ok fl =>
    cases fl with
    | ret u => exact I.after hq
    | next => exact False.elim hq
    | brk => exact False.elim hq
    | cont => exact False.elim hq
theorem pe_callK0S (F : FnOk X.prog X.w X.K X.mg X.base CX k f fd ps sp) (hr : Room k X.A) (hg : Gl X x) (hm : X.mg x = some (.ref f)) (hk : PySem.W.keepIn X.K (.ref f) = true) (hb : KBinds X.K fd ps ks g gV) (hx : ∀ σ, PassesAt CX X σ (ES σ))
    (hkw : PK X kws tk) (hall : (backToKw pos (keywordEach kws X.env)).all (·.1.isSome) = true := by rfl) (hks : (backToKw pos (keywordEach kws X.env)).filterMap (·.1) = ks := by rfl)
    (hdb : (x == ("__debug__" : Str)) = false := by decide) (hpl : ((backTo pos (starEach [] X.env)).any (·.1) || (backToKw pos (keywordEach kws X.env)).any (·.1.isNone)) = false := by rfl) :
    PE X (.Call (.Name x p) [] kws pos) (tCallK0 sp gV ES tk) := by
  refine ⟨fun pins s σ H Q I h => ?_⟩
  refine wpAny_Call_Name_kw (ld_glob I hg hm ?_ hdb)
  refine PySem.W.callWith_KW0 (h₀ := X.base) I.ok.mod.kin hk hall ?_ hpl
  refine thn (hkw.run pos pins s σ H _ I h) fun ws s2 ⟨zs, H2, I2, rz, q2⟩ => ⟨I2.kIn, ?_⟩
  rw [hks]
  exact run_fnkS F hr hb (hx σ) I2 .nil rz q2
end
theorem fun_kbinds {K : PySem.W.Frag} {x qual : Str} {st : Stmt} {f : Addr} {fd : FuncData} {ps ks : List Str} {g : List Value → List Value → List Value} {gV : List V → List V → List V} (F : Fun K x qual st f fd)
    (h : ∀ (kV doc pm : Value) (an : Option Addr) (cdv ct : Value) (us ws : List Value), (g us ws).length = ps.length → bindArgs (PySem.W.fnOf x qual (defArgs st) (defBody st) (defScope st) .none kV doc pm an cdv ct) ⟨us, ks.zip ws⟩ = pure (ps.zip (g us ws)))
    (hr : ∀ {vs : List V} {us : List Value} {zs : List V} {ws : List Value}, Vals vs us → Vals zs ws → Vals (gV vs zs) (g us ws)) : KBinds K fd ps ks g gV := by
  obtain ⟨oc, od, kV, doc, pm, an, cdv, ct, osl, rfl, lk, hcd⟩ := F.ex
  exact ⟨fun s us ws _ hl => .of_eq (h kV doc pm an cdv ct us ws hl), hr⟩
/-- the error classes' __init__ -/
theorem ok_err0 {P : Program} {w : World} {K : PySem.W.Frag} {mg : Str → Option Value} {base : Heap} {f : Str} {fI : Addr} {fd : FuncData} {q : Str} {st : Stmt} {C0 : Addr} (F : Fun K "__init__" q st fI fd) (S : SemC K mg C0)
    (sc : FnScope ["self", f] ["self", f] (defScope st))
    (tm : ∀ (A : Around) (outer : List Env) (s : Shared) (H : Hp) (E : XK) (cdv : Value), PSs (cxOf CX0 P w K mg base ["self", f] q (defScope st) fI cdv A outer s H E).nox (defBody st) (tSeq (tDrop (tVeI K (tCons (tVar 0) (tCons (tC (.str q)) tNil)))) (tOst K f (tVar 0) (tVar 1)))) :
    True := trivial

/-! ### expressions that may change what is one's own -/
structure StpE (own : List Addr) (G H G' H' : Hp) : Prop where
  gg : Ex G G'
  gh : Ex G' H'
  hh : ∀ a o, a ∉ own → H a = some o → H' a = some o
  ow : ∀ a, G a = none → H a ≠ none → G' a = none
abbrev owns (env : Env') : List Addr := env.filterMap ownA
section
variable (K : PySem.W.Frag) (β : Bas)
def XE (te : TE) (env : Env') (P : V → D → Env' → Prop) : Prop := ∀ σ G H, Good K β σ env G H → ∀ Q : VK, (∀ v d env' G' H', Good K β σ env' G' H' → StpE (owns env) G H G' H' → owns env' = owns env → Dat K G' v d → P v d env' → Q v H') → te σ H Q
def XT (tt : TT) (env : Env') (P : Bool → Env' → Prop) : Prop := ∀ σ G H, Good K β σ env G H → ∀ Q : Bool → Hp → Prop, (∀ b env' G' H', Good K β σ env' G' H' → StpE (owns env) G H G' H' → owns env' = owns env → P b env' → Q b H') → tt σ H Q
def XA (ta : TA) (env : Env') (P : List V → List D → Env' → Prop) : Prop := ∀ σ G H, Good K β σ env G H → ∀ Q : List V → Hp → Prop, (∀ vs ds env' G' H', Good K β σ env' G' H' → StpE (owns env) G H G' H' → owns env' = owns env → DatL K G' vs ds → P vs ds env' → Q vs H') → ta σ H Q
end
section
variable {K : PySem.W.Frag} {β : Bas} {env : Env'} {ta tb te tc : TE} {tt tu : TT} {x y z d : D} {v w : V} {P : V → D → Env' → Prop}
theorem StpE.refl {own : List Addr} {G H : Hp} (h : Ex G H) : StpE own G H G H := ⟨.refl _, h, fun _ _ _ h => h, fun _ h _ => h⟩
theorem StpE.of {own : List Addr} {G H G' H' : Hp} (t : Stp G H G' H') : StpE own G H G' H' := ⟨t.gg, t.gh, fun a o _ h => t.hh a o h, t.ow⟩
theorem StpE.trans {own : List Addr} {G H G1 H1 G2 H2 : Hp} (hn : ∀ a ∈ own, H a ≠ none → H1 a ≠ none) (a : StpE own G H G1 H1) (b : StpE own G1 H1 G2 H2) : StpE own G H G2 H2 :=
  ⟨a.gg.trans b.gg, b.gh, fun x o hx h => b.hh x o hx (a.hh x o hx h), fun x h1 h2 => b.ow x (a.ow x h1 h2) (by
    by_cases hx : x ∈ own
    · exact hn x hx h2
    · cases q : H x with
      | none => exact absurd q h2
      | some o => rw [a.hh x o hx q]; exact (fun e => nomatch e))⟩
/-- what is one's own stands in the heap -/
theorem Good.there {σ : Sg} {G H : Hp} (g : Good K β σ env G H) {a : Addr} (h : a ∈ owns env) : H a ≠ none := by
  obtain ⟨s, hs, e⟩ := List.mem_filterMap.mp h
  obtain ⟨j, hj⟩ := List.mem_iff_getElem?.mp hs
  cases s with
  | un => cases e
  | val v d => cases e
  | own b ds =>
    obtain rfl : b = a := Option.some.inj e
    obtain ⟨_, _, _, ys, h4, _⟩ := g.own hj
    rw [h4]; exact (fun e => nomatch e)
  | odi b ds =>
    obtain rfl : b = a := Option.some.inj e
    obtain ⟨_, _, _, ys, h4, _⟩ := g.odi hj
    rw [h4]; exact (fun e => nomatch e)
  | obj b ds =>
    obtain rfl : b = a := Option.some.inj e
    obtain ⟨_, _, _, ys, h4, _⟩ := g.obj hj
    rw [h4]; exact (fun e => nomatch e)
theorem StpE.tr {G H G1 H1 G2 H2 : Hp} {σ : Sg} {env1 : Env'} (g1 : Good K β σ env1 G1 H1) (e : owns env1 = owns env) (a : StpE (owns env) G H G1 H1) (b : StpE (owns env1) G1 H1 G2 H2) : StpE (owns env) G H G2 H2 :=
  StpE.trans (fun x hx _ => g1.there (by rw [e]; exact hx)) a (by rw [← e]; exact b)
theorem EV.xe (h : EV K β te env d) : XE K β te env (fun _ d' env' => d' = d ∧ env' = env) := fun σ G H g Q q => h σ G H g Q fun v G' H' t dv => q v d env G' H' (g.up t) (.of t) rfl dv ⟨rfl, rfl⟩
theorem EVv.xe (h : EVv K β te env v d) : XE K β te env (fun v' d' env' => v' = v ∧ d' = d ∧ env' = env) := fun σ G H g Q q => h σ G H g Q fun G' H' t dv => q v d env G' H' (g.up t) (.of t) rfl dv ⟨rfl, rfl, rfl⟩
theorem EVT.xt {b : Bool} (h : EVT K β tt env b) : XT K β tt env (fun b' env' => b' = b ∧ env' = env) := fun σ G H g Q q => h σ G H g Q fun G' H' t => q b env G' H' (g.up t) (.of t) rfl ⟨rfl, rfl⟩
theorem EVA.xa {ta : TA} {ds : List D} (h : EVA K β ta env ds) : XA K β ta env (fun _ d' env' => d' = ds ∧ env' = env) := fun σ G H g Q q => h σ G H g Q fun v G' H' t dv => q v ds env G' H' (g.up t) (.of t) rfl dv ⟨rfl, rfl⟩
theorem XE.imp {P' : V → D → Env' → Prop} (h : XE K β te env P) (i : ∀ v d e, P v d e → P' v d e) : XE K β te env P' := fun σ G H g Q q => h σ G H g Q fun v d env' G' H' g' t e dv p => q v d env' G' H' g' t e dv (i _ _ _ p)
theorem xe_op {r : R2} {P1 : V → D → Env' → Prop} {P2 : D → V → D → Env' → Prop} (ha : XE K β ta env P1) (hb : ∀ v1 d1 env1, P1 v1 d1 env1 → XE K β tb env1 (P2 d1)) (hr : ∀ v1 d1 env1 v2 d2 env2, P1 v1 d1 env1 → P2 d1 v2 d2 env2 → ∃ z, OpD K r d1 d2 z ∧ ∀ v, P v z env2) : XE K β (tOp r ta tb) env P := fun σ G H g Q q =>
  ha σ G H g _ fun v1 d1 env1 G1 H1 g1 t1 e1 dv1 p1 => hb v1 d1 env1 p1 σ G1 H1 g1 _ fun v2 d2 env2 G2 H2 g2 t2 e2 dv2 p2 => by
    obtain ⟨z, ho, hp⟩ := hr v1 d1 env1 v2 d2 env2 p1 p2
    exact ho G2 H2 v1 v2 g2.gh (dv1.up t2.gg) dv2 Q fun v G3 H3 t3 dz => q v z env2 G3 H3 (g2.up t3) (StpE.tr g2 (e2.trans e1) (StpE.tr g1 e1 t1 t2) (.of t3)) (e2.trans e1) dz (hp v)
theorem xa_nil : XA K β tNil env (fun vs ds env' => vs = [] ∧ ds = [] ∧ env' = env) := fun σ G H g Q q => q [] [] env G H g (.refl g.gh) rfl .nil ⟨rfl, rfl, rfl⟩
theorem xa_cons {tr : TA} {P1 : V → D → Env' → Prop} {P2 : V → D → List V → List D → Env' → Prop} {P3 : List V → List D → Env' → Prop} (ha : XE K β te env P1) (hb : ∀ v1 d1 env1, P1 v1 d1 env1 → XA K β tr env1 (P2 v1 d1))
    (hp : ∀ v1 d1 env1 vs ds env2, P1 v1 d1 env1 → P2 v1 d1 vs ds env2 → P3 (v1 :: vs) (d1 :: ds) env2) : XA K β (tCons te tr) env P3 := fun σ G H g Q q =>
  ha σ G H g _ fun v1 d1 env1 G1 H1 g1 t1 e1 dv1 p1 => hb v1 d1 env1 p1 σ G1 H1 g1 _ fun vs ds env2 G2 H2 g2 t2 e2 dvs p2 => q (v1 :: vs) (d1 :: ds) env2 G2 H2 g2 (StpE.tr g1 e1 t1 t2) (e2.trans e1) (.cons (dv1.up t2.gg) dvs) (hp _ _ _ _ _ _ p1 p2)
theorem xe_lst {ta : TA} {P1 : List V → List D → Env' → Prop} (ha : XA K β ta env P1) (hp : ∀ vs ds env1, P1 vs ds env1 → ds.length ≤ sizeLine ∧ ∀ v, P v (.lst ds) env1) : XE K β (tLst ta) env P := fun σ G H g Q q =>
  ha σ G H g _ fun vs ds env1 G1 H1 g1 t1 e1 dvs p1 => ⟨by rw [dvs.length]; exact (hp _ _ _ p1).1, fun p hp' => q _ _ env1 (upd G1 p (.lst vs)) _ (g1.up (.new g1.gh hp')) (StpE.tr g1 e1 t1 (.of (.new g1.gh hp'))) e1 (.lst upd_same (dvs.up (.new (g1.gh.back hp')))) ((hp _ _ _ p1).2 _)⟩
theorem xe_tup {ta : TA} {P1 : List V → List D → Env' → Prop} (ha : XA K β ta env P1) (hp : ∀ vs ds env1, P1 vs ds env1 → ds.length ≤ sizeLine ∧ ∀ v, P v (.tup ds) env1) : XE K β (tTup ta) env P := fun σ G H g Q q =>
  ha σ G H g _ fun vs ds env1 G1 H1 g1 t1 e1 dvs p1 => ⟨by rw [dvs.length]; exact (hp _ _ _ p1).1, fun p hp' => q _ _ env1 (upd G1 p (.tup vs)) _ (g1.up (.new g1.gh hp')) (StpE.tr g1 e1 t1 (.of (.new g1.gh hp'))) e1 (.tup (.of upd_same) (dvs.up (.new (g1.gh.back hp')))) ((hp _ _ _ p1).2 _)⟩
theorem xt_test {P1 : V → D → Env' → Prop} {P2 : Bool → Env' → Prop} (h : XE K β te env P1) (hp : ∀ v d env1, P1 v d env1 → ∃ b, d = .bl b ∧ P2 b env1) : XT K β (tTest te) env P2 := fun σ G H g Q q =>
  h σ G H g _ fun v d env1 G1 H1 g1 t1 e1 dv p1 => by
    obtain ⟨b, rfl, p⟩ := hp _ _ _ p1
    exact ⟨b, dv.blV, q b env1 G1 H1 g1 t1 e1 p⟩
theorem xt_B {P1 : V → D → Env' → Prop} {P2 : Bool → Env' → Prop} (h : XE K β te env P1) (hp : ∀ v d env1, P1 v d env1 → ∃ b, d = .bl b ∧ P2 b env1) : XT K β (tB te) env P2 := fun σ G H g Q q =>
  h σ G H g _ fun v d env1 G1 H1 g1 t1 e1 dv p1 => by
    obtain ⟨b, rfl, p⟩ := hp _ _ _ p1
    exact ⟨b, dv.blV, q b env1 G1 H1 g1 t1 e1 p⟩
theorem xt_not {P1 P2 : Bool → Env' → Prop} (h : XT K β tt env P1) (hp : ∀ b e, P1 b e → P2 (!b) e) : XT K β (tNot tt) env P2 := fun σ G H g Q q => h σ G H g _ fun b env1 G1 H1 g1 t1 e1 p => q (!b) env1 G1 H1 g1 t1 e1 (hp _ _ p)
theorem xe_if {P1 : Bool → Env' → Prop} (h : XT K β tt env P1) (h1 : ∀ e, P1 true e → XE K β ta e P) (h2 : ∀ e, P1 false e → XE K β tb e P) : XE K β (tIf tt ta tb) env P := fun σ G H g Q q =>
  h σ G H g _ fun b env1 G1 H1 g1 t1 e1 p1 => by
    cases b with
    | true => rw [if_pos rfl]; exact h1 env1 p1 σ G1 H1 g1 Q fun v d env2 G2 H2 g2 t2 e2 => q v d env2 G2 H2 g2 (StpE.tr g1 e1 t1 t2) (e2.trans e1)
    | false => rw [if_neg Bool.false_ne_true]; exact h2 env1 p1 σ G1 H1 g1 Q fun v d env2 G2 H2 g2 t2 e2 => q v d env2 G2 H2 g2 (StpE.tr g1 e1 t1 t2) (e2.trans e1)
theorem xe_call {R : List D → D → Prop} {ta : TA} {E : XK} {P1 : List V → List D → Env' → Prop} (ha : XA K β ta env P1) (hp : ∀ vs ds env1, P1 vs ds env1 → ∃ d, R ds d ∧ ∀ v, P v d env1) : XE K β (tCall (spD K R) [] E ta) env P := fun σ G H g Q q =>
  ha σ G H g _ fun vs ds env1 G1 H1 g1 t1 e1 dvs p1 => by
    obtain ⟨d, hR, hd⟩ := hp _ _ _ p1
    exact ⟨G1, ds, d, g1.gh, by rw [List.append_nil]; exact dvs, hR, fun v G2 H2 t2 dv => q v d env1 G2 H2 (g1.up t2) (StpE.tr g1 e1 t1 (.of t2)) e1 dv (hd v)⟩
theorem xe_then {k : V → Hp → VK → Prop} {P1 : V → D → Env' → Prop} (h : XE K β te env P1) (hp : ∀ v d env1, P1 v d env1 → ∃ z, UnD K k d z ∧ ∀ v, P v z env1) : XE K β (tThen te k) env P := fun σ G H g Q q =>
  h σ G H g _ fun v d env1 G1 H1 g1 t1 e1 dv p1 => by
    obtain ⟨z, hz, hd⟩ := hp _ _ _ p1
    exact hz G1 H1 v g1.gh dv Q fun u G2 H2 t2 dz => q u z env1 G2 H2 (g1.up t2) (StpE.tr g1 e1 t1 (.of t2)) e1 dz (hd u)
theorem xe_cb {r : List V → Hp → VK → Prop} {ta : TA} {P1 : List V → List D → Env' → Prop} (ha : XA K β ta env P1) (hp : ∀ vs ds env1, P1 vs ds env1 → ∃ z, CbD K r ds z ∧ ∀ v, P v z env1) : XE K β (tCB r ta) env P := fun σ G H g Q q =>
  ha σ G H g _ fun vs ds env1 G1 H1 g1 t1 e1 dvs p1 => by
    obtain ⟨z, hz, hd⟩ := hp _ _ _ p1
    exact hz G1 H1 vs g1.gh dvs Q fun u G2 H2 t2 dz => q u z env1 G2 H2 (g1.up t2) (StpE.tr g1 e1 t1 (.of t2)) e1 dz (hd u)
/-! statements over such expressions -/
variable {Po : Post} {W : WX} {ts tr : TS}
theorem ex_asgX {i : Nat} (h : XE K β te env P) (k : ∀ v d e, P v d e → Po.nx (e.set i (.val v d))) : EX K β W (tAsg te (gName i)) env Po := fun σ G H g Dn c x =>
  h σ G H g _ fun v d env1 G1 H1 g1 t1 e1 dv p => c.nx _ _ G1 H1 (g1.set i dv) t1.gg (k _ _ _ p)
theorem ex_letX {i : Nat} (h : XE K β te env P) (k : ∀ v d e, P v d e → EX K β W tr (e.set i (.val v d)) Po) : EX K β W (tSeq (tAsg te (gName i)) tr) env Po :=
  ex_seq (N := fun e' => ∃ v d e, P v d e ∧ e' = e.set i (.val v d)) (ex_asgX h fun v d e p => ⟨v, d, e, p, rfl⟩) fun env' ⟨v, d, e, p, q⟩ => q ▸ k v d e p
theorem ex_retX (h : XE K β te env P) (k : ∀ v d e, P v d e → Po.rt v d e) : EX K β W (tRet te) env Po := fun σ G H g Dn c x =>
  h σ G H g _ fun v d env1 G1 H1 g1 t1 e1 dv p => c.rt _ _ G1 H1 v d g1 t1.gg dv (k _ _ _ p)
theorem ex_dropX (h : XE K β te env P) (k : ∀ v d e, P v d e → Po.nx e) : EX K β W (tDrop te) env Po := fun σ G H g Dn c x =>
  h σ G H g _ fun v d env1 G1 H1 g1 t1 e1 dv p => c.nx _ _ G1 H1 g1 t1.gg (k _ _ _ p)
theorem ex_ifX {P1 : Bool → Env' → Prop} (h : XT K β tt env P1) (h1 : ∀ e, P1 true e → EX K β W ts e Po) (h2 : ∀ e, P1 false e → EX K β W tr e Po) : EX K β W (tIfS tt ts tr) env Po := fun σ G H g Dn c x =>
  h σ G H g _ fun b env1 G1 H1 g1 t1 e1 p => by
    cases b with
    | true => rw [if_pos rfl]; exact h1 env1 p σ G1 H1 g1 Dn (c.up t1.gg) (x.up t1.gg)
    | false => rw [if_neg Bool.false_ne_true]; exact h2 env1 p σ G1 H1 g1 Dn (c.up t1.gg) (x.up t1.gg)
/-- a, b = x, y -/
theorem ex_parX {i j : Nat} {ta : TA} {PA' : List V → List D → Env' → Prop} (h : XA K β ta env PA') (k : ∀ vs ds e, PA' vs ds e → ∃ d1 d2, ds = [d1, d2] ∧ ∀ v1 v2, vs = [v1, v2] → Po.nx ((e.set i (.val v1 d1)).set j (.val v2 d2))) : EX K β W (tPar i j ta) env Po := fun σ G H g Dn c x =>
  h σ G H g _ fun vs ds env1 G1 H1 g1 t1 e1 dvs p => by
    obtain ⟨d1, d2, rfl, hk⟩ := k _ _ _ p
    cases dvs with | cons a t => cases t with | cons b t =>
    cases t
    exact ⟨_, _, rfl, c.nx _ _ G1 H1 ((g1.set i a).set j b) t1.gg (hk _ _ rfl)⟩
/-- xs[k] = e, xs one's own -/
theorem ex_setOwn {i : Nat} {a : Addr} {ds : List D} {kk : Int} {j : Nat} (hi : env[i]? = some (.own a ds)) (he : EV K β te env d) (hk : EV K β tb env (.int kk)) (hj : ixN ds.length kk = some j) (k : Po.nx (env.set i (.own a (ds.set j d)))) :
    EX K β W (tAsg te (gSub (tVar i) tb rSetL)) env Po := fun σ G H g Dn c x =>
  he σ G H g _ fun v G1 H1 t1 dv => by
    obtain ⟨h1, h2, h3, xs, h4, h5⟩ := g.own hi
    refine ⟨.ref a, h1, hk σ G1 H1 (g.up t1) _ fun u G2 H2 t2 du => ?_⟩
    refine ⟨a, xs, kk, j, rfl, du.intV, t2.hh _ _ (t1.hh _ _ h4), by rw [h5.length]; exact hj, ?_⟩
    exact c.nx _ _ G2 _ (((g.up t1).up t2).write hi ((h5.up (t1.gg.trans t2.gg)).set j (dv.up t2.gg))) (t1.gg.trans t2.gg) k
/-! ### a box that is lent -/
/-- the box of draws: how much it holds (a number, whether it is great, its rest, how often it was asked, at most n times) -/
def BoxD (n : Nat) (ds : List D) : Prop := ∃ (g : Int) (f : Bool) (s c : Int), ds = [.int g, .bl f, .int s, .int c] ∧ 0 ≤ g ∧ 0 ≤ s ∧ s < 2147483648 ∧ 0 ≤ c ∧ c ≤ n
theorem BoxD.mono {n m : Nat} {ds : List D} (h : BoxD n ds) (l : n ≤ m) : BoxD m ds := by
  obtain ⟨g, f, s, c, e, h1, h2, h3, h4, h5⟩ := h
  exact ⟨g, f, s, c, e, h1, h2, h3, h4, by omega⟩
variable (K) in
/-- a def whose first argument is a box, which it asks at most k times; R: what is known of the answer's data -/
def spB (k : Nat) (R : List D → (D → Prop) → Prop) : Sp := fun vs H Q _ => ∃ (G : Hp) (b : Addr) (n : Nat) (xs : List V) (bs : List D) (ws : List V) (ds : List D) (Pd : D → Prop),
  vs = .ref b :: ws ∧ G b = none ∧ H b = some (.lst xs) ∧ DatL K G xs bs ∧ BoxD n bs ∧ n + k ≤ 1000000000 ∧ Ex G H ∧ DatL K G ws ds ∧ R ds Pd ∧
  ∀ v d G' H' xs' bs', Pd d → StpE [b] G H G' H' → H' b = some (.lst xs') → G' b = none → DatL K G' xs' bs' → BoxD (n + k) bs' → Dat K G' v d → Q v H'
theorem xe_callB {R : List D → (D → Prop) → Prop} {i k n : Nat} {b : Addr} {bs : List D} {tr : TA} {E : XK} {Pd : D → Prop} {ds : List D} (hi : env[i]? = some (.own b bs)) (hb : BoxD n bs) (hn : n + k ≤ 1000000000) (ha : EVA K β tr env ds) (hR : R ds Pd) :
    XE K β (tCall (spB K k R) [] E (tCons (tVar i) tr)) env (fun _ d e => Pd d ∧ ∃ bs', BoxD (n + k) bs' ∧ e = env.set i (.own b bs')) := fun σ G H g Q q => by
  obtain ⟨h1, h2, h3, xs, h4, h5⟩ := g.own hi
  refine ⟨.ref b, h1, ha σ G H g _ fun ws G1 H1 t1 dws => ?_⟩
  have g1 := g.up t1
  obtain ⟨_, _, h3', ys, h4', h5'⟩ := g1.own hi
  refine ⟨G1, b, n, ys, bs, ws, ds, Pd, by rw [List.append_nil], h3', h4', h5', hb, hn, t1.gh, dws, hR, fun v d G2 H2 xs' bs' pd t2 e1 e2 dx hbx dv => ?_⟩
  have hm : b ∈ owns env := List.mem_filterMap.mpr ⟨_, List.mem_of_getElem? hi, rfl⟩
  -- the step, as a step that leaves the box, then the box's own write
  have t3 : StpE (owns env) G H G2 H2 := ⟨t1.gg.trans t2.gg, t2.gh, fun a o hx h => t2.hh a o (fun z => hx (by rw [List.mem_singleton.mp z]; exact hm)) (t1.hh a o h), fun a h5 h6 => t2.ow a (t1.ow a h5 h6) (by
    cases q' : H a with
    | none => exact absurd q' h6
    | some o => rw [t1.hh a o q']; exact (fun e => nomatch e))⟩
  have g2 : Good K β σ (env.set i (.own b bs')) G2 H2 := by
    have gw := g1.write hi (xs := ys) (ds' := bs) h5'
    refine ⟨g1.gg.trans t2.gg, fun a o h5 h6 => ?_, t2.gh, fun a h5 h6 => t2.ow a (g1.ow a h5 h6) (g1.hn h6), fun a h5 => ?_, ?_, by rw [nd_own hi]; exact g.nd⟩
    · by_cases hab : a = b
      · subst hab
        rcases h2 with z | z
        · rw [z] at h6; cases h6
        · exact absurd z h5
      · exact t2.hh a o (fun z => hab (List.mem_singleton.mp z)) (g1.hh a o h5 h6)
    · by_cases hab : a = b
      · subst hab; rw [e1]; exact (fun e => nomatch e)
      · cases q' : H1 a with
        | none => exact absurd q' (g1.bh a h5)
        | some o => rw [t2.hh a o (fun z => hab (List.mem_singleton.mp z)) q']; exact (fun e => nomatch e)
    · have key : ∀ {σ : Sg} {env : Env'} {i : Nat}, SlsOk K β G1 H1 σ env → env[i]? = some (.own b bs) → (env.filterMap ownA).Nodup → SlsOk K β G2 H2 σ (env.set i (.own b bs')) := by
        have other : ∀ {σ : Sg} {env : Env'}, SlsOk K β G1 H1 σ env → b ∉ env.filterMap ownA → SlsOk K β G2 H2 σ env := by
          intro σ env s
          induction s with
          | nil => intro _; exact .nil
          | @cons o s σ env x r ih =>
            intro m
            rw [List.filterMap_cons] at m
            cases s with
            | un => exact .cons trivial (ih m)
            | val v d => exact .cons ⟨x.1, x.2.up t2.gg⟩ (ih m)
            | own c es =>
              have m' : b ∉ c :: env.filterMap ownA := m
              obtain ⟨y1, y2, y3, zs, y4, y5⟩ := x
              have hne : c ≠ b := fun z => m' (by rw [← z]; exact List.mem_cons_self)
              exact .cons ⟨y1, y2, t2.ow c y3 (by rw [y4]; exact (fun e => nomatch e)), zs, t2.hh c _ (fun z => hne (List.mem_singleton.mp z)) y4, y5.up t2.gg⟩ (ih fun z => m' (List.mem_cons_of_mem _ z))
            | odi c es =>
              have m' : b ∉ c :: env.filterMap ownA := m
              obtain ⟨y1, y2, y3, zs, y4, y5⟩ := x
              have hne : c ≠ b := fun z => m' (by rw [← z]; exact List.mem_cons_self)
              exact .cons ⟨y1, y2, t2.ow c y3 (by rw [y4]; exact (fun e => nomatch e)), zs, t2.hh c _ (fun z => hne (List.mem_singleton.mp z)) y4, y5.up t2.gg⟩ (ih fun z => m' (List.mem_cons_of_mem _ z))
            | obj c es =>
              have m' : b ∉ c :: env.filterMap ownA := m
              obtain ⟨y1, y2, y3, zs, y4, y5⟩ := x
              have hne : c ≠ b := fun z => m' (by rw [← z]; exact List.mem_cons_self)
              exact .cons ⟨y1, y2, t2.ow c y3 (by rw [y4]; exact (fun e => nomatch e)), zs, t2.hh c _ (fun z => hne (List.mem_singleton.mp z)) y4, y5.up t2.gg⟩ (ih fun z => m' (List.mem_cons_of_mem _ z))
        intro σ env i s
        induction s generalizing i with
        | nil => intro e; simp at e
        | @cons o s σ env x r ih =>
          intro e nd
          cases i with
          | zero =>
            simp at e
            subst e
            obtain ⟨y1, y2, y3, zs, y4, y5⟩ := x
            exact .cons ⟨y1, y2, e2, xs', e1, dx⟩ (other r (List.nodup_cons.mp (show (b :: env.filterMap ownA).Nodup from nd)).1)
          | succ i =>
            have e' : env[i]? = some (.own b bs) := by simpa using e
            have hm' : b ∈ env.filterMap ownA := List.mem_filterMap.mpr ⟨_, List.mem_of_getElem? e', rfl⟩
            rw [List.filterMap_cons] at nd
            cases s with
            | un => exact .cons trivial (ih e' nd)
            | val v d => exact .cons ⟨x.1, x.2.up t2.gg⟩ (ih e' nd)
            | own c es =>
              have nd' : (c :: env.filterMap ownA).Nodup := nd
              have hne : c ≠ b := fun z => (List.nodup_cons.mp nd').1 (by rw [z]; exact hm')
              obtain ⟨y1, y2, y3, zs, y4, y5⟩ := x
              exact .cons ⟨y1, y2, t2.ow c y3 (by rw [y4]; exact (fun e => nomatch e)), zs, t2.hh c _ (fun z => hne (List.mem_singleton.mp z)) y4, y5.up t2.gg⟩ (ih e' (List.nodup_cons.mp nd').2)
            | odi c es =>
              have nd' : (c :: env.filterMap ownA).Nodup := nd
              have hne : c ≠ b := fun z => (List.nodup_cons.mp nd').1 (by rw [z]; exact hm')
              obtain ⟨y1, y2, y3, zs, y4, y5⟩ := x
              exact .cons ⟨y1, y2, t2.ow c y3 (by rw [y4]; exact (fun e => nomatch e)), zs, t2.hh c _ (fun z => hne (List.mem_singleton.mp z)) y4, y5.up t2.gg⟩ (ih e' (List.nodup_cons.mp nd').2)
            | obj c es =>
              have nd' : (c :: env.filterMap ownA).Nodup := nd
              have hne : c ≠ b := fun z => (List.nodup_cons.mp nd').1 (by rw [z]; exact hm')
              obtain ⟨y1, y2, y3, zs, y4, y5⟩ := x
              exact .cons ⟨y1, y2, t2.ow c y3 (by rw [y4]; exact (fun e => nomatch e)), zs, t2.hh c _ (fun z => hne (List.mem_singleton.mp z)) y4, y5.up t2.gg⟩ (ih e' (List.nodup_cons.mp nd').2)
      exact key g1.sl hi g.nd
  exact q v d _ G2 H2 g2 t3 (nd_own hi) dv ⟨pd, bs', hbx, rfl⟩
/-- a def with a box: its entry and its end -/
theorem good_box {G H : Hp} (e : Ex G H) {b : Addr} {xs : List V} {bs : List D} {ws : List V} {ds : List D} (hG : G b = none) (hH : H b = some (.lst xs)) (hx : DatL K G xs bs) (h : DatL K G ws ds) (N : List Str) :
    Good K ⟨G, H, some b⟩ (start N (.ref b :: ws)) (.own b bs :: (List.zipWith Sl.val ws ds ++ List.replicate (N.length - (ws.length + 1)) Sl.un)) G H := by
  refine ⟨.refl _, fun _ _ _ e => e, e, fun _ h _ => h, fun a h => ?_, .cons (s := .own b bs) ⟨rfl, .inr rfl, hG, xs, hH, hx⟩ ((SlsOk.vals h).app (.uns _)), ?_⟩
  · obtain rfl : b = a := Option.some.inj h
    rw [hH]; exact (fun e => nomatch e)
  · show (b :: _).Nodup
    rw [List.filterMap_append, own_vals, own_uns]
    simp
theorem EX.finB {G H : Hp} {Q : VK} {b : Addr} {n k : Nat} {Pd : D → Prop} {t : TS} {σ : Sg} {bs0 : List D} (hi : env[0]? = some (.own b bs0)) (g : Good K ⟨G, H, some b⟩ σ env G H)
    (q : ∀ v d G' H' xs' bs', Pd d → StpE [b] G H G' H' → H' b = some (.lst xs') → G' b = none → DatL K G' xs' bs' → BoxD (n + k) bs' → Dat K G' v d → Q v H')
    (h : EX K ⟨G, H, some b⟩ W t env { rt := fun _ d e => Pd d ∧ ∃ bs, BoxD (n + k) bs ∧ e[0]? = some (.own b bs) }) :
    t { nx := fun _ H' => Q .non H', rt := Q } σ H := by
  refine h σ G H g _ ⟨fun _ _ _ _ _ _ n => False.elim n, fun σ' env' G' H' v d g' e dv p => ?_, fun _ _ _ _ _ _ n => False.elim n, fun _ _ _ _ _ _ n => False.elim n⟩ fun _ _ _ _ _ _ _ _ _ _ _ _ n => False.elim n
  obtain ⟨pd, bs, hb, e0⟩ := p
  obtain ⟨h1, h2, h3, xs, h4, h5⟩ := g'.own e0
  exact q v d G' H' xs bs pd ⟨g'.gg, g'.gh, fun a o hx ho => g'.hh a o (fun z => hx (by rw [Option.some.inj z]; exact List.mem_singleton.mpr rfl)) ho, fun a h5 h6 => g'.ow a h5 h6⟩ h4 h3 h5 hb dv
end
end DL

set_option Elab.async false
set_option linter.all false
set_option maxRecDepth 100000
set_option maxHeartbeats 2000000
namespace DL
open PySem PySem.Spec PyProof.Rows L2
/-- data without the mark of its value -/
def D.top : D → D
  | .idn _ d => D.top d
  | d => d
theorem Dat.top {K : PySem.W.Frag} {G : Hp} : ∀ {d : D} {v : V}, Dat K G v d → Dat K G v d.top
  | .non, _, h => h | .bl _, _, h => h | .int _, _, h => h | .str _, _, h => h | .tup _, _, h => h | .lst _, _, h => h | .dct _, _, h => h | .op _, _, h => h | .rng _ _, _, h => h | .exc _, _, h => h | .set _ _ _, _, h => h
  | .idn _ d, _, h => by cases h with | idn a => exact Dat.top (d := d) a
theorem top_no : ∀ {d : D} (v : V) (x : D), d.top ≠ .idn v x
  | .non, _, _, h => by cases h | .bl _, _, _, h => by cases h | .int _, _, _, h => by cases h | .str _, _, _, h => by cases h | .tup _, _, _, h => by cases h | .lst _, _, _, h => by cases h | .dct _, _, _, h => by cases h | .op _, _, _, h => by cases h | .rng _ _, _, _, h => by cases h | .exc _, _, _, h => by cases h | .set _ _ _, _, _, h => by cases h
  | .idn _ d, v, x, h => top_no (d := d) v x h
theorem tyD_top : ∀ {d : D}, tyD d.top = tyD d
  | .non => rfl | .bl _ => rfl | .int _ => rfl | .str _ => rfl | .tup _ => rfl | .lst _ => rfl | .dct _ => rfl | .op _ => rfl | .rng _ _ => rfl | .exc _ => rfl | .set _ _ _ => rfl
  | .idn _ d => tyD_top (d := d)
theorem Dat.idnV {K : PySem.W.Frag} {G : Hp} {u v : V} {d : D} (h : Dat K G u (.idn v d)) : u = v ∧ Dat K G v d := by cases h with | idn a => exact ⟨rfl, a⟩
theorem Dat.strip {K : PySem.W.Frag} {G : Hp} {u v : V} {d : D} (h : Dat K G u (.idn v d)) : Dat K G u d := by cases h with | idn a => exact a
theorem sz (n : Nat) (h : n ≤ 16777216 := by decide) : n ≤ sizeLine := by rw [sizeLine_eq]; exact h
section
variable {K : PySem.W.Frag} {β : Bas} {env : Env'} {ta tb te tc : TE} {tt tu : TT} {x y z d : D} {v w : V} {P : Post} {W : WX} {ts tr : TS}
theorem ev_up {d' : D} (h : EV K β te env d) (f : ∀ G v, Dat K G v d → Dat K G v d') : EV K β te env d' := fun σ G H g Q q => h σ G H g Q fun v G' H' t dv => q v G' H' t (f _ _ dv)
theorem ev_top (h : EV K β te env d) : EV K β te env d.top := ev_up h fun _ _ => Dat.top
theorem ev_tp (h : EV K β te env d) (e : d.top = x) : EV K β te env x := e ▸ ev_top h
theorem evv_idn (h : EV K β te env (.idn v d)) : EVv K β te env v d := fun σ G H g Q q => h σ G H g _ fun u G' H' t du => by
  obtain ⟨rfl, dv⟩ := du.idnV
  exact q G' H' t dv
theorem ev_idn (h : EVv K β te env v d) : EV K β te env (.idn v d) := fun σ G H g Q q => h σ G H g _ fun G' H' t dv => q v G' H' t (.idn dv)
theorem ev_strip (h : EV K β te env (.idn v d)) : EV K β te env d := fun σ G H g Q q => h σ G H g _ fun u G' H' t du => q u G' H' t du.strip
theorem evv_as (h : EVv K β te env v d) : EVv K β te env v (.idn v d) := fun σ G H g Q q => h σ G H g _ fun G' H' t dv => q G' H' t (.idn dv)
theorem evv_var2 {i : Nat} (h : env[i]? = some (.val w (.idn v d))) : EVv K β (tVar i) env v (.idn v d) := evv_as (evv_idn (ev_var h))
/-- [e for j in range(n)] -/
theorem ev_lcR {tn : TE} {n : Nat} {j : Nat} {vs : List Nat} {F : Nat → D} (hn : EV K β tn env (.int n)) (hl : n < 16777216) (hj : j ∈ vs)
    (hs : ∀ (i : Nat) v, i < n → EV K β te ((wipeE env vs).set j (.val v (.int i))) (F i)) : EV K β (tLc (iRng1 (tCons tn tNil)) (gName j) tYes te vs) env (.lst ((List.range n).map F)) := by
  have h := ev_lcA (K := K) (β := β) (te := te) (F := F) (ei_rng1 (ea_cons hn ea_nil) (by omega) (by omega)) (by rw [rgD_length, sizeLine_eq]; omega) hj (fun i v d hd => by
    have hi : i < n := by
      have := (List.getElem?_eq_some_iff.mp hd).1
      rw [rgD_length] at this
      omega
    have e : d = .int (i : Nat) := by
      have := rgD_get (lo := 0) (n := (n : Int).toNat) (i := i) (by omega)
      rw [this] at hd
      rw [← Option.some.inj hd, Int.zero_add]
    rw [e]
    exact hs i v hi)
  rw [rgD_length] at h
  exact h
theorem ev_lcRf {tn : TE} {n : Nat} {j : Nat} {vs : List Nat} {f : Nat → Bool} {F : Nat → D} (hn : EV K β tn env (.int n)) (hl : n < 16777216) (hj : j ∈ vs)
    (hs : ∀ (i : Nat) v, i < n → EVT K β tt ((wipeE env vs).set j (.val v (.int i))) (f i) ∧ (f i = true → EV K β te ((wipeE env vs).set j (.val v (.int i))) (F i))) : EV K β (tLc (iRng1 (tCons tn tNil)) (gName j) tt te vs) env (.lst (keep f F n)) := by
  have h := ev_lcN (K := K) (β := β) (te := te) (tt := tt) (F := F) (f := f) (ei_rng1 (ea_cons hn ea_nil) (by omega) (by omega)) (by rw [rgD_length, sizeLine_eq]; omega) hj (fun i v d hd => by
    have hi : i < n := by
      have := (List.getElem?_eq_some_iff.mp hd).1
      rw [rgD_length] at this
      omega
    have e : d = .int (i : Nat) := by
      have := rgD_get (lo := 0) (n := (n : Int).toNat) (i := i) (by omega)
      rw [this] at hd
      rw [← Option.some.inj hd, Int.zero_add]
    rw [e]
    exact hs i v hi)
  rw [rgD_length] at h
  exact h
end
/-- tables as data -/
def rowD (n : Nat) (f : Nat → Nat) : D := .tup ((List.range n).map fun y => .int (f y : Nat))
def tblD (n : Nat) (f : Nat → Nat → Nat) : D := .tup ((List.range n).map fun x => rowD n (f x))
theorem tblD_congr {n : Nat} {f g : Nat → Nat → Nat} (h : ∀ x y, x < n → y < n → f x y = g x y) : tblD n f = tblD n g := by
  unfold tblD rowD
  congr 1
  refine List.map_congr_left fun x hx => ?_
  congr 1
  refine List.map_congr_left fun y hy => ?_
  rw [h x y (List.mem_range.mp hx) (List.mem_range.mp hy)]
theorem rep_map {α : Type} (a : α) : ∀ n : Nat, (List.replicate n [a]).flatten = (List.range n).map fun _ => a
  | 0 => rfl
  | n + 1 => by
    rw [List.replicate_succ', List.range_succ, List.flatten_append, List.map_append, rep_map a n]
    rfl
theorem map_tbl {n : Nat} {f : Nat → Nat → Nat} {F : Nat → D} (h : ∀ x, x < n → F x = rowD n (f x)) : D.tup ((List.range n).map F) = tblD n f := by
  unfold tblD
  congr 1
  exact List.map_congr_left fun x hx => h x (List.mem_range.mp hx)
theorem map_row {n : Nat} {f : Nat → Nat} {F : Nat → D} (h : ∀ x, x < n → F x = .int (f x : Nat)) : D.tup ((List.range n).map F) = rowD n f := by
  unfold rowD
  congr 1
  exact List.map_congr_left fun x hx => h x (List.mem_range.mp hx)
/-- a number between low and high, and no bool -/
def inRg (x : D) (l h : Int) : Bool := match x.top with
  | .int i => decide (l ≤ i) && decide (i ≤ h)
  | _ => false
theorem inRg_iff {x : D} {l h : Int} (e : inRg x l h = true) : ∃ i : Int, x.top = .int i ∧ l ≤ i ∧ i ≤ h := by
  unfold inRg at e
  cases q : x.top with
  | int i =>
    rw [q] at e
    obtain ⟨a, b⟩ := Bool.and_eq_true_iff.mp e
    exact ⟨i, rfl, of_decide_eq_true a, of_decide_eq_true b⟩
  | _ => rw [q] at e; cases e
end DL

set_option Elab.async false
set_option linter.all false
set_option maxRecDepth 100000
set_option maxHeartbeats 2000000
namespace DL
open PySem PySem.Spec PyProof.Rows L2
section
variable {K : PySem.W.Frag} {β : Bas} {env : Env'} {ta tb te tc : TE} {tt tu : TT} {x y z d : D} {v w : V} {P : Post} {W : WX} {ts tr : TS}
theorem op_powI {i j : Int} (h : CPow i j) : OpD K (rI CPow fun i j => .int (i ^ j.toNat)) (.int i) (.int j) (.int (i ^ j.toNat)) := op_IC (g' := fun i j => .int (i ^ j.toNat)) (fun _ _ _ => .int _) h
/-- == [] -/
theorem Dp.nil {H : Hp} {a : Addr} (h : H a = some (.lst [])) : Dp K H (.ref a) (.list []) := .lst (.inl (.inl h)) .nil
theorem op_eqNil : OpD K (rEqD K) (.lst []) (.lst []) (.bl true) := fun G H v1 v2 e d1 d2 Q q => by
  cases d1 with | lst a1 b1 =>
  cases d2 with | lst a2 b2 =>
  cases b1; cases b2
  exact ⟨_, _, Dp.nil (e _ _ a1), Dp.nil (e _ _ a2), rfl, rfl, q _ G H (.refl e) (.bl _)⟩
theorem op_neNil : OpD K (rNeD K) (.lst []) (.lst []) (.bl false) := fun G H v1 v2 e d1 d2 Q q => by
  cases d1 with | lst a1 b1 =>
  cases d2 with | lst a2 b2 =>
  cases b1; cases b2
  exact ⟨_, _, Dp.nil (e _ _ a1), Dp.nil (e _ _ a2), rfl, rfl, q _ G H (.refl e) (.bl _)⟩
/-- a call with a promise of its own kind, the arguments' values known -/
theorem ev_callR {sp : Sp} {ta : TA} {vs : List V} {ds : List D} {E : XK} (he : EVAv K β ta env vs ds)
    (h : ∀ σ G H, Good K β σ env G H → DatL K G vs ds → ∀ Q : VK, (∀ v G' H', Stp G H G' H' → Dat K G' v d → Q v H') → sp vs H Q E) : EV K β (tCall sp [] E ta) env d := fun σ G H g Q q =>
  he σ G H g _ fun G1 H1 t1 d1 => by
    show sp (vs ++ []) H1 Q E
    rw [List.append_nil]
    exact h σ G1 H1 (g.up t1) d1 Q fun v G2 H2 t2 dv => q v G2 H2 (t1.trans t2) dv
/-- a, b = .. -/
theorem ex_asgG {g : TG} {Pg : Env' → Prop} (he : EV K β te env d) (hg : ∀ v, EG K β g env v d Pg) (k : ∀ e, Pg e → P.nx e) : EX K β W (tAsg te g) env P := fun σ G H gd Dn c x =>
  he σ G H gd _ fun v G1 H1 t1 d1 => hg v σ G1 H1 (gd.up t1) d1 _ fun σ' env' g' p => c.nx σ' env' G1 H1 g' t1.gg (k _ p)
theorem ex_let2 {i j : Nat} {ta : TA} {d1 d2 : D} (he : EVA K β ta env [d1, d2]) (k : ∀ v1 v2, EX K β W tr ((env.set i (.val v1 d1)).set j (.val v2 d2)) P) : EX K β W (tSeq (tAsg (tTup ta) (gTup K 2 (gCons (gName i) (gCons (gName j) gNil)))) tr) env P :=
  ex_seq (N := fun e => ∃ v1 v2, e = (env.set i (.val v1 d1)).set j (.val v2 d2)) (ex_asgG (ev_tup he (sz 2)) (fun v => eg_two) fun e ⟨v1, v2, h⟩ => ⟨v1, v2, h⟩) fun e ⟨v1, v2, h⟩ => h ▸ k v1 v2
/-! ### a def that hands back a new list, the caller's own -/
variable (K) in
def spN (R : List D → List D → Prop) : Sp := fun vs H Q _ => ∃ G ds es, Ex G H ∧ DatL K G vs ds ∧ R ds es ∧
  ∀ p xs G' H', Stp G H G' H' → H p = none → G' p = none → H' p = some (.lst xs) → DatL K G' xs es → Q (.ref p) H'
theorem Good.takeOwn {σ : Sg} {G H G' H' : Hp} (g : Good K β σ env G H) (t : Stp G H G' H') {p : Addr} {xs : List V} {es : List D} (i : Nat) (hn : H p = none) (hG : G' p = none) (hp : H' p = some (.lst xs)) (dx : DatL K G' xs es) :
    Good K β (σ.set i (some (V.ref p))) (env.set i (.own p es)) G' H' := by
  have t2 : Stp G H G' (fun b => if b = p then none else H' b) := ⟨t.gg, fun a o e => by
      have : a ≠ p := fun z => by rw [z, hn] at e; cases e
      show (if a = p then none else H' a) = some o
      rw [if_neg this]; exact t.hh a o e, fun a o e => by
      have : a ≠ p := fun z => by rw [z, hG] at e; cases e
      show (if a = p then none else H' a) = some o
      rw [if_neg this]; exact t.gh a o e, t.ow⟩
  have g2 := (g.up t2).newOwn (a := p) (ds := es) (xs := xs) i (if_pos rfl) dx
  have e : upd (fun b => if b = p then none else H' b) p (.lst xs) = H' := by
    funext b
    by_cases hb : b = p
    · rw [hb, upd_same, hp]
    · rw [upd_ne hb]; exact if_neg hb
  rw [e] at g2
  exact g2
theorem ex_newCall {i : Nat} {ta : TA} {R : List D → List D → Prop} {ds es : List D} {E : XK} (he : EVA K β ta env ds) (h : R ds es) (k : ∀ a, P.nx (env.set i (.own a es))) : EX K β W (tAsg (tCall (spN K R) [] E ta) (gName i)) env P := fun σ G H g Dn c x =>
  he σ G H g _ fun vs G1 H1 t1 d1 => ⟨G1, ds, es, t1.gh, by rw [List.append_nil]; exact d1, h, fun p xs G2 H2 t2 hn hG hp dx =>
    c.nx _ _ G2 H2 ((g.up t1).takeOwn t2 i hn hG hp dx) (t1.gg.trans t2.gg) (k p)⟩
theorem ex_letNew {i : Nat} {ta : TA} {R : List D → List D → Prop} {ds es : List D} {E : XK} (he : EVA K β ta env ds) (h : R ds es) (k : ∀ a, EX K β W tr (env.set i (.own a es)) P) : EX K β W (tSeq (tAsg (tCall (spN K R) [] E ta) (gName i)) tr) env P :=
  ex_seq (N := fun e => ∃ a, e = env.set i (.own a es)) (ex_newCall he h fun a => ⟨a, rfl⟩) fun e ⟨a, h⟩ => h ▸ k a
/-- return [..] of such a def -/
theorem ret_new {G H : Hp} {σ : Sg} {ta : TA} {es : List D} {Q : VK} {Dn : Ends} (g : Good K ⟨G, H, none⟩ σ env G H) (he : EVA K ⟨G, H, none⟩ ta env es) (hl : es.length ≤ sizeLine) (hD : Dn.rt = Q)
    (q : ∀ p xs G' H', Stp G H G' H' → H p = none → G' p = none → H' p = some (.lst xs) → DatL K G' xs es → Q (.ref p) H') : tRet (tLst ta) Dn σ H := by
  subst hD
  exact he σ G H g _ fun vs G1 H1 t1 d1 => ⟨by rw [d1.length]; exact hl, fun p hp => by
    have hH : H p = none := by
      cases z : H p with
      | none => rfl
      | some o => rw [t1.hh p o z] at hp; cases hp
    exact q p vs G1 _ (t1.side hH (t1.gh.back hp)) hH (t1.gh.back hp) upd_same d1⟩
/-- one's own list becomes data: it is written no more -/
theorem Good.commit {σ : Sg} {G H : Hp} (g : Good K β σ env G H) {i : Nat} {a : Addr} {ds : List D} (hi : env[i]? = some (.own a ds)) (hb : β.bx ≠ some a) : ∃ xs, H a = some (.lst xs) ∧ DatL K G xs ds ∧ G a = none ∧ Good K β σ (env.set i (.val (.ref a) (.lst ds))) (upd G a (.lst xs)) H := by
  obtain ⟨h1, h2, h3, xs, h4, h5⟩ := g.own hi
  have h6 : β.H a = none := h2.resolve_right hb
  refine ⟨xs, h4, h5, h3, g.gg.trans (.new h3), g.hh, fun b u e => ?_, fun b e1 e2 => ?_, g.bh, ?_, (nd_set rfl i g.nd).1⟩
  · by_cases hb : b = a
    · subst hb; rw [upd_same] at e; rw [h4]; exact e
    · rw [upd_ne hb] at e; exact g.gh b u e
  · have hne : b ≠ a := fun z => e2 (z ▸ h6)
    rw [upd_ne hne]; exact g.ow b e1 e2
  · have key : ∀ {σ : Sg} {env : Env'} {i : Nat}, SlsOk K β G H σ env → env[i]? = some (.own a ds) → (env.filterMap ownA).Nodup → SlsOk K β (upd G a (.lst xs)) H σ (env.set i (.val (.ref a) (.lst ds))) := by
      have other : ∀ {σ : Sg} {env : Env'}, SlsOk K β G H σ env → a ∉ env.filterMap ownA → SlsOk K β (upd G a (.lst xs)) H σ env := by
        intro σ env s
        induction s with
        | nil => intro _; exact .nil
        | @cons o s σ env x r ih =>
          intro m
          rw [List.filterMap_cons] at m
          cases s with
          | un => exact .cons trivial (ih m)
          | val v d => exact .cons ⟨x.1, x.2.up (.new h3)⟩ (ih m)
          | own c es =>
            have m' : a ∉ c :: env.filterMap ownA := m
            obtain ⟨y1, y2, y3, zs, y4, y5⟩ := x
            have hne : c ≠ a := fun z => m' (by rw [← z]; exact List.mem_cons_self)
            exact .cons ⟨y1, y2, by rw [upd_ne hne]; exact y3, zs, y4, y5.up (.new h3)⟩ (ih fun z => m' (List.mem_cons_of_mem _ z))
          | odi c es =>
            have m' : a ∉ c :: env.filterMap ownA := m
            obtain ⟨y1, y2, y3, zs, y4, y5⟩ := x
            have hne : c ≠ a := fun z => m' (by rw [← z]; exact List.mem_cons_self)
            exact .cons ⟨y1, y2, by rw [upd_ne hne]; exact y3, zs, y4, y5.up (.new h3)⟩ (ih fun z => m' (List.mem_cons_of_mem _ z))
          | obj c es =>
            have m' : a ∉ c :: env.filterMap ownA := m
            obtain ⟨y1, y2, y3, zs, y4, y5⟩ := x
            have hne : c ≠ a := fun z => m' (by rw [← z]; exact List.mem_cons_self)
            exact .cons ⟨y1, y2, by rw [upd_ne hne]; exact y3, zs, y4, y5.up (.new h3)⟩ (ih fun z => m' (List.mem_cons_of_mem _ z))
      intro σ env i s
      induction s generalizing i with
      | nil => intro e; simp at e
      | @cons o s σ env x r ih =>
        intro e nd
        cases i with
        | zero =>
          simp at e
          subst e
          exact .cons ⟨x.1, .lst upd_same (h5.up (.new h3))⟩ (other r (List.nodup_cons.mp (show (a :: env.filterMap ownA).Nodup from nd)).1)
        | succ i =>
          have e' : env[i]? = some (.own a ds) := by simpa using e
          have hm' : a ∈ env.filterMap ownA := List.mem_filterMap.mpr ⟨_, List.mem_of_getElem? e', rfl⟩
          rw [List.filterMap_cons] at nd
          cases s with
          | un => exact .cons trivial (ih e' nd)
          | val v d => exact .cons ⟨x.1, x.2.up (.new h3)⟩ (ih e' nd)
          | own c es =>
            have nd' : (c :: env.filterMap ownA).Nodup := nd
            have hne : c ≠ a := fun z => (List.nodup_cons.mp nd').1 (by rw [z]; exact hm')
            obtain ⟨y1, y2, y3, zs, y4, y5⟩ := x
            exact .cons ⟨y1, y2, by rw [upd_ne hne]; exact y3, zs, y4, y5.up (.new h3)⟩ (ih e' (List.nodup_cons.mp nd').2)
          | odi c es =>
            have nd' : (c :: env.filterMap ownA).Nodup := nd
            have hne : c ≠ a := fun z => (List.nodup_cons.mp nd').1 (by rw [z]; exact hm')
            obtain ⟨y1, y2, y3, zs, y4, y5⟩ := x
            exact .cons ⟨y1, y2, by rw [upd_ne hne]; exact y3, zs, y4, y5.up (.new h3)⟩ (ih e' (List.nodup_cons.mp nd').2)
          | obj c es =>
            have nd' : (c :: env.filterMap ownA).Nodup := nd
            have hne : c ≠ a := fun z => (List.nodup_cons.mp nd').1 (by rw [z]; exact hm')
            obtain ⟨y1, y2, y3, zs, y4, y5⟩ := x
            exact .cons ⟨y1, y2, by rw [upd_ne hne]; exact y3, zs, y4, y5.up (.new h3)⟩ (ih e' (List.nodup_cons.mp nd').2)
    exact key g.sl hi g.nd
/-- from here on one's own list is data -/
theorem ex_commit {i : Nat} {a : Addr} {ds : List D} (hi : env[i]? = some (.own a ds)) (hb : β.bx ≠ some a) (h : EX K β W ts (env.set i (.val (.ref a) (.lst ds))) P) : EX K β W ts env P := fun σ G H g Dn c x => by
  obtain ⟨xs, _, _, h3, g2⟩ := g.commit hi hb
  exact h σ _ H g2 Dn (c.up (.new h3)) (x.up (.new h3))
end
/-! ### a local name that holds a def which may raise -/
def tCallVS (i : Nat) (f : Addr) (sp : Sp) (E : Sg → XK) (t : TA) : TE := fun σ H Q => σ[i]? = some (some (.ref f)) ∧ t σ H fun vs H1 => sp vs H1 Q (E σ)
def tCallVK (i : Nat) (f : Addr) (sp : Sp) (gV : List V → List V → List V) (E : Sg → XK) (t : TA) : TE := fun σ H Q => σ[i]? = some (some (.ref f)) ∧ t σ H fun zs H1 => sp (gV [] zs) H1 Q (E σ)
section
variable {X : Cx} {CX : CXT} {k i : Nat} {f : Addr} {fd : FuncData} {ps ks : List Str} {sp : Sp} {E : Sg → XK} {x : Str} {e : Expr} {es : List Expr} {t : TA} {p pos : Pos} {kws : List Keyword} {g : List Value → List Value → List Value} {gV : List V → List V → List V}
theorem pe_callVS (F : FnOk X.prog X.w X.K X.mg X.base CX k f fd ps sp) (hr : Room k X.A) (hk : PySem.W.keepIn X.K (.ref f) = true) (hb : Binds X.K fd ps []) (hx : ∀ σ, PassesAt CX X σ (E σ)) (hN : X.N[i]? = some x) (hv : Vis X.env.scope x) (ha : PA X (e :: es) t)
    (hd : (x == ("__debug__" : Str)) = false := by decide) (hcd : (x == ("__classdict__" : Str)) = false := by decide)
    (he : starEach (e :: es) X.env = (false, eval e X.env) :: starEach es X.env := by rfl) (hpl : (backTo pos (starEach es X.env)).any (·.1) = false := by rfl) : PE X (.Call (.Name x p) (e :: es) [] pos) (tCallVS i f sp E t) := by
  refine ⟨fun pins s σ H Q I h => ?_⟩
  obtain ⟨hs, h⟩ := h
  refine wpAny_Call_Name_kw (thn ((pe_var (pos := p) (i := i) hN hv hd hcd).run pins s σ H (fun v H1 => v = .ref f ∧ H1 = H) I ⟨.ref f, hs, rfl, rfl⟩) fun u s1 ⟨v, H1, I1, r1, ev, eH⟩ => ?_)
  subst ev
  rw [eH] at I1
  cases r1
  refine PySem.W.callWith_K (h₀ := X.base) I.ok.mod.kin hk (thn (ha.run pos pins s1 σ H _ I1 h) fun us s2 ⟨vs, H2, I2, r, q⟩ => ⟨I2.kIn, ?_⟩) he hpl
  exact run_fnS F hr hb (hx σ) I2 r q
theorem pe_callVK (F : FnOk X.prog X.w X.K X.mg X.base CX k f fd ps sp) (hr : Room k X.A) (hk : PySem.W.keepIn X.K (.ref f) = true) (hb : KBinds X.K fd ps ks g gV) (hx : ∀ σ, PassesAt CX X σ (E σ)) (hN : X.N[i]? = some x) (hv : Vis X.env.scope x)
    (hkw : PK X kws t) (hall : (backToKw pos (keywordEach kws X.env)).all (·.1.isSome) = true := by rfl) (hks : (backToKw pos (keywordEach kws X.env)).filterMap (·.1) = ks := by rfl)
    (hd : (x == ("__debug__" : Str)) = false := by decide) (hcd : (x == ("__classdict__" : Str)) = false := by decide)
    (hpl : ((backTo pos (starEach [] X.env)).any (·.1) || (backToKw pos (keywordEach kws X.env)).any (·.1.isNone)) = false := by rfl) : PE X (.Call (.Name x p) [] kws pos) (tCallVK i f sp gV E t) := by
  refine ⟨fun pins s σ H Q I h => ?_⟩
  obtain ⟨hs, h⟩ := h
  refine wpAny_Call_Name_kw (thn ((pe_var (pos := p) (i := i) hN hv hd hcd).run pins s σ H (fun v H1 => v = .ref f ∧ H1 = H) I ⟨.ref f, hs, rfl, rfl⟩) fun u s1 ⟨v, H1, I1, r1, ev, eH⟩ => ?_)
  subst ev
  rw [eH] at I1
  cases r1
  refine PySem.W.callWith_KW0 (h₀ := X.base) I.ok.mod.kin hk hall ?_ hpl
  refine thn (hkw.run pos pins s1 σ H _ I1 h) fun ws s2 ⟨zs, H2, I2, rz, q2⟩ => ⟨I2.kIn, ?_⟩
  rw [hks]
  exact run_fnkS F hr hb (hx σ) I2 .nil rz q2
end
end DL

set_option Elab.async false
set_option linter.all false
set_option maxRecDepth 100000
set_option maxHeartbeats 2000000
namespace DL
open PySem PySem.Spec PyProof.Rows L2
section
variable {K : PySem.W.Frag} {β : Bas} {env : Env'} {ta tb te tc : TE} {tt tu : TT} {x y z d : D} {v w : V} {P : Post} {W : WX} {ts tr : TS}
/-- for j in range(n) -/
theorem ex_forR {tn : TE} {n j : Nat} (I : Nat → Env' → Prop) (hn : EV K β tn env (.int n)) (hl : n < 16777216) (h0 : I 0 env)
    (hs : ∀ i env' v, i < n → I i env' → EX K β W ts (env'.set j (.val v (.int (i : Nat)))) { P with nx := I (i + 1), ct := I (i + 1), bk := P.nx })
    (hd : ∀ env', I n env' → P.nx env') : EX K β W (tFor (iRng1 (tCons tn tNil)) (gName j) ts) env P := by
  refine ex_forN (ds := rgD 0 (n : Int).toNat) I (ei_rng1 (ea_cons hn ea_nil) (by omega) (by omega)) h0 (fun i env' v d hd hi => ?_) fun env' h => hd env' (by rw [rgD_length] at h; exact h)
  have hlt : i < n := by
    have := (List.getElem?_eq_some_iff.mp hd).1
    rw [rgD_length] at this
    omega
  have e : d = .int (i : Nat) := by
    have := rgD_get (lo := 0) (n := (n : Int).toNat) (i := i) (by omega)
    rw [this] at hd
    rw [← Option.some.inj hd, Int.zero_add]
  rw [e]
  exact hs i env' v hlt hi
/-- for .., then the rest -/
theorem ex_forRS {tn : TE} {n j : Nat} (I : Nat → Env' → Prop) (hn : EV K β tn env (.int n)) (hl : n < 16777216) (h0 : I 0 env)
    (hs : ∀ i env' v, i < n → I i env' → EX K β W ts (env'.set j (.val v (.int (i : Nat)))) { P with nx := I (i + 1), ct := I (i + 1), bk := fun _ => False })
    (hd : ∀ env', I n env' → EX K β W tr env' P) : EX K β W (tSeq (tFor (iRng1 (tCons tn tNil)) (gName j) ts) tr) env P :=
  ex_seq (N := I n) (ex_forR I hn hl h0 (fun i env' v hlt hi => (hs i env' v hlt hi).imp (fun _ h => h) (fun _ _ _ h => h) (fun _ h => h.elim) (fun _ h => h) fun _ _ _ _ h => h) fun env' h => h) hd
theorem ex_forNS {wi : TI} {j : Nat} {ds : List D} (I : Nat → Env' → Prop) (hI : EVI K β wi env ds) (h0 : I 0 env)
    (hs : ∀ i env' v d, ds[i]? = some d → I i env' → EX K β W ts (env'.set j (.val v d)) { P with nx := I (i + 1), ct := I (i + 1), bk := fun _ => False })
    (hd : ∀ env', I ds.length env' → EX K β W tr env' P) : EX K β W (tSeq (tFor wi (gName j) ts) tr) env P :=
  ex_seq (N := I ds.length) (ex_forN I hI h0 (fun i env' v d hlt hi => (hs i env' v d hlt hi).imp (fun _ h => h) (fun _ _ _ h => h) (fun _ h => h.elim) (fun _ h => h) fun _ _ _ _ h => h) fun env' h => h) hd
/-- a, b = x, y (both plain names) -/
theorem ex_par {i j : Nat} {ta : TA} {d1 d2 : D} (he : EVA K β ta env [d1, d2]) (k : ∀ v1 v2, P.nx ((env.set i (.val v1 d1)).set j (.val v2 d2))) : EX K β W (tPar i j ta) env P := fun σ G H g Dn c x =>
  he σ G H g _ fun vs G1 H1 t1 dvs => by
    cases dvs with | cons a t => cases t with | cons b t =>
    cases t
    exact ⟨_, _, rfl, c.nx _ _ G1 H1 (((g.up t1).set i a).set j b) t1.gg (k _ _)⟩
theorem ex_parS {i j : Nat} {ta : TA} {d1 d2 : D} (he : EVA K β ta env [d1, d2]) (k : ∀ v1 v2, EX K β W tr ((env.set i (.val v1 d1)).set j (.val v2 d2)) P) : EX K β W (tSeq (tPar i j ta) tr) env P :=
  ex_seq (N := fun e => ∃ v1 v2, e = (env.set i (.val v1 d1)).set j (.val v2 d2)) (ex_par he fun v1 v2 => ⟨v1, v2, rfl⟩) fun e ⟨v1, v2, h⟩ => h ▸ k v1 v2
/-! tables -/
theorem ev_tbl {n a : Nat} {f : Nat → Nat → Nat} (h : EV K β ta env (tblD n f)) (hi : EV K β tb env (.int (a : Nat))) (hl : a < n) : EV K β (tOp (rIx K) ta tb) env (rowD n (f a)) :=
  ev_op h hi (op_ix (.inl rfl) (atI_natD (by rw [List.getElem?_map, List.getElem?_range hl]; rfl)))
theorem ev_row {n a : Nat} {f : Nat → Nat} (h : EV K β ta env (rowD n f)) (hi : EV K β tb env (.int (a : Nat))) (hl : a < n) : EV K β (tOp (rIx K) ta tb) env (.int (f a : Nat)) :=
  ev_op h hi (op_ix (.inl rfl) (atI_natD (by rw [List.getElem?_map, List.getElem?_range hl]; rfl)))
theorem cb_lenTbl {n : Nat} {f : Nat → Nat → Nat} : CbD K (rLen K) [tblD n f] (.int n) := by
  have h := cb_lenT (K := K) (ds := (List.range n).map fun x => rowD n (f x))
  rw [List.length_map, List.length_range] at h
  exact h
/-- list(x), dict(x) -/
theorem cb_listOf {ds : List D} : CbD K (rListOf K) [.lst ds] (.lst ds) := fun G H vs e dl Q q => by
  cases dl with | cons a t =>
  cases t
  cases a with
  | @lst p xs _ h1 h2 =>
  refine ⟨p, xs, rfl, .inl (.inl (.inl (e _ _ h1))), fun l hl => q _ (upd G l (.lst xs)) _ (.new e hl) (.lst upd_same (h2.up (.new (e.back hl))))⟩
theorem DatK.mono' {G G' : Hp} {ds : List (Key × D)} {vs : List (Key × V)} (e : Ex G G') (h : DatK K G vs ds) : DatK K G' vs ds := DatK.mono e ds vs h
def rDictOf : List V → Hp → VK → Prop := fun xs H Q => ∃ (a : Addr) (kvs : List (Key × V)), xs = [.ref a] ∧ Rd H a (.dK kvs) ∧ ∀ p, H p = none → Q (.ref p) (upd H p (.dK kvs))
theorem call_dictOf {X : Cx} : CallR X (.type "dict") rDictOf := call_dictD
theorem cb_dictOf {kds : List (Key × D)} : CbD K rDictOf [.dct kds] (.dct kds) := fun G H vs e dl Q q => by
  cases dl with | cons a t =>
  cases t
  cases a with
  | @dct p xs _ h1 h2 =>
  refine ⟨p, xs, rfl, .inl (e _ _ h1), fun l hl => q _ (upd G l (.dK xs)) _ (.new e hl) (.dct upd_same (h2.mono' (.new (e.back hl))))⟩
end
end DL

set_option Elab.async false
set_option linter.all false
set_option maxRecDepth 100000
set_option maxHeartbeats 2000000
namespace DL
open PySem PySem.Spec PyProof.Rows L2
section
variable {K : PySem.W.Frag} {β : Bas} {env : Env'} {ta tb te tc : TE} {tt tu : TT} {x y z d : D} {v w : V} {P : Post} {W : WX} {ts tr : TS} {f' : Str} {cls : Value}
/-! calls by keywords, calls of a local name; on the way that hands back and on the way that raises -/
theorem ev_callK {R : List D → D → Prop} {E' : List V → List D → Value → Str → V → Prop} {ta : TA} {ds ds' : List D} {gV : List V → List V → List V} {E : Sg → XK} (he : EVA K β ta env ds) (hg : ∀ G vs, DatL K G vs ds → DatL K G (gV [] vs) ds') (h : R ds' d) :
    EV K β (tCallK0 (spX K R E') gV E ta) env d := fun σ G H g Q q =>
  he σ G H g _ fun vs G1 H1 t1 d1 => ⟨G1, ds', t1.gh, hg _ _ d1, .inl ⟨d, h, fun v G2 H2 t2 d2 => q v G2 H2 (t1.trans t2) d2⟩⟩
theorem ev_callKD {R : List D → D → Prop} {ta : TA} {ds ds' : List D} {gV : List V → List V → List V} {E : Sg → XK} (he : EVA K β ta env ds) (hg : ∀ G vs, DatL K G vs ds → DatL K G (gV [] vs) ds') (h : R ds' d) :
    EV K β (tCallK0 (spD K R) gV E ta) env d := fun σ G H g Q q =>
  he σ G H g _ fun vs G1 H1 t1 d1 => ⟨G1, ds', d, t1.gh, hg _ _ d1, h, fun v G2 H2 t2 d2 => q v G2 H2 (t1.trans t2) d2⟩
theorem rs_callK {R : List D → D → Prop} {E' : List V → List D → Value → Str → V → Prop} {ta : TA} {ds ds' : List D} {vs vs' : List V} {gV : List V → List V → List V} (he : EVAv K β ta env vs ds) (hg : ∀ G, DatL K G vs ds → DatL K G vs' ds') (hv : gV [] vs = vs') (h : E' vs' ds' cls f' v) :
    Raises' K β W (tCallK0 (spX K R E') gV (WE W) ta) env cls f' v := fun σ G H g Q q =>
  he σ G H g _ fun G1 H1 t1 d1 => by
    show spX K R E' (gV [] vs) H1 Q (WE W σ)
    rw [hv]
    exact ⟨G1, ds', t1.gh, hg _ d1, .inr ⟨cls, f', v, h, fun G2 H2 dx t2 => q G2 H2 dx (t1.trans t2)⟩⟩
theorem slot_val {i : Nat} {σ : Sg} {G H : Hp} (g : Good K β σ env G H) (h : env[i]? = some (.val v d)) : σ[i]? = some (some v) := by
  obtain ⟨o, h1, rfl, _⟩ := g.sl.get h
  exact h1
theorem ev_callV {R : List D → D → Prop} {E' : List V → List D → Value → Str → V → Prop} {ta : TA} {ds : List D} {E : Sg → XK} {i : Nat} {f : Addr} {df : D} (hi : env[i]? = some (.val (.ref f) df)) (he : EVA K β ta env ds) (h : R ds d) : EV K β (tCallVS i f (spX K R E') E ta) env d := fun σ G H g Q q =>
  ⟨slot_val g hi, he σ G H g _ fun vs G1 H1 t1 d1 => ⟨G1, ds, t1.gh, d1, .inl ⟨d, h, fun v G2 H2 t2 d2 => q v G2 H2 (t1.trans t2) d2⟩⟩⟩
theorem rs_callV {R : List D → D → Prop} {E' : List V → List D → Value → Str → V → Prop} {ta : TA} {ds : List D} {vs : List V} {i : Nat} {f : Addr} {df : D} (hi : env[i]? = some (.val (.ref f) df)) (he : EVAv K β ta env vs ds) (h : E' vs ds cls f' v) : Raises' K β W (tCallVS i f (spX K R E') (WE W) ta) env cls f' v := fun σ G H g Q q =>
  ⟨slot_val g hi, he σ G H g _ fun G1 H1 t1 d1 => ⟨G1, ds, t1.gh, d1, .inr ⟨cls, f', v, h, fun G2 H2 dx t2 => q G2 H2 dx (t1.trans t2)⟩⟩⟩
theorem ev_callVK {R : List D → D → Prop} {E' : List V → List D → Value → Str → V → Prop} {ta : TA} {ds ds' : List D} {gV : List V → List V → List V} {E : Sg → XK} {i : Nat} {f : Addr} {df : D} (hi : env[i]? = some (.val (.ref f) df)) (he : EVA K β ta env ds) (hg : ∀ G vs, DatL K G vs ds → DatL K G (gV [] vs) ds') (h : R ds' d) :
    EV K β (tCallVK i f (spX K R E') gV E ta) env d := fun σ G H g Q q =>
  ⟨slot_val g hi, he σ G H g _ fun vs G1 H1 t1 d1 => ⟨G1, ds', t1.gh, hg _ _ d1, .inl ⟨d, h, fun v G2 H2 t2 d2 => q v G2 H2 (t1.trans t2) d2⟩⟩⟩
theorem rs_callVK {R : List D → D → Prop} {E' : List V → List D → Value → Str → V → Prop} {ta : TA} {ds ds' : List D} {vs vs' : List V} {gV : List V → List V → List V} {i : Nat} {f : Addr} {df : D} (hi : env[i]? = some (.val (.ref f) df)) (he : EVAv K β ta env vs ds) (hg : ∀ G, DatL K G vs ds → DatL K G vs' ds') (hv : gV [] vs = vs') (h : E' vs' ds' cls f' v) :
    Raises' K β W (tCallVK i f (spX K R E') gV (WE W) ta) env cls f' v := fun σ G H g Q q =>
  ⟨slot_val g hi, he σ G H g _ fun G1 H1 t1 d1 => by
    show spX K R E' (gV [] vs) H1 Q (WE W σ)
    rw [hv]
    exact ⟨G1, ds', t1.gh, hg _ d1, .inr ⟨cls, f', v, h, fun G2 H2 dx t2 => q G2 H2 dx (t1.trans t2)⟩⟩⟩
theorem rs_if {b : Bool} (h : EVT K β tt env b) (h1 : b = true → Raises' K β W ta env cls f' v) (h2 : b = false → Raises' K β W tb env cls f' v) : Raises' K β W (tIf tt ta tb) env cls f' v := fun σ G H g Q q => h σ G H g _ fun G1 H1 t1 => by
  cases b with
  | true => show ta σ H1 Q; exact h1 rfl σ G1 H1 (g.up t1) Q fun G2 H2 dx t2 => q G2 H2 dx (t1.trans t2)
  | false => show tb σ H1 Q; exact h2 rfl σ G1 H1 (g.up t1) Q fun G2 H2 dx t2 => q G2 H2 dx (t1.trans t2)
/-- [.., e that raises, ..] -/
def RaisesA (K : PySem.W.Frag) (β : Bas) (W : WX) (ta : TA) (env : Env') (cls : Value) (f : Str) (v : V) : Prop :=
  ∀ σ G H, Good K β σ env G H → ∀ Q : List V → Hp → Prop, (∀ G' H' dx, Stp G H G' H' → H' dx = some (.xd [(f, v)]) → G' dx = none → W cls (some dx) σ H') → ta σ H Q
theorem ra_here {tr : TA} (h : Raises' K β W te env cls f' v) : RaisesA K β W (tCons te tr) env cls f' v := fun σ G H g Q q => h σ G H g _ q
theorem ra_next {tr : TA} (he : EV K β te env d) (h : RaisesA K β W tr env cls f' v) : RaisesA K β W (tCons te tr) env cls f' v := fun σ G H g Q q =>
  he σ G H g _ fun u G1 H1 t1 _ => h σ G1 H1 (g.up t1) _ fun G2 H2 dx t2 => q G2 H2 dx (t1.trans t2)
theorem rs_lst {ta : TA} (h : RaisesA K β W ta env cls f' v) : Raises' K β W (tLst ta) env cls f' v := fun σ G H g Q q => h σ G H g _ q
theorem evv_op (h : EV K β te env (.op v)) : EVv K β te env v (.op v) := fun σ G H g Q q => h σ G H g _ fun u G' H' t du => by cases du; exact q G' H' t (.op v)
theorem ex_letV {i : Nat} (he : EVv K β te env v d) (h : EX K β W tr (env.set i (.val v d)) P) : EX K β W (tSeq (tAsg te (gName i)) tr) env P := ex_cons (ex_asgV he rfl) h
/-- x in [texts] -/
theorem DatL.strs {G : Hp} : ∀ {ws : List Str} {vs : List V}, DatL K G vs (ws.map D.str) → vs = ws.map V.str
  | [], _, h => by cases h; rfl
  | n :: ns, _, h => by
    cases h with
    | cons a t => cases a; rw [DatL.strs t]; rfl
theorem op_inS {w : Str} {ws : List Str} {b : Bool} (hb : inV (.str w) (ws.map V.str) = b) : OpD K (rIn K false) (.str w) (.lst (ws.map D.str)) (.bl b) := fun G H v1 v2 e d1 d2 Q q => by
  rw [d1.strV]
  cases d2 with
  | lst h1 h2 =>
  rw [h2.strs] at h1
  exact ⟨_, _, rfl, .inl (.inl (.inl (e _ _ h1))), rfl, by rw [List.all_map]; exact List.all_eq_true.mpr fun _ _ => rfl, by rw [if_neg Bool.false_ne_true, hb]; exact q _ G H (.refl e) (.bl _)⟩
/-- {texts: defs}[word] -/
theorem tPairs_cc : ∀ (l : List (Str × Addr)) (σ : Sg) (H : Hp) (Q : List (V × V) → Hp → Prop), Q (l.map fun p => (V.str p.1, V.ref p.2)) H → tPairs (l.map fun p => (tC (.str p.1), tC (.ref p.2))) σ H Q
  | [], _, _, _, h => h
  | p :: r, σ, H, Q, h => tPairs_cc r σ H (fun ps H3 => Q ((V.str p.1, V.ref p.2) :: ps) H3) h
theorem ev_door {l : List (Str × Addr)} {w : Str} {f : Addr} (hw : EV K β tb env (.str w)) (hl : l.length ≤ 15) (hf : valV (mergeK [] (l.map fun p => ((.inr p.1 : Key), V.ref p.2))) (.inr w) = some (.ref f)) :
    EV K β (tDGet (tDisp (l.map fun p => (tC (.str p.1), tC (.ref p.2)))) tb) env (.op (.ref f)) := fun σ G H g Q q p hp => by
  refine tPairs_cc l σ _ _ ⟨upd_same, l.map fun p => ((.inr p.1 : Key), V.ref p.2), by rw [List.map_map]; rfl, by rw [List.length_map]; exact hl, ?_⟩
  have e : upd (upd H p (.dK [])) p (.dK (mergeK [] (l.map fun p => ((.inr p.1 : Key), V.ref p.2)))) = upd H p (.dK (mergeK [] (l.map fun p => ((.inr p.1 : Key), V.ref p.2)))) := by
    funext b
    by_cases hb : b = p
    · rw [hb, upd_same, upd_same]
    · rw [upd_ne hb, upd_ne hb, upd_ne hb]
  rw [e]
  have t1 : Stp G H G (upd H p (.dK (mergeK [] (l.map fun p => ((.inr p.1 : Key), V.ref p.2))))) := (Stp.refl g.gh).side hp (g.gh.back hp)
  refine hw σ G _ (g.up t1) _ fun u G2 H2 t2 du => ?_
  obtain rfl := du.strV
  exact ⟨p, .ref f, rfl, .inl ⟨_, .inr w, .inl (t2.hh _ _ upd_same), rfl, hf.symm⟩, q _ G2 H2 (t1.trans t2) (.op _)⟩
end
end DL

set_option Elab.async false
set_option linter.all false
set_option maxRecDepth 100000
set_option maxHeartbeats 2000000
namespace DL
open PySem PySem.Spec PyProof.Rows L2
theorem call_isXK {X : Cx} (K : PySem.W.Frag) {a D : Addr} {d : Option Addr} {oe : Obj} {mg : Str → Option Value} {x f : Str} {fI : Addr} {cls : Value} {pn : List (Addr × Obj)} (C : ErrC K mg x f D fI) (hz : Zc cls d oe) (hf : ∃ vs, oe.data = .fields vs) (hK : X.K = K := by rfl) :
    CallR (X.suite a ((a, oe) :: pn)) (.builtin "isinstance") (fun xs H Q => cls = .ref D ∧ rIsX K D a d xs H Q) := by
  subst hK
  exact call_isX C hz hf
section
variable (K : PySem.W.Frag) (β : Bas)
/-- a suite that hands back -/
def EXHr (ts : Addr → Value → Option Addr → TS) (o : Option Nat) (cls : Value) (f : Str) (v : V) (env : Env') (P : Post) : Prop := ∀ σ G H dx a, Good K β σ env G H → H dx = some (.xd [(f, v)]) → G dx = none → H a = none →
  ∀ Dn : Ends, (∀ σ' env' G' H' v d, Good K β σ' env' G' H' → Ex G G' → Dat K G' v d → P.rt v d env' → Dn.rt v H') → ts a cls (some dx) Dn (match o with | none => σ | some i => σ.set i (some (.ref a))) H
def WH (P : Post) : List (Value × Option Nat × (Addr → Value → Option Addr → TS)) → Value → Str → V → Env' → Prop
  | [], cls, f, v, env' => P.ex cls f v env'
  | (c, o, ts) :: r, cls, f, v, env' => ∃ b, PySem.W.exmOne K cls c = some b ∧ (b = true → EXHr K β ts o cls f v env' P) ∧ (b = false → WH P r cls f v env')
end
section
variable {K : PySem.W.Frag} {β : Bas} {env : Env'} {ta tb te tc : TE} {tt tu : TT} {x y z d : D} {v w : V} {P : Post} {W : WX} {ts tr : TS}
theorem wh_go {Wout : WX} {Dn : Ends} {G : Hp} (c : Cont K β Dn P G) (xo : ExOk K β Wout P G) : ∀ (l : List (Value × Option Nat × (Addr → Value → Option Addr → TS))) {cls : Value} {f : Str} {v : V} {env' : Env'} {σ' : Sg} {G' H' : Hp} {dx : Addr},
    Good K β σ' env' G' H' → Ex G G' → H' dx = some (.xd [(f, v)]) → G' dx = none → WH K β P l cls f v env' → wManyA K Wout Dn l cls (some dx) σ' H'
  | [], _, _, _, _, _, _, _, _, g, e, h1, h2, h => xo _ _ _ _ _ _ _ _ g e h1 h2 h
  | (cl, none, ts) :: r, _, _, _, _, _, _, _, _, g, e, h1, h2, ⟨b, hb, ht, hf⟩ => ⟨b, hb, fun z a ha => ht z _ _ _ _ a g h1 h2 ha _ fun σ' env' G' H' v d g' e' => c.rt σ' env' G' H' v d g' (e.trans e'), fun z => wh_go c xo r g e h1 h2 (hf z)⟩
  | (cl, some i, ts) :: r, _, _, _, _, _, _, _, _, g, e, h1, h2, ⟨b, hb, ht, hf⟩ => ⟨b, hb, fun z a ha => ht z _ _ _ _ a g h1 h2 ha _ fun σ' env' G' H' v d g' e' => c.rt σ' env' G' H' v d g' (e.trans e'), fun z => wh_go c xo r g e h1 h2 (hf z)⟩
/-- try: .. except .. -/
theorem ex_tryA {tb : WX → TS} {l : List (Value × Option Nat × (Addr → Value → Option Addr → TS))} {Wout : WX} {PX : Value → Str → V → Env' → Prop} (hb : ∀ W, EX K β W (tb W) env { P with ex := PX })
    (hh : ∀ cls f v env', PX cls f v env' → WH K β P l cls f v env') : EX K β Wout (fun D σ H => tb (wManyA K Wout D l) D σ H) env P := fun σ G H g Dn c xo =>
  hb (wManyA K Wout Dn l) σ G H g Dn ⟨c.nx, c.rt, c.bk, c.ct⟩ fun σ' env' G' H' cls f v dx g' e q1 q2 hp => wh_go c xo l g' e q1 q2 (hh cls f v env' hp)
theorem sls_len {G H : Hp} : ∀ {σ : Sg} {env : Env'}, SlsOk K β G H σ env → σ.length = env.length
  | _, _, .nil => rfl
  | _, _, .cons _ r => by rw [List.length_cons, List.length_cons, sls_len r]
theorem EX.finTry {tb : WX → TS} {l : List (Value × Option Nat × (Addr → Value → Option Addr → TS))} {Wout : WX} {G H : Hp} {Q : VK} {σ : Sg} (g : Good K ⟨G, H, none⟩ σ env G H) (q : ∀ v G' H', Stp G H G' H' → Dat K G' v d → Q v H')
    (h : EX K ⟨G, H, none⟩ Wout (fun D σ H => tb (wManyA K Wout D l) D σ H) env { rt := fun _ d' _ => d' = d, nx := fun _ => d = .non }) :
    tb (wManyA K Wout { nx := fun _ H' => Q .non H', rt := Q } l) { nx := fun _ H' => Q .non H', rt := Q } σ H := EX.fin (t := fun D σ H => tb (wManyA K Wout D l) D σ H) g q h
/-- return [text if isinstance(e, S) else .., e.f] -/
theorem exh_ret {C fI cS : Addr} {mg : Str → Option Value} {x f s z : Str} {i : Nat} (E : ErrC K mg x f C fI) (hk : PySem.W.kitOne K (.ref C) (.ref cS) = some true) (hl : i < env.length) (hv : ∀ σ G H, Good K β σ env G H → Dat K G v d) (hP : ∀ u, P.rt u (.lst [.str s, d]) (env.set i .un)) :
    EXHr K β (fun a cls d' => tRet (tLst (tCons (tIf (tB (tCB (fun xs H Q => cls = .ref C ∧ rIsX K C a d' xs H Q) (tCons (tVar i) (tCons (tC (.ref cS)) tNil)))) (tC (.str s)) (tC (.str z))) (tCons (tXf a cls d' C f (tVar i)) tNil)))) (some i) (.ref C) f v env P := fun σ G H dx a g h1 h2 ha Dn hD => by
  have hi : (σ.set i (some (V.ref a)))[i]? = some (some (V.ref a)) := List.getElem?_set_self (by rw [sls_len g.sl]; exact hl)
  refine ⟨.ref a, hi, rfl, .ref cS, .ref cS, true, dx, _, rfl, fun u r => ?_, rfl, h1, hk, true, rfl, ?_⟩
  · exact r
  · show (if true = true then _ else _)
    rw [if_pos rfl]
    refine ⟨.ref a, hi, rfl, rfl, dx, _, v, rfl, h1, by simp [List.lookup], sz 2, fun p hp => ?_⟩
    exact hD _ _ (upd G p (.lst [.str s, v])) _ _ _ (((g.drop i (some (.ref a)))).up (.new g.gh hp)) (.new (g.gh.back hp)) (.lst upd_same (.cons (.str s) (.cons ((hv σ G H g).up (.new (g.gh.back hp))) .nil))) (hP _)
end
end DL

set_option Elab.async false
set_option linter.all false
set_option maxRecDepth 100000
set_option maxHeartbeats 2000000
namespace DL
open PySem PySem.Spec PyProof.Rows L2
theorem hu65 {k : Nat} {A : Around} (hr : Room k A) : A.units + 65 < cLine := by have := hr.un; omega
theorem mt_indexDK {X : Cx} (K : PySem.W.Frag) (hu : X.A.units + 65 < cLine) (h : X.K = K := by rfl) : MtR X "list.index" (rIndexD K) := h ▸ mt_indexD hu
section
variable {K : PySem.W.Frag} {β : Bas} {env : Env'} {ta tb te tc to : TE} {tt tu : TT} {x y z d : D} {v w : V} {P : Post} {W : WX} {ts tr : TS}
theorem ex_newS {i : Nat} {ta : TA} {ds : List D} (he : EVA K β ta env ds) (hl : ds.length ≤ sizeLine) (h : ∀ a, EX K β W tr (env.set i (.own a ds)) P) : EX K β W (tSeq (tAsg (tLst ta) (gName i)) tr) env P :=
  ex_seq (N := fun e => ∃ a, e = env.set i (.own a ds)) (ex_new he hl fun a => ⟨a, rfl⟩) fun e ⟨a, q⟩ => q ▸ h a
theorem ev_tupOwn {i : Nat} {a : Addr} {ds : List D} (hi : env[i]? = some (.own a ds)) : EV K β (tThen (tVar i) (kTup K)) env (.tup ds) := fun σ G H g Q q => by
  obtain ⟨h1, h2, h3, xs, h4, h5⟩ := g.own hi
  refine ⟨.ref a, h1, .inl ⟨a, xs, rfl, .of h4, fun p hp => q _ (upd G p (.tup xs)) _ (.new g.gh hp) (.tup (.of upd_same) (h5.up (.new (g.gh.back hp))))⟩⟩
theorem ex_whileS {tt : Env' → Bool} {ttr : TT} (I : Env' → Prop) (μ : Env' → Nat) (h0 : I env) (ht : ∀ env', I env' → EVT K β ttr env' (tt env'))
    (hs : ∀ env', I env' → tt env' = true → EX K β W ts env' { P with nx := fun e => I e ∧ μ e < μ env', ct := fun e => I e ∧ μ e < μ env', bk := fun _ => False })
    (hd : ∀ env', I env' → tt env' = false → EX K β W tr env' P) : EX K β W (tSeq (tWhile ttr ts) tr) env P :=
  ex_seq (N := fun e => I e ∧ tt e = false) (ex_while I μ h0 ht (fun env' hi hb => (hs env' hi hb).imp (fun _ h => h) (fun _ _ _ h => h) (fun _ h => h.elim) (fun _ h => h) fun _ _ _ _ h => h) fun env' hi hb => ⟨hi, hb⟩) fun env' h => hd env' h.1 h.2
theorem ex_appS {i : Nat} {a : Addr} {ds : List D} (hi : env[i]? = some (.own a ds)) (he : EV K β te env d) (hl : ds.length < sizeLine) (h : EX K β W tr (env.set i (.own a (ds ++ [d]))) P) :
    EX K β W (tSeq (tDrop (tBM K "list" rAppend (tVar i) (tCons te tNil))) tr) env P := ex_cons (ex_app hi he hl rfl) h
/-- the number in a slot -/
def slotInt (e : Env') (i : Nat) : Int := match (e[i]? : Option Sl) with
  | some (.val _ (.int c)) => c
  | _ => 0
/-! pairs.index -/
def pairZD (p : Int × Int) : D := .tup [.int p.1, .int p.2]
def pairZP (p : Int × Int) : PyData := .tuple [.int p.1, .int p.2]
theorem Dat.pr {G H : Hp} (e : Ex G H) {p : Int × Int} {v : V} (h : Dat K G v (pairZD p)) : Dp K H v (pairZP p) := by
  cases h with
  | tup a b =>
    cases b with
    | cons b1 b2 =>
    cases b2 with
    | cons b2 b3 =>
    cases b3; cases b1; cases b2
    exact .tup (ex_t e a) (.cons (.int _) (.cons (.int _) .nil))
theorem DatL.prs {G H : Hp} (e : Ex G H) : ∀ {L : List (Int × Int)} {vs : List V}, DatL K G vs (L.map pairZD) → DpAll K H vs (L.map pairZP)
  | [], _, h => by cases h; exact .nil
  | p :: L, _, h => by cases h with | cons a t => exact .cons (Dat.pr e a) (DatL.prs e t)
theorem pr_lay : ∀ L : List (Int × Int), PyData.canLayAll0 (L.map pairZP) = true
  | [] => rfl
  | p :: L => by
    show (PyData.canLay0 (pairZP p) && PyData.canLayAll0 (L.map pairZP)) = true
    rw [pr_lay L]
    rfl
theorem pr_depth : ∀ L : List (Int × Int), PyData.depthAll (L.map pairZP) ≤ 1
  | [] => Nat.zero_le _
  | p :: L => by
    show max (PyData.depth (pairZP p)) (PyData.depthAll (L.map pairZP)) ≤ 1
    have := pr_depth L
    have h : PyData.depth (pairZP p) = 1 := rfl
    omega
theorem pr_shaped (L : List (Int × Int)) : SeqAt.shaped (.list (L.map pairZP)) = true := by
  unfold SeqAt.shaped
  have h1 : PyData.canLay0 (.list (L.map pairZP)) = true := pr_lay L
  have h2 : PyData.depth (.list (L.map pairZP)) ≤ 64 := by
    show PyData.depthAll (L.map pairZP) + 1 ≤ 64
    have := pr_depth L
    omega
  rw [h1, decide_eq_true h2]
  rfl
theorem pr_eqv (p q : Int × Int) : PyData.eqv (pairZP p) (pairZP q) = decide (p = q) := by
  show (p.1 == q.1 && (p.2 == q.2 && true)) = _
  obtain ⟨a, b⟩ := p
  obtain ⟨c, d⟩ := q
  simp only [Bool.and_true, Prod.mk.injEq]
  by_cases h1 : a = c <;> by_cases h2 : b = d <;> simp [h1, h2]
theorem ev_index {L : List (Int × Int)} {p : Int × Int} {j : Nat} (h : EV K β to env (.lst (L.map pairZD))) (he : EV K β te env (pairZD p)) (hj : L[j]? = some p) (hm : ∀ m, m < j → L[m]? ≠ some p) : EV K β (tBM K "list" (rIndexD K) to (tCons te tNil)) env (.int j) := fun σ G H g Q q =>
  h σ G H g _ fun v1 G1 H1 t1 d1 => by
    obtain ⟨a, xs, rfl, ha, hx⟩ := d1.lstV
    refine ⟨.inl ⟨rfl, xs, .of (t1.gh _ _ ha)⟩, he σ G1 H1 (g.up t1) _ fun v2 G2 H2 t2 d2 => ?_⟩
    refine ⟨a, v2, pairZP p, L.map pairZP, j, pairZP p, rfl, rfl, .lst (.of (t2.hh _ _ (t1.gh _ _ ha))) (DatL.prs (t1.gh.trans t2.hh) hx), Dat.pr t2.gh d2, pr_shaped L, rfl, by rw [List.getElem?_map, hj]; rfl, by rw [pr_eqv, decide_eq_true rfl], fun m z' hlt hz => ?_, q _ G2 H2 (t1.trans t2) (.int _)⟩
    rw [List.getElem?_map] at hz
    cases hq : L[m]? with
    | none => rw [hq] at hz; cases hz
    | some p' =>
      rw [hq] at hz
      cases hz
      rw [pr_eqv]
      exact decide_eq_false fun z => hm m hlt (by rw [hq, z])
end
end DL

set_option Elab.async false
set_option linter.all false
set_option maxRecDepth 100000
set_option maxHeartbeats 2000000
namespace DL
open PySem PySem.Spec PyProof.Rows L2
section
variable {K : PySem.W.Frag} {β : Bas} {env : Env'} {ta tb te tc to : TE} {tt tu : TT} {x y z d : D} {v w : V} {P : Post} {W : WX} {ts tr : TS}
theorem Good.adopt {σ : Sg} {G H : Hp} (g : Good K β σ env G H) {p : Addr} {xs : List V} {es : List D} (i : Nat) (hβ : β.H p = none) (hG : G p = none) (hp : H p = some (.lst xs)) (hna : p ∉ owns env) (dx : DatL K G xs es) :
    Good K β (σ.set i (some (V.ref p))) (env.set i (.own p es)) G H :=
  ⟨g.gg, g.hh, g.gh, g.ow, g.bh, g.sl.set (s := .own p es) ⟨rfl, .inl hβ, hG, xs, hp, dx⟩ i, (nd_newOwn hna i g.nd).1⟩
theorem DatL.marks {G : Hp} : ∀ {xs : List V} {es : List D}, DatL K G xs es → DatL K G xs (List.zipWith D.idn xs es)
  | _, _, .nil => .nil
  | _, _, .cons a t => .cons (.idn a) (DatL.marks t)
/-- a, b = list(x), e: a a list of one's own -/
theorem ex_parL2 {i j : Nat} {tg t2 : TE} {es : List D} {P2 : V → D → Env' → Prop} (hg : EV K β tg env (.lst es)) (h2 : XE K β t2 env P2)
    (k : ∀ p xs v d e, xs.length = es.length → P2 v d e → P.nx ((e.set i (.own p (List.zipWith D.idn xs es))).set j (.val v d))) : EX K β W (tPar i j (tCons (tCB (rListOf K) (tCons tg tNil)) (tCons t2 tNil))) env P := fun σ G H g Dn c x =>
  hg σ G H g _ fun v1 G1 H1 t1 d1 => by
    obtain ⟨a, xs, rfl, ha, hx⟩ := d1.lstV
    have g1 := g.up t1
    refine ⟨a, xs, rfl, .inl (.inl (.inl (t1.gh _ _ ha))), fun p hp => ?_⟩
    have hGp : G1 p = none := t1.gh.back hp
    have g2 := g1.up ((Stp.refl t1.gh).side (o := .lst xs) hp hGp)
    refine h2 σ G1 _ g2 _ fun v d e G3 H3 g3 t3 e3 dv p2 => ?_
    have hna : p ∉ owns env := fun m => g1.there m hp
    have hβ : β.H p = none := by
      cases q : β.H p with
      | none => rfl
      | some o => exact absurd hp (g1.hn (by rw [q]; exact (fun e => nomatch e)))
    have h3 : H3 p = some (.lst xs) := t3.hh p _ hna upd_same
    have hG3 : G3 p = none := t3.ow p hGp (by rw [upd_same]; exact (fun e => nomatch e))
    have g4 := (g3.adopt i hβ hG3 h3 (by rw [e3]; exact hna) ((hx.up t3.gg).marks)).set j dv
    exact ⟨_, _, rfl, c.nx _ _ G3 H3 g4 (t1.gg.trans t3.gg) (k p xs v d e hx.length p2)⟩
/-- xs[k] = e, xs one's own, e may ask the box -/
theorem ex_setOwnX {i : Nat} {tk : TE} {P1 : V → D → Env' → Prop} (he : XE K β te env P1) (k : ∀ v d e, P1 v d e → ∃ a ds kk j, e[i]? = some (.own a ds) ∧ EV K β tk e (.int kk) ∧ ixN ds.length kk = some j ∧ P.nx (e.set i (.own a (ds.set j (.idn v d))))) :
    EX K β W (tAsg te (gSub (tVar i) tk rSetL)) env P := fun σ G H g Dn c x =>
  he σ G H g _ fun v d e G1 H1 g1 t1 e1 dv p1 => by
    obtain ⟨a, ds, kk, j, hi, hk, hj, hn⟩ := k v d e p1
    obtain ⟨h1, h2, h3, xs, h4, h5⟩ := g1.own hi
    refine ⟨.ref a, h1, hk σ G1 H1 g1 _ fun u G2 H2 t2 du => ?_⟩
    refine ⟨a, xs, kk, j, rfl, du.intV, t2.hh _ _ h4, by rw [h5.length]; exact hj, ?_⟩
    exact c.nx _ _ G2 _ ((g1.up t2).write hi ((h5.up t2.gg).set j (.idn (dv.up t2.gg)))) (t1.gg.trans t2.gg) hn
/-- a target of four names -/
theorem eg_four {i j k l n : Nat} {a b c d : D} (hn : 4 = n := by rfl) : EG K β (gTup K n (gCons (gName i) (gCons (gName j) (gCons (gName k) (gCons (gName l) gNil))))) env v (.tup [a, b, c, d]) (fun e => ∃ v1 v2 v3 v4, e = (((env.set i (.val v1 a)).set j (.val v2 b)).set k (.val v3 c)).set l (.val v4 d)) :=
  eg_tup hn fun vs σ G H g dvs Q q => by
    cases dvs with
    | cons a1 t =>
    cases t with
    | cons b1 t =>
    cases t with
    | cons c1 t =>
    cases t with
    | cons d1 t =>
    cases t
    exact ⟨_, _, rfl, _, _, rfl, _, _, rfl, _, _, rfl, rfl, q _ _ ((((g.set i a1).set j b1).set k c1).set l d1) ⟨_, _, _, _, rfl⟩⟩
theorem ex_forS {wi : TI} {g : TG} {ds : List D} (I : Nat → Env' → Prop) (hI : EVI K β wi env ds) (h0 : I 0 env)
    (hs : ∀ i env' v d, ds[i]? = some d → I i env' → ∃ Pg, EG K β g env' v d Pg ∧ ∀ env2, Pg env2 → EX K β W ts env2 { P with nx := I (i + 1), ct := I (i + 1), bk := fun _ => False })
    (hd : ∀ env', I ds.length env' → EX K β W tr env' P) : EX K β W (tSeq (tFor wi g ts) tr) env P :=
  ex_seq (N := I ds.length) (ex_for I hI h0 (fun i env' v d h1 h2 => by
    obtain ⟨Pg, h3, h4⟩ := hs i env' v d h1 h2
    exact ⟨Pg, h3, fun env2 hp => (h4 env2 hp).imp (fun _ h => h) (fun _ _ _ h => h) (fun _ h => h.elim) (fun _ h => h) fun _ _ _ _ h => h⟩) fun env' h => h) hd
theorem ex_commit' {i : Nat} {a : Addr} {ds : List D} (hi : env[i]? = some (.own a ds)) (hb : ∀ σ G H, Good K β σ env G H → β.bx ≠ some a) (h : EX K β W ts (env.set i (.val (.ref a) (.lst ds))) P) : EX K β W ts env P := fun σ G H g Dn c x => by
  obtain ⟨xs, _, _, h3, g2⟩ := g.commit hi (hb σ G H g)
  exact h σ _ H g2 Dn (c.up (.new h3)) (x.up (.new h3))
end
end DL

set_option Elab.async false
set_option linter.all false
set_option maxRecDepth 100000
set_option maxHeartbeats 2000000
namespace DL
open PySem PySem.Spec PyProof.Rows L2
section
variable {K : PySem.W.Frag} {β : Bas} {env : Env'} {ta tb te tc to : TE} {tt tu : TT} {x y z d : D} {v w : V} {P : Post} {W : WX} {ts tr : TS}
theorem for_core {g : TG} {ds : List D} {J : It} {us : List V} {σ : Sg} {G1 H1 : Hp} {Dn : Ends} (I : Nat → Env' → Prop) (g1 : Good K β σ env G1 H1) (hdl : DatL K G1 us ds) (hJ : ItV J G1 us) (h0 : I 0 env)
    (hs : ∀ i env' v d, ds[i]? = some d → I i env' → ∃ Pg, EG K β g env' v d Pg ∧ ∀ env2, Pg env2 → EX K β W ts env2 { P with nx := I (i + 1), ct := I (i + 1), bk := P.nx })
    (hd : ∀ env', I ds.length env' → P.nx env') (c : Cont K β Dn P G1) (x : ExOk K β W P G1) :
    ∃ Wt : Nat → Nat → Sg → Hp → Prop, (∃ m, Wt 0 m σ H1) ∧ ∀ i m σ H, Wt i m σ H → (J.stop i H ∧ Dn.nx σ H) ∨ (J.go i H ∧ ∃ N : Sg → Hp → Prop, (∀ σ' H', N σ' H' → ∃ m', m' < m ∧ Wt (i + 1) m' σ' H') ∧
      ∀ x H', J.yld i H x H' → g x σ H' fun σ2 H2 => ts { Dn with nx := N, ct := N, bk := Dn.nx } σ2 H2) := by
    refine ⟨fun i m σ' H' => m = us.length - i ∧ i ≤ us.length ∧ ∃ env' G', Good K β σ' env' G' H' ∧ Ex G1 G' ∧ I i env', ⟨us.length, by simp, Nat.zero_le _, env, G1, g1, .refl _, h0⟩, ?_⟩
    rintro i m σ' H' ⟨rfl, hi, env', G', g', e', hIi⟩
    by_cases hlt : i < us.length
    · have hx : us[i]? = some us[i] := List.getElem?_eq_getElem hlt
      obtain ⟨d, hdi, dx⟩ := hdl.getV hx
      obtain ⟨Pg, hg, hb⟩ := hs i env' us[i] d hdi hIi
      obtain ⟨hgo, hyl⟩ := (hJ i H' (e'.trans g'.gh)).2 _ hx
      refine .inr ⟨hgo, fun σ2 H2 => ∃ env2 G2, Good K β σ2 env2 G2 H2 ∧ Ex G1 G2 ∧ I (i + 1) env2, fun σ2 H2 z => ⟨us.length - (i + 1), by omega, rfl, hlt, z⟩, fun x0 H'' hy => ?_⟩
      obtain ⟨rfl, rfl⟩ := hyl _ _ hy
      refine hg _ _ _ g' (dx.up e') _ fun σ2 env2 g2 hp => ?_
      refine hb env2 hp σ2 G' _ g2 _ ⟨fun σ3 env3 G3 H3 g3 e3 n => ⟨env3, G3, g3, e'.trans e3, n⟩, fun σ3 env3 G3 H3 v d g3 e3 => c.rt σ3 env3 G3 H3 v d g3 (e'.trans e3), fun σ3 env3 G3 H3 g3 e3 => c.nx σ3 env3 G3 H3 g3 (e'.trans e3),
        fun σ3 env3 G3 H3 g3 e3 n => ⟨env3, G3, g3, e'.trans e3, n⟩⟩ (x.up e')
    · have hil : i = us.length := by omega
      refine .inl ⟨(hJ i H' (e'.trans g'.gh)).1 hil, ?_⟩
      refine c.nx σ' env' G' H' g' e' (hd env' ?_)
      rw [hil, hdl.length] at hIi
      exact hIi
/-- for x in [.., a draw, ..] -/
theorem ex_forXL {tl : TE} {j : Nat} {P1 : V → D → Env' → Prop} (hI : XE K β tl env P1) (hl : ∀ v d e, P1 v d e → ∃ ds, d = .lst ds ∧ ∃ I : Nat → Env' → Prop, I 0 e ∧
      (∀ i env' v' d', ds[i]? = some d' → I i env' → EX K β W ts (env'.set j (.val v' d')) { P with nx := I (i + 1), ct := I (i + 1), bk := P.nx }) ∧ (∀ env', I ds.length env' → P.nx env')) :
    EX K β W (tFor (iList K tl) (gName j) ts) env P := fun σ G H g0 Dn c x =>
  hI σ G H g0 _ fun v d e G1 H1 g1 t1 e1 dv p1 => by
    obtain ⟨ds, rfl, I, h0, hs, hd⟩ := hl v d e p1
    obtain ⟨a, xs, rfl, ga, hx⟩ := dv.lstV
    exact ⟨a, rfl, ⟨xs, .of (g1.gh _ _ ga)⟩, for_core I g1 hx (itv_list ga) h0 (fun i env' v d h1 h2 => ⟨_, eg_name, fun env2 z => by subst z; exact hs i env' v d h1 h2⟩) hd (c.up t1.gg) (x.up t1.gg)⟩
theorem ex_forXLS {tl : TE} {j : Nat} {P1 : V → D → Env' → Prop} (N : Env' → Prop) (hI : XE K β tl env P1) (hl : ∀ v d e, P1 v d e → ∃ ds, d = .lst ds ∧ ∃ I : Nat → Env' → Prop, I 0 e ∧
      (∀ i env' v' d', ds[i]? = some d' → I i env' → EX K β W ts (env'.set j (.val v' d')) { P with nx := I (i + 1), ct := I (i + 1), bk := fun _ => False }) ∧ (∀ env', I ds.length env' → N env'))
    (hd : ∀ env', N env' → EX K β W tr env' P) : EX K β W (tSeq (tFor (iList K tl) (gName j) ts) tr) env P :=
  ex_seq (N := N) (ex_forXL hI fun v d e p1 => by
    obtain ⟨ds, h1, I, h2, h3, h4⟩ := hl v d e p1
    exact ⟨ds, h1, I, h2, fun i env' v' d' q1 q2 => (h3 i env' v' d' q1 q2).imp (fun _ h => h) (fun _ _ _ h => h) (fun _ h => h.elim) (fun _ h => h) fun _ _ _ _ h => h, h4⟩) hd
/-- xs[k:] -/
theorem ev_slFrom {ds : List D} {k : Nat} (h : EV K β te env (.lst ds)) (hk : k ≤ ds.length) : EV K β (tSl (rSlL K) te (tPart (tC (.int (k : Nat)))) tNoPart) env (.lst (ds.drop k)) := fun σ G H g Q q =>
  h σ G H g _ fun v G1 H1 t1 dv => by
    obtain ⟨a, xs, rfl, ga, hx⟩ := dv.lstV
    refine ⟨(k : Nat), rfl, a, xs, rfl, .of (t1.gh _ _ ga), fun p hp => ?_⟩
    have hc : cutV xs (some ((k : Nat) : Int)) none = xs.drop k := by
      unfold cutV
      rw [HT.sIx_nat, HT.sIx_none, Nat.min_eq_left (by rw [hx.length]; exact hk), List.take_of_length_le (by rw [List.length_drop]; omega)]
    rw [hc]
    exact q _ (upd G1 p (.lst (xs.drop k))) _ (t1.trans (.new t1.gh hp)) (.lst upd_same ((hx.drop k).up (.new (t1.gh.back hp))))
theorem evv_intV {i : Int} (h : EV K β te env (.int i)) : EVv K β te env (.int i) (.int i) := fun σ G H g Q q => h σ G H g _ fun v G1 H1 t1 dv => by
  obtain rfl := dv.intV
  exact q G1 H1 t1 (.int i)
theorem XA.imp {ta : TA} {P P' : List V → List D → Env' → Prop} (h : XA K β ta env P) (i : ∀ v d e, P v d e → P' v d e) : XA K β ta env P' := fun σ G H g Q q => h σ G H g Q fun v d env' G' H' g' t e dv p => q v d env' G' H' g' t e dv (i _ _ _ p)
theorem xa_nilP {P : List V → List D → Env' → Prop} (h : P [] [] env) : XA K β tNil env P := fun σ G H g Q q => q [] [] env G H g (.refl g.gh) rfl .nil h
theorem op_neDNil : True := trivial
end
end DL

set_option Elab.async false
set_option linter.all false
set_option maxRecDepth 100000
set_option maxHeartbeats 2000000
namespace DL
open PySem PySem.Spec PyProof.Rows L2
/-! ### comprehensions with any number of `for` -/
/-- one turn of the clause at place j, whatever stands behind it -/
theorem turn_any {elt : Expr} {gens : List Comprehension} {scope : Scope} {pos : Pos} {j : Nat} {tg iter : Expr} {ifs : List Expr} {it acc : Value} {env : Env} (hj : gens[j]? = some ⟨tg, iter, ifs, 0⟩) :
    compTurn (.ListComp elt gens scope pos) j it acc env = (do
      standAt iter.pos
      match ← pyNext it with
      | none => pure (.done .next)
      | some v =>
        letOwnedTupleGo tg it v
        assign tg env v
        let mut ok := true
        for c in ifs do
          if ok then ok ← isTrue c env (eval c env)
        if ok then
          match gens[j + 1]? with
          | some g' =>
            let x ← eval g'.iter env
            standAt g'.iter.pos
            let x ← if g'.is_async != 0 then foldedIterable g'.iter x else foldedSetIterable g'.iter env x
            let _ ← runOwn (.compStart (.ListComp elt gens scope pos) (j + 1) (← holding [x] (if g'.is_async != 0 then asyncIter x else pyIter x)) acc env) env
          | none => (do let _ ← call (.builtin "list.append") [acc, ← eval elt env])
        again (.compLoop (.ListComp elt gens scope pos) j it acc env)) := by
  unfold compTurn
  dsimp only
  rw [hj]
  rfl
section
variable {prog : Program} {w : World} {A : Around} {R : Result → Shared → Prop} {s : Shared} {elt tg iter t1 i1 : Expr} {ifs ifs1 : List Expr} {gens : List Comprehension} {scope : Scope} {pos : Pos} {j : Nat} {it acc : Value} {env : Env}
/-- what a turn of a clause wants: B, of the state where the tests have let it through -/
def TurnW (prog : Program) (w : World) (A : Around) (R : Result → Shared → Prop) (env : Env) (tg : Expr) (ifs : List Expr) (it : Value) (I : Nat → Shared → Prop) (B : Nat → Shared → Prop) (n : Nat) (s : Shared) : Prop :=
  wpAny (model prog w) A (pyNext it) (fun r a => match r with
    | none => R (.ok .next) a
    | some v => wpAny (model prog w) A (letOwnedTupleGo tg it v) (fun _ b => wpAny (model prog w) A (assign tg env v) (fun _ c =>
        wpAny (model prog w) A (forIn ifs true fun c r => if r = true then do let ok ← isTrue c env (eval c env); pure (ForInStep.yield ok) else pure (ForInStep.yield r)) (fun ok d => if ok = true then B n d else ∃ m, m < n ∧ I m d)
          (notedBy (model prog w) A env fun e z => R (.error e) z) c) (notedBy (model prog w) A env fun e z => R (.error e) z) b) (notedBy (model prog w) A env fun e z => R (.error e) z) a) (notedBy (model prog w) A env fun e z => R (.error e) z) s
/-- the loop of the last clause -/
theorem loop_last (hj : gens[j]? = some ⟨tg, iter, ifs, 0⟩) (hl : gens[j + 1]? = none) (I : Nat → Shared → Prop)
    (turn : ∀ n s, I n s → TurnW prog w A R env tg ifs it I (fun n d => wpAny (model prog w) A (eval elt env) (fun x e => wpAny (model prog w) A (call (.builtin "list.append") [acc, x]) (fun _ z => ∃ m, m < n ∧ I m z) (notedBy (model prog w) A env fun e z => R (.error e) z) e) (notedBy (model prog w) A env fun e z => R (.error e) z) d) n s)
    (n : Nat) (h : I n s) : codeAny (model prog w) A (.compLoop (.ListComp elt gens scope pos) j it acc env) R s := by
  refine codeAny_loop rfl I (fun n s hI => ?_) n h
  show wpAny _ A ((compTurn (.ListComp elt gens scope pos) j it acc env).onRaise (fun x => do noteFrame x env; theTreesLotGoes x)) _ _ s
  refine wpAny_noted ?_
  rw [turn_any hj, hl]
  refine wpAny_bind (wpAny_standAt (wpAny_bind (wpAny_mono (turn n s hI) (fun r a ha => ?_) fun _ _ z => z)))
  cases r with
  | none => exact wpAny_pure ha
  | some v =>
    refine wpAny_bind (wpAny_mono ha (fun _ b hb => ?_) fun _ _ z => z)
    refine wpAny_bind (wpAny_mono hb (fun _ c hc => wpAny_bind (wpAny_mono hc (fun ok d hd => ?_) fun _ _ z => z)) fun _ _ z => z)
    cases ok with
    | false => exact wpAny_pure ⟨rfl, hd⟩
    | true => exact wpAny_bind (wpAny_bind (wpAny_mono hd (fun x e he => wpAny_bind (wpAny_mono he (fun _ y hy => wpAny_pure (wpAny_pure ⟨rfl, hy⟩)) fun _ _ z => z)) fun _ _ z => z))
/-- the loop of a clause with another behind it -/
theorem loop_mid (hj : gens[j]? = some ⟨tg, iter, ifs, 0⟩) (hl : gens[j + 1]? = some ⟨t1, i1, ifs1, 0⟩) (hs : ∀ x, foldedSetIterable i1 env x = pure x) (I : Nat → Shared → Prop)
    (turn : ∀ n s, I n s → TurnW prog w A R env tg ifs it I (fun n d => wpAny (model prog w) A (eval i1 env) (fun x e => wpAny (model prog w) A (pyIter x) (fun u f =>
      codeAny (model prog w) A (.compStart (.ListComp elt gens scope pos) (j + 1) u acc env) (fun r z => match r with
        | .ok _ => ∃ m, m < n ∧ I m z
        | .error _ => False) f) (notedBy (model prog w) A env fun e z => R (.error e) z) e) (notedBy (model prog w) A env fun e z => R (.error e) z) d) n s)
    (n : Nat) (h : I n s) : codeAny (model prog w) A (.compLoop (.ListComp elt gens scope pos) j it acc env) R s := by
  refine codeAny_loop rfl I (fun n s hI => ?_) n h
  show wpAny _ A ((compTurn (.ListComp elt gens scope pos) j it acc env).onRaise (fun x => do noteFrame x env; theTreesLotGoes x)) _ _ s
  refine wpAny_noted ?_
  rw [turn_any hj, hl]
  refine wpAny_bind (wpAny_standAt (wpAny_bind (wpAny_mono (turn n s hI) (fun r a ha => ?_) fun _ _ z => z)))
  cases r with
  | none => exact wpAny_pure ha
  | some v =>
    refine wpAny_bind (wpAny_mono ha (fun _ b hb => ?_) fun _ _ z => z)
    refine wpAny_bind (wpAny_mono hb (fun _ c hc => wpAny_bind (wpAny_mono hc (fun ok d hd => ?_) fun _ _ z => z)) fun _ _ z => z)
    cases ok with
    | false => exact wpAny_pure ⟨rfl, hd⟩
    | true =>
      refine wpAny_bind (wpAny_mono hd (fun x e he => ?_) fun _ _ z => z)
      refine wpAny_bind (wpAny_standAt (wpAny_bind (wpAny_of_eq (hs x) (wpAny_bind (wpAny_holding (wpAny_mono he (fun u f hf => ?_) fun _ _ z => z))))))
      refine wpAny_bind (wpAny_runOwn ?_)
      rw [Around.mark_none]
      refine codeAny_mono hf fun r z hr => ?_
      cases r with
      | ok y => first | exact wpAny_pure ⟨rfl, hr⟩ | exact wpAny_bind (wpAny_pure (wpAny_pure ⟨rfl, hr⟩))
      | error y => exact hr.elim
/-- the start of a clause behind the first -/
theorem start_any (hj : gens[j]? = some ⟨tg, iter, ifs, 0⟩) (h0 : codeAny (model prog w) A (.compLoop (.ListComp elt gens scope pos) j it acc env) R s)
    (h : wpAny (model prog w) A (pyIter it) (fun u z => codeAny (model prog w) A (.compLoop (.ListComp elt gens scope pos) j u acc env) R z) (notedBy (model prog w) A env fun x z => R (.error x) z) s) :
    codeAny (model prog w) A (.compStart (.ListComp elt gens scope pos) j it acc env) R s := by
  refine codeAny_of_tree ?_
  show wpAny _ _ ((compStart (.ListComp elt gens scope pos) j it acc env).onRaise (fun x => do noteFrame x env; standAt theWindowsPlace)) _ _ s
  refine wpAny_notedAt ?_
  unfold compStart
  have hcl : (clausesOf (.ListComp elt gens scope pos))[j]? = some ⟨tg, iter, ifs, 0⟩ := hj
  rw [hcl]
  show wpAny _ _ (ask >>= _) _ _ s
  refine wpAny_bind (wpAny_askSetting (wpAny_ite ?_))
  split
  · first
      | exact wpAny_bind (wpAny_pure (wpAny_pure (And.intro rfl h0)))
      | exact wpAny_pure (And.intro rfl h0)
  · first
      | exact wpAny_bind (wpAny_rule (wpAny_bind (wpAny_standAt (wpAny_bind (wpAny_mono h (fun u z y => wpAny_pure (And.intro rfl y)) fun _ _ x => x)))))
      | (refine wpAny_bind (wpAny_rule ?_); show wpAny _ _ (standAt iter.pos >>= _) _ _ s; exact wpAny_bind (wpAny_standAt (wpAny_bind (wpAny_mono h (fun u z y => wpAny_pure (And.intro rfl y)) fun _ _ x => x))))
end

/-! ### the reading -/
abbrev Cl := TI × TG × TT × List Nat
/-- the clauses behind the first, then the item -/
def tIn (D : Addr) (te : TE) : List Cl → Sg → Hp → (Hp → Prop) → Prop
  | [], σ, H, Nx => te σ H fun y H7 => ∃ acc, H7 D = some (.lst acc) ∧ acc.length < sizeLine ∧ Nx (upd H7 D (.lst (acc ++ [y])))
  | (wi, g, tt, vs) :: r, σ, H, Nx => wi σ H fun J H4 => ∃ W1 : Nat → Nat → Hp → Prop, (∃ m, W1 0 m H4) ∧ ∀ j k H, W1 j k H → (J.stop j H ∧ Nx H) ∨ (J.go j H ∧ ∃ Nx1 : Hp → Prop, (∀ H', Nx1 H' → ∃ k', k' < k ∧ W1 (j + 1) k' H') ∧
      ∀ x H', J.yld j H x H' → g x (L2.wipe σ vs) H' fun σ3 H5 => L2.wipe σ3 vs = L2.wipe σ vs ∧ tt σ3 H5 fun b H6 => if b = true then tIn D te r σ3 H6 Nx1 else Nx1 H6)
/-- the clauses of the text have these readings; the names of a later clause are among those of an earlier one -/
inductive Cls (B : Cx) : List Nat → List Comprehension → List Cl → Prop
  | nil {vs : List Nat} : Cls B vs [] []
  | cons {vs vs' : List Nat} {tg iter : Expr} {ifs : List Expr} {gs : List Comprehension} {wi : TI} {g : TG} {tt : TT} {r : List Cl} (hi : PI B tg iter wi) (hg : PG B tg g) (ht : PTs B ifs tt) (hs : ∀ x, foldedSetIterable iter B.env x = pure x) (hv : ∀ i ∈ vs', i ∈ vs)
      (hr : Cls B vs' gs r) : Cls B vs (⟨tg, iter, ifs, 0⟩ :: gs) ((wi, g, tt, vs') :: r)
/-- where the slots stand behind the clauses -/
def endSl (σ : Sg) : List Cl → Sg
  | [] => σ
  | c :: _ => L2.wipe σ c.2.2.2
/-- what stands at place j: the next clause's source and its loop, or the item -/
def StepW (B : Cx) (A : Around) (NE : Value → Shared → Prop) (elt : Expr) (gens : List Comprehension) (scope : Scope) (pos : Pos) (j : Nat) (acc : Value) (P : Shared → Prop) (s : Shared) : List Comprehension → Prop
  | [] => wpAny (model B.prog B.w) A (eval elt B.env) (fun x e => wpAny (model B.prog B.w) A (call (.builtin "list.append") [acc, x]) (fun _ z => P z) NE e) NE s
  | g :: _ => wpAny (model B.prog B.w) A (eval g.iter B.env) (fun x e => wpAny (model B.prog B.w) A (pyIter x) (fun u f => codeAny (model B.prog B.w) A (.compStart (.ListComp elt gens scope pos) j u acc B.env) (fun r z => match r with
      | .ok _ => P z
      | .error _ => False) f) NE e) NE s
theorem endSl_length (σ : Sg) : ∀ r : List Cl, (endSl σ r).length = σ.length
  | [] => rfl
  | _ :: _ => L2.wipe_length _ _
theorem endSl_keep {B : Cx} {vs : List Nat} {gs : List Comprehension} {r : List Cl} (h : Cls B vs gs r) {σ : Sg} {j : Nat} {v : V} (e : (L2.wipe σ vs)[j]? = some (some v)) : (endSl σ r)[j]? = some (some v) := by
  obtain ⟨e1, e2⟩ := L2.wipe_some e
  cases h with
  | nil => exact e1
  | cons hi hg ht hs hv hr =>
    show (L2.wipe σ _)[j]? = _
    rw [L2.wipe_out fun z => e2 (hv j z)]
    exact e1
theorem cls_core {B : Cx} {elt : Expr} {gens : List Comprehension} {scope : Scope} {pos : Pos} {D : Addr} {te : TE} (hc : B.calm = true) (hx : B.xe = fun _ _ => False) (he : PE B elt te) :
    ∀ (r : List Cl) (gs : List Comprehension) (vs : List Nat), Cls B vs gs r → ∀ (j : Nat), (∀ k, gens[j + k]? = gs[k]?) → ∀ (NE : Value → Shared → Prop) (pins : List (Addr × Obj)) (σ : Sg) (H : Hp) (s : Shared) (Nx : Hp → Prop), Inv B pins σ H s → tIn D te r σ H Nx →
      ∀ P : Shared → Prop, (∀ z H', Inv B pins (endSl σ r) H' z → Nx H' → P z) → StepW B B.A NE elt gens scope pos j (.ref D) P s gs := by
  intro r
  induction r with
  | nil =>
    intro gs vs hcl j hj NE pins σ H s Nx I h P hP
    cases hcl
    have q := he.run pins s σ H _ I h
    rw [hx] at q
    exact thnF q fun x e ⟨yv, H7, I7, r7, acc, hD7, hz7, nx⟩ => app_ok (X := B) I7 hD7 hz7 r7 fun z Iz => hP z _ Iz nx
  | cons c r ih =>
    intro gs vs hcl j hj NE pins σ H s Nx I h P hP
    obtain ⟨wi, g, tt, vs'⟩ := c
    cases hcl with
    | @cons _ _ tg iter ifs gs' _ _ _ _ hi hg ht hs hv hr =>
    have hj0 : gens[j]? = some ⟨tg, iter, ifs, 0⟩ := hj 0
    have hj1 : ∀ k, gens[j + 1 + k]? = gs'[k]? := fun k => by rw [Nat.add_assoc, Nat.add_comm 1 k]; exact hj (k + 1)
    have q := hi.run pins s σ H _ I h
    rw [hx] at q
    refine thnF q fun xv e hxv => ?_
    refine thnF hxv fun itv f hf => ?_
    obtain ⟨it1, fp1, tn1, J1, H11, e1, I11, T1, st11, f11, W1, ⟨m1, w1⟩, turn1⟩ := hf
    subst e1
    have stat1 : ∀ {H' : Hp}, (∀ b ∈ fp1, H' b = none) → ∀ b ∈ fp1, FpOk B pins H' b := fun hn b hb => ⟨hn b hb, (f11 b hb).2⟩
    have loop : codeAny (model B.prog B.w) B.A (.compLoop (.ListComp elt gens scope pos) j (.ref it1) (.ref D) B.env) (fun r z => match r with
        | .ok _ => P z
        | .error _ => False) f := by
      have turn : ∀ k z, (fun k z => ∃ jj H', Inv B pins (L2.wipe σ vs') H' z ∧ tn1 jj z.heap ∧ (∀ b ∈ fp1, H' b = none) ∧ W1 jj k H') k z →
          TurnW B.prog B.w B.A (fun r z => match r with
            | .ok _ => P z
            | .error _ => False) B.env tg ifs (.ref it1) (fun k z => ∃ jj H', Inv B pins (L2.wipe σ vs') H' z ∧ tn1 jj z.heap ∧ (∀ b ∈ fp1, H' b = none) ∧ W1 jj k H')
            (fun n d => StepW B B.A (notedBy (model B.prog B.w) B.A B.env fun e z => False) elt gens scope pos (j + 1) (.ref D) (fun z => ∃ m, m < n ∧ ∃ jj H', Inv B pins (L2.wipe σ vs') H' z ∧ tn1 jj z.heap ∧ (∀ b ∈ fp1, H' b = none) ∧ W1 jj m H') d gs') k z := by
        rintro k s12 ⟨jj, H12, I12, st12, n12, w12⟩
        rcases turn1 jj k H12 w12 with ⟨stop1, nx1⟩ | ⟨go1, Nx1, hNx1, step1⟩
        · refine thnF (T1.done B rfl rfl rfl hc jj _ s12 (L2.wipe σ vs') H12 (fun _ _ => False) I12 (stat1 n12) st12 stop1) fun r s13 ⟨hr, I13⟩ => ?_
          subst hr
          exact hP s13 H12 I13 nx1
        · refine thnF (T1.item B rfl rfl rfl hc jj _ s12 (L2.wipe σ vs') H12 (fun _ _ => False) I12 (stat1 n12) st12 go1) fun r s13 ⟨u1, hr, h13⟩ => ?_
          subst hr
          refine thnF h13 fun _ s14 ⟨x1, H14, I14, r14, y14, st14, n14⟩ => ?_
          have I14' := I14.pinned (stat1 n14) (T1.obj _ _ st14)
          have qg := hg.run _ s14 (L2.wipe σ vs') H14 x1 u1 _ I14' r14 (step1 x1 H14 y14)
          rw [hx] at qg
          refine thnF qg fun _ s15 ⟨σ15, H15, I15, hw15, q15⟩ => ?_
          have qt := ht.run _ s15 σ15 H15 _ I15 q15
          rw [hx] at qt
          refine thnF qt fun b1 s16 ⟨H16, I16, q16⟩ => ?_
          have fin1 : ∀ {σx : Sg} {s' : Shared} {H' : Hp}, Inv B (pins ++ pinsAt fp1 s14.heap) σx H' s' → (L2.wipe σ vs').length = σx.length → (∀ (i : Nat) v, (L2.wipe σ vs')[i]? = some (some v) → σx[i]? = some (some v)) → Nx1 H' →
              ∃ m, m < k ∧ ∃ jj H', Inv B pins (L2.wipe σ vs') H' s' ∧ tn1 jj s'.heap ∧ (∀ b ∈ fp1, H' b = none) ∧ W1 jj m H' := fun {σx s' H'} I' hl hk nx => by
            obtain ⟨m', hm, w'⟩ := hNx1 H' nx
            have pin' : ∀ b ∈ fp1, ∀ o, s14.heap.get? b = some o → s'.heap.get? b = some o ∧ H' b = none := fun b hb o e =>
              let z := I'.pin (b, o) (List.mem_append_right _ (List.mem_append_right _ (mem_pinsAt hb e)))
              ⟨z.1, z.2.1⟩
            refine ⟨m', hm, jj + 1, H', I'.unpinned.weak hl hk, T1.keep _ _ _ st14 fun b hb o e => (pin' b hb o e).1, fun b hb => ?_, w'⟩
            obtain ⟨o, e, _⟩ := T1.obj _ _ st14 b hb
            exact (pin' b hb o e).2
          have len15 : (L2.wipe σ vs').length = σ15.length := by rw [← hw15, L2.wipe_length]
          cases b1 with
          | false =>
            simp only [Bool.false_eq_true, if_false] at q16 ⊢
            exact fin1 I16 len15 (fun i v e => by rw [← hw15] at e; exact (L2.wipe_some e).1) q16
          | true =>
            simp only [if_true] at q16 ⊢
            exact ih gs' vs' hr (j + 1) hj1 _ _ σ15 H16 s16 Nx1 I16 q16 _ fun z H' Iz nz => fin1 Iz (by rw [len15, endSl_length]) (fun i v e => endSl_keep hr (by rw [hw15]; exact e)) nz
      have start : (fun k z => ∃ jj H', Inv B pins (L2.wipe σ vs') H' z ∧ tn1 jj z.heap ∧ (∀ b ∈ fp1, H' b = none) ∧ W1 jj k H') m1 f :=
        ⟨0, H11, I11.weak (L2.wipe_length _ _) (fun j v e => (L2.wipe_some e).1), st11, fun b hb => (f11 b hb).1, w1⟩
      cases hr with
      | nil => exact loop_last hj0 (hj1 0) _ turn m1 start
      | cons hi' hg' ht' hs' hv' hr' => exact loop_mid hj0 (hj1 0) hs' _ turn m1 start
    exact start_any hj0 loop (T1.self B.A 0 _ _ _ st11 loop)
end DL

set_option Elab.async false
set_option linter.all false
set_option maxRecDepth 100000
set_option maxHeartbeats 2000000
namespace DL
open PySem PySem.Spec PyProof.Rows L2
/-- [elt for tg in iter if .. for .. ..]: the first clause opens the block, the rest is tIn's -/
def tLcN (wi : TI) (g : TG) (tt : TT) (r : List Cl) (te : TE) (vs : List Nat) : TE := fun σ H Q => wi σ H fun J H1 => ∀ D, H1 D = none → ∃ W : Nat → Nat → Hp → Prop, (∃ m, W 0 m (upd H1 D (.lst []))) ∧ ∀ i m H, W i m H →
  (J.stop i H ∧ Q (.ref D) H) ∨ (J.go i H ∧ ∃ Nx : Hp → Prop, (∀ H', Nx H' → ∃ m', m' < m ∧ W (i + 1) m' H') ∧
    ∀ x H', J.yld i H x H' → g x (L2.wipe σ vs) H' fun σ2 H2 => L2.wipe σ2 vs = L2.wipe σ vs ∧ tt σ2 H2 fun b H3 => if b = true then tIn D te r σ2 H3 Nx else Nx H3)
section
variable {X : Cx}
theorem pe_lcN {elt tg iter : Expr} {ifs : List Expr} {gs : List Comprehension} {scope : Scope} {own : List (Str × Nat)} {pos : Pos} {wi : TI} {g : TG} {tt : TT} {r : List Cl} {te : TE} (hc : X.calm = true) (hN : X.N.Nodup) (hi : PI X tg iter wi) (ok : BlkOk X.N X.env.scope scope own)
    (hg : ∀ (s : Shared) (H : Hp) (C : Addr) (cl : List (Str × Addr)) (fp : List Addr), PG (X.blk s H scope (compEnvC scope cl C X.env) fp) tg g) (ht : ∀ (s : Shared) (H : Hp) (C : Addr) (cl : List (Str × Addr)) (fp : List Addr), PTs (X.blk s H scope (compEnvC scope cl C X.env) fp) ifs tt)
    (hcl : ∀ (s : Shared) (H : Hp) (C : Addr) (cl : List (Str × Addr)) (fp : List Addr), Cls (X.blk s H scope (compEnvC scope cl C X.env) fp) (own.map (·.2)) gs r)
    (he : ∀ (s : Shared) (H : Hp) (C : Addr) (cl : List (Str × Addr)) (fp : List Addr), PE (X.blk s H scope (compEnvC scope cl C X.env) fp) elt te) (hs : ∀ x, foldedSetIterable iter X.env x = pure x := by intro _; rfl) :
    PE X (.ListComp elt (⟨tg, iter, ifs, 0⟩ :: gs) scope pos) (tLcN wi g tt r te (own.map (·.2))) := by
  refine ⟨fun pins s σ H Q I h => ?_⟩
  rw [eval_ListComp]
  have cells : closureFor scope X.env = pure (cloFrom X.env.cells scope.names []) := closure_ok fun y hy e => (ok.free y hy e).elim (fun k => I.ok.has _ (.inl k)) fun k => I.ok.has _ (.inr k)
  refine wpAny_comprehension_free rfl hs cells ok.kind (fun y hy e => by rw [ok.uniq y hy, e]) (thn (hi.run pins s σ H _ I h) fun xv sa ha => thn ha fun itv sb hb => ?_)
  obtain ⟨it, fp, tn, J, Hb, ei, Ib, T, st, free, q⟩ := hb
  subst ei
  refine wpAny_newObj_type (newEnv_comp ?_) (by show 0 ≤ sizeLine; decide)
  obtain ⟨W, ⟨m0, w0⟩, turn⟩ := q _ (Ib.hok.fresh (Nat.le_refl sb.heap.objs.size))
  -- the list, then the block's names
  have Ic : Inv X pins σ (upd Hb sb.heap.objs.size (.lst [])) { sb with heap := sb.heap.push { cls := .type "list", data := .seq ([] : List Value).toArray } } :=
    Ib.laid (t' := sb.toks) (fun b o e => Heap.get?_push_of_some _ e) (Nat.le_refl _) ⟨Nat.zero_le _, [], 0, .nil, Heap.get?_push_size _ rfl⟩
  have fc : ∀ b ∈ fp, FpOk X pins (upd Hb sb.heap.objs.size (.lst [])) b ∧ b < (sb.heap.push { cls := .type "list", data := .seq ([] : List Value).toArray }).objs.size := fun b hb => by
    obtain ⟨o, e, _⟩ := T.obj _ _ st b hb
    have lt := Heap.lt_size e
    exact ⟨⟨by rw [upd_ne (Nat.ne_of_lt lt)]; exact (free b hb).1, (free b hb).2⟩, by rw [Heap.size_push]; exact Nat.lt_succ_of_lt lt⟩
  have stc : tn 0 (sb.heap.push { cls := .type "list", data := .seq ([] : List Value).toArray }) := T.keep _ _ _ st fun b _ o e => Heap.get?_push_of_some _ e
  generalize hD : sb.heap.objs.size = D at Ic fc w0 turn ⊢
  generalize hsc : ({ sb with heap := sb.heap.push { cls := .type "list", data := .seq ([] : List Value).toArray } } : Shared) = sc at Ic ⊢
  have hcs : sb.heap.push { cls := .type "list", data := .seq ([] : List Value).toArray } = sc.heap := by rw [← hsc]
  rw [hcs] at fc stc
  have Id := block_start Ic ok hN fc
  have st2 : tn 0 (pushCells (sc.heap.push { cls := .type "dict", data := .dict #[] }) scope.names) := T.keep _ _ _ stc fun b _ o e => pushCells_keeps _ _ _ _ (Heap.get?_push_of_some _ e)
  generalize hH : upd Hb D (.lst []) = H3 at Ic fc w0 Id
  have pg := hg sc H3 sc.heap.objs.size (cellsFrom (sc.heap.objs.size + 1) scope.names (cloFrom X.env.cells scope.names [])) fp
  have pt := ht sc H3 sc.heap.objs.size (cellsFrom (sc.heap.objs.size + 1) scope.names (cloFrom X.env.cells scope.names [])) fp
  have pc := hcl sc H3 sc.heap.objs.size (cellsFrom (sc.heap.objs.size + 1) scope.names (cloFrom X.env.cells scope.names [])) fp
  have pe := he sc H3 sc.heap.objs.size (cellsFrom (sc.heap.objs.size + 1) scope.names (cloFrom X.env.cells scope.names [])) fp
  show codeAny (model X.prog X.w) X.A (.compStart (.ListComp elt (⟨tg, iter, ifs, 0⟩ :: gs) scope pos) 0 (.ref it) (.ref D) (compEnvC scope (cellsFrom (sc.heap.objs.size + 1) scope.names (cloFrom X.env.cells scope.names [])) sc.heap.objs.size X.env))
    (compPost (model X.prog X.w) X.A X.xe none (EP X pins σ Q) (.ref D) sc.heap.objs.size) { sc with heap := pushCells (sc.heap.push { cls := .type "dict", data := .dict #[] }) scope.names }
  generalize hce : compEnvC scope (cellsFrom (sc.heap.objs.size + 1) scope.names (cloFrom X.env.cells scope.names [])) sc.heap.objs.size X.env = ce at Id pg pt pc pe ⊢
  have cL : ce.locals = sc.heap.objs.size := by subst hce; rfl
  generalize hsd : ({ sc with heap := pushCells (sc.heap.push { cls := .type "dict", data := .dict #[] }) scope.names } : Shared) = sd at Id ⊢
  have std : tn 0 sd.heap := by rw [← hsd]; exact st2
  have can : ∀ {σ' : Sg} {H' : Hp} {z : Shared}, Inv (X.blk sc H3 scope ce fp) [] σ' H' z → (∀ b ∈ fp, H' b = none) → ∀ b ∈ fp, FpOk (X.blk sc H3 scope ce fp) [] H' b := fun I' hn b hb =>
    ⟨hn b hb, (I'.ok.exf b hb).1, I'.ok.exfs b hb, .inl hb, fun x c e => (I'.ok.exf b hb).2 x c e, fun p hp => absurd (show p ∈ ([] : List (Addr × Obj)) ++ [] from hp) (by simp)⟩
  have go : ∀ n z, (fun n z => ∃ i H', Inv (X.blk sc H3 scope ce fp) [] (L2.wipe σ (own.map (·.2))) H' z ∧ tn i z.heap ∧ (∀ b ∈ fp, H' b = none) ∧ W i n H') n z →
      TurnW X.prog X.w X.A (compPost (model X.prog X.w) X.A X.xe none (EP X pins σ Q) (.ref D) sc.heap.objs.size) ce tg ifs (.ref it) (fun n z => ∃ i H', Inv (X.blk sc H3 scope ce fp) [] (L2.wipe σ (own.map (·.2))) H' z ∧ tn i z.heap ∧ (∀ b ∈ fp, H' b = none) ∧ W i n H')
        (fun n d => StepW (X.blk sc H3 scope ce fp) X.A (notedBy (model X.prog X.w) X.A ce fun e z => compPost (model X.prog X.w) X.A X.xe none (EP X pins σ Q) (.ref D) sc.heap.objs.size (.error e) z) elt (⟨tg, iter, ifs, 0⟩ :: gs) scope pos 1 (.ref D)
          (fun z => ∃ m, m < n ∧ ∃ i H', Inv (X.blk sc H3 scope ce fp) [] (L2.wipe σ (own.map (·.2))) H' z ∧ tn i z.heap ∧ (∀ b ∈ fp, H' b = none) ∧ W i m H') d gs) n z := by
    rintro n z ⟨i, H5, I5, t5, n5, w5⟩
    rcases turn i n H5 w5 with ⟨stop, qq⟩ | ⟨more, Nx, hNx, step⟩
    · refine thnF (T.done (X.blk sc H3 scope ce fp) rfl rfl rfl hc i [] z _ H5 (fun _ _ => False) I5 (can I5 n5) t5 stop) fun r y ⟨hr, I6⟩ => ?_
      subst hr
      have I7 : Inv X pins σ H5 y := Ic.call' (ch := fp) I6.os I6.base I6.hok I6.bare fun b hb => ⟨(fc b hb).1.2.2.2.1, (fc b hb).1.2.1, (fc b hb).1.2.2.2.2.1, (fc b hb).1.2.2.2.2.2⟩
      have nC : H5 sc.heap.objs.size = none := by rw [← cL]; exact I6.free
      obtain ⟨m, hn, _⟩ := I6.loc
      obtain ⟨f0, f1, _, f3, f4, f5⟩ := Ic.fpOk (Nat.le_refl _) nC
      exact ⟨m, by rw [← cL]; exact hn, fun h2 sb2 => ⟨.ref D, H5, I7.turned (t' := y.toks) (fun b o hb e => (sb2.2 b hb).trans e) f0 f1 f3 f4 f5, rfl, qq⟩⟩
    · refine thnF (T.item (X.blk sc H3 scope ce fp) rfl rfl rfl hc i [] z _ H5 (fun _ _ => False) I5 (can I5 n5) t5 more) fun r y ⟨u, hr, h6⟩ => ?_
      subst hr
      refine thnF h6 fun _ s7 ⟨x, H7, I7, r7, y7, t7, n7⟩ => ?_
      refine thnF (pg.run _ s7 _ H7 x u _ (I7.pinned (can I7 n7) (T.obj _ _ t7)) r7 (step x H7 y7)) fun _ s8 ⟨σ8, H8, I8, hw8, q8⟩ => ?_
      refine thnF (pt.run _ s8 σ8 H8 _ I8 q8) fun b s9 ⟨H9, I9, q9⟩ => ?_
      have len8 : (L2.wipe σ (own.map (·.2))).length = σ8.length := by rw [← hw8, L2.wipe_length]
      have back : ∀ {σx : Sg} {z' : Shared} {H' : Hp}, Inv (X.blk sc H3 scope ce fp) ([] ++ pinsAt fp s7.heap) σx H' z' → (L2.wipe σ (own.map (·.2))).length = σx.length → (∀ (k : Nat) v, (L2.wipe σ (own.map (·.2)))[k]? = some (some v) → σx[k]? = some (some v)) → Nx H' →
          ∃ m, m < n ∧ ∃ i H', Inv (X.blk sc H3 scope ce fp) [] (L2.wipe σ (own.map (·.2))) H' z' ∧ tn i z'.heap ∧ (∀ b ∈ fp, H' b = none) ∧ W i m H' := fun {σx z' H'} I' hl hk nx => by
        obtain ⟨m', hm, w'⟩ := hNx H' nx
        have there : ∀ b ∈ fp, ∀ o, s7.heap.get? b = some o → z'.heap.get? b = some o ∧ H' b = none := fun b hb o e =>
          ⟨(I'.pin (b, o) (List.mem_append_right _ (List.mem_append_right _ (mem_pinsAt hb e)))).1, (I'.pin (b, o) (List.mem_append_right _ (List.mem_append_right _ (mem_pinsAt hb e)))).2.1⟩
        refine ⟨m', hm, i + 1, H', (I'.unpinned (pins := [])).weak hl hk, T.keep _ _ _ t7 fun b hb o e => (there b hb o e).1, fun b hb => ?_, w'⟩
        obtain ⟨o, e, _⟩ := T.obj _ _ t7 b hb
        exact (there b hb o e).2
      cases b with
      | false =>
        simp only [Bool.false_eq_true, if_false] at q9 ⊢
        exact back I9 len8 (fun k v e => by rw [← hw8] at e; exact (L2.wipe_some e).1) q9
      | true =>
        simp only [if_true] at q9 ⊢
        exact cls_core (B := X.blk sc H3 scope ce fp) (gens := ⟨tg, iter, ifs, 0⟩ :: gs) hc rfl pe r gs _ pc 1 (fun k => by rw [Nat.add_comm]; rfl) _ _ σ8 H9 s9 Nx I9 q9 _ fun z' H' Iz nz => back Iz (by rw [len8, endSl_length]) (fun k v e => endSl_keep pc (by rw [hw8]; exact e)) nz
  have loop : codeAny (model X.prog X.w) X.A (.compLoop (.ListComp elt (⟨tg, iter, ifs, 0⟩ :: gs) scope pos) 0 (.ref it) (.ref D) ce) (compPost (model X.prog X.w) X.A X.xe none (EP X pins σ Q) (.ref D) sc.heap.objs.size) sd := by
    have start : (fun n z => ∃ i H', Inv (X.blk sc H3 scope ce fp) [] (L2.wipe σ (own.map (·.2))) H' z ∧ tn i z.heap ∧ (∀ b ∈ fp, H' b = none) ∧ W i n H') m0 sd := ⟨0, H3, Id, std, fun b hb => (fc b hb).1.1, w0⟩
    cases pc with
    | nil => exact loop_last rfl rfl _ go m0 start
    | cons hi' hg' ht' hs' hv' hr' => exact loop_mid rfl rfl hs' _ go m0 start
  exact codeAny_compStart_list loop (T.self X.A 0 _ _ _ std loop)
end
end DL

set_option Elab.async false
set_option linter.all false
set_option maxRecDepth 100000
set_option maxHeartbeats 2000000
namespace DL
open PySem PySem.Spec PyProof.Rows L2
/-- what the turns up to n give, one after another -/
def flat (F : Nat → List D) (n : Nat) : List D := ((List.range n).map F).flatten
theorem flat_succ (F : Nat → List D) (n : Nat) : flat F (n + 1) = flat F n ++ F n := by
  unfold flat
  rw [List.range_succ, List.map_append, List.flatten_append]
  simp
theorem flat_nil {F : Nat → List D} : ∀ {n : Nat}, (∀ i, i < n → F i = []) → flat F n = []
  | 0, _ => rfl
  | n + 1, h => by rw [flat_succ, flat_nil (n := n) fun i hi => h i (by omega), h n (by omega)]; rfl
theorem flat_le (F : Nat → List D) {i n : Nat} (h : i ≤ n) : (flat F i).length ≤ (flat F n).length := by
  induction h with
  | refl => exact Nat.le_refl _
  | step _ ih => rw [flat_succ, List.length_append]; omega
section
variable (K : PySem.W.Frag) (β : Bas)
/-- the clauses r and the item lay the data L behind what stands in the list -/
def EVIn (r : List Cl) (te : TE) (env : Env') (L : List D) : Prop := ∀ σ G0 H0, Good K β σ env G0 H0 → ∀ (Dl : Addr), H0 Dl = none → ∀ G H acc as, Stp G0 H0 G H → G Dl = none → H Dl = some (.lst acc) → DatL K G acc as → as.length + L.length < sizeLine →
  ∀ Nx : Hp → Prop, (∀ G' H' acc', Stp G0 H0 G' H' → Ex G G' → G' Dl = none → H' Dl = some (.lst acc') → DatL K G' acc' (as ++ L) → Nx H') → tIn Dl te r σ H Nx
end
section
variable {K : PySem.W.Frag} {β : Bas} {env : Env'} {ta tb te tc : TE} {tt tu : TT} {x y z d : D} {v w : V}
theorem evin_nil (h : EV K β te env d) : EVIn K β [] te env [d] := fun σ G0 H0 g Dl hD G H acc as t hG hl da hz Nx q =>
  h σ G H (g.up t) _ fun y G4 H4 t4 dy => by
    have a4 : G4 Dl = none := t4.ow _ hG (by rw [hl]; exact (fun e => nomatch e))
    refine ⟨acc, t4.hh _ _ hl, ?_, q G4 _ (acc ++ [y]) ((t.trans t4).side hD a4) t4.gg a4 upd_same ((da.up t4.gg).append (.one dy))⟩
    rw [da.length]
    exact Nat.lt_of_le_of_lt (Nat.le_add_right _ _) hz
theorem turns {j : Nat} {vs : List Nat} {r : List Cl} {ds : List D} {f : Nat → Bool} {F : Nat → List D} (hj : j ∈ vs)
    (hs : ∀ i v d, ds[i]? = some d → EVT K β tt ((wipeE env vs).set j (.val v d)) (f i) ∧ (f i = true → EVIn K β r te ((wipeE env vs).set j (.val v d)) (F i))) (hf : ∀ i, i < ds.length → f i = false → F i = [])
    {σ : Sg} {G0 H0 : Hp} (g : Good K β σ env G0 H0) {Dl : Addr} (hD : H0 Dl = none) {G1 H1 : Hp} {acc : List V} {as : List D} (t01 : Stp G0 H0 G1 H1) (hG1 : G1 Dl = none) (hl1 : H1 Dl = some (.lst acc)) (da1 : DatL K G1 acc as) (hz : as.length + (flat F ds.length).length < sizeLine)
    {J : It} {us : List V} (hd : DatL K G1 us ds) (hJ : ItV J G1 us) {Nx : Hp → Prop} (q : ∀ G' H' acc', Stp G0 H0 G' H' → Ex G1 G' → G' Dl = none → H' Dl = some (.lst acc') → DatL K G' acc' (as ++ flat F ds.length) → Nx H') :
    ∃ W1 : Nat → Nat → Hp → Prop, (∃ m, W1 0 m H1) ∧ ∀ i k H, W1 i k H → (J.stop i H ∧ Nx H) ∨ (J.go i H ∧ ∃ Nx1 : Hp → Prop, (∀ H', Nx1 H' → ∃ k', k' < k ∧ W1 (i + 1) k' H') ∧
      ∀ x H', J.yld i H x H' → gName j x (L2.wipe σ vs) H' fun σ3 H5 => L2.wipe σ3 vs = L2.wipe σ vs ∧ tt σ3 H5 fun b H6 => if b = true then tIn Dl te r σ3 H6 Nx1 else Nx1 H6) := by
  refine ⟨fun i m H' => m = us.length - i ∧ i ≤ us.length ∧ ∃ G' acc', Stp G0 H0 G' H' ∧ Ex G1 G' ∧ Ex G' H' ∧ G' Dl = none ∧ H' Dl = some (.lst acc') ∧ DatL K G' acc' (as ++ flat F i),
    ⟨us.length, by simp, Nat.zero_le _, G1, acc, t01, .refl _, t01.gh, hG1, hl1, by rw [show flat F 0 = [] from rfl, List.append_nil]; exact da1⟩, ?_⟩
  rintro i m H' ⟨rfl, hi, G', acc', t2, e2, gh2, hG2, hl2, da2⟩
  by_cases hlt : i < us.length
  · have hx : us[i]? = some us[i] := List.getElem?_eq_getElem hlt
    obtain ⟨d, hdi, dx⟩ := hd.getV hx
    obtain ⟨hT, hE⟩ := hs i us[i] d hdi
    obtain ⟨hgo, hyl⟩ := (hJ i H' (e2.trans gh2)).2 _ hx
    refine .inr ⟨hgo, fun H'' => ∃ G'' acc'', Stp G0 H0 G'' H'' ∧ Ex G1 G'' ∧ Ex G'' H'' ∧ G'' Dl = none ∧ H'' Dl = some (.lst acc'') ∧ DatL K G'' acc'' (as ++ flat F (i + 1)), fun H'' z => ⟨us.length - (i + 1), by omega, rfl, hlt, z⟩, fun x H'' hy => ?_⟩
    obtain ⟨rfl, rfl⟩ := hyl _ _ hy
    -- the slots, at the base
    refine ⟨wipe_set σ vs j _ hj, ?_⟩
    have gB := ((g.up t2).wipe vs).set j (dx.up e2)
    refine hT _ _ _ gB _ fun G3 H3 t3 => ?_
    have a3 : G3 Dl = none := t3.ow _ hG2 (by rw [hl2]; exact (fun e => nomatch e))
    cases hfi : f i with
    | false =>
      rw [if_neg Bool.false_ne_true]
      refine ⟨G3, acc', t2.trans t3, e2.trans t3.gg, t3.gh, a3, t3.hh _ _ hl2, ?_⟩
      rw [flat_succ, hf i (by rw [← hd.length]; exact hlt) hfi, List.append_nil]
      exact da2.up t3.gg
    | true =>
      rw [if_pos rfl]
      -- a new base: the heap without the list
      have tB : Stp G0 H0 G3 (fun b => if b = Dl then none else H3 b) := ⟨(t2.trans t3).gg, fun a o e => by
          show (if a = Dl then none else H3 a) = some o
          rw [if_neg (fun z => by rw [z, hD] at e; cases e)]; exact (t2.trans t3).hh a o e, fun a o e => by
          show (if a = Dl then none else H3 a) = some o
          rw [if_neg (fun z => by rw [z, a3] at e; cases e)]; exact t3.gh a o e, (t2.trans t3).ow⟩
      have tC : Stp G3 (fun b => if b = Dl then none else H3 b) G3 H3 := ⟨.refl _, fun a o e => by
          have e' : (if a = Dl then none else H3 a) = some o := e
          by_cases hb : a = Dl
          · rw [if_pos hb] at e'; cases e'
          · rw [if_neg hb] at e'; exact e', t3.gh, fun a e _ => e⟩
      have gC := ((g.up tB).wipe vs).set j (dx.up (e2.trans t3.gg))
      refine hE hfi _ G3 _ gC Dl (if_pos rfl) G3 H3 acc' (as ++ flat F i) tC a3 (t3.hh _ _ hl2) (da2.up t3.gg) ?_ _ fun G4 H4 acc4 t4 e4 a4 l4 d4 => ?_
      · have h1 := flat_le F (show i + 1 ≤ ds.length by rw [← hd.length]; exact hlt)
        rw [flat_succ, List.length_append] at h1
        rw [List.length_append]
        omega
      · exact ⟨G4, acc4, tB.trans t4, (e2.trans t3.gg).trans e4, t4.gh, a4, l4, by rw [flat_succ, ← List.append_assoc]; exact d4⟩
  · have hil : i = us.length := by omega
    refine .inl ⟨(hJ i H' (e2.trans gh2)).1 hil, ?_⟩
    rw [hil, hd.length] at da2
    exact q G' H' acc' t2 e2 hG2 hl2 da2
theorem evin_cons {wi : TI} {j : Nat} {vs : List Nat} {r : List Cl} {ds : List D} {f : Nat → Bool} {F : Nat → List D} (hI : EVI K β wi env ds) (hj : j ∈ vs)
    (hs : ∀ i v d, ds[i]? = some d → EVT K β tt ((wipeE env vs).set j (.val v d)) (f i) ∧ (f i = true → EVIn K β r te ((wipeE env vs).set j (.val v d)) (F i))) (hf : ∀ i, i < ds.length → f i = false → F i = []) :
    EVIn K β ((wi, gName j, tt, vs) :: r) te env (flat F ds.length) := fun σ G0 H0 g Dl hD G H acc as t hG hl da hz Nx q => by
  refine hI σ G H (g.up t) _ fun J us G1 H1 t1 hd hJ => ?_
  have hG1 : G1 Dl = none := t1.ow _ hG (by rw [hl]; exact (fun e => nomatch e))
  exact turns hj hs hf g hD (t.trans t1) hG1 (t1.hh _ _ hl) (da.up t1.gg) hz hd hJ fun G' H' acc' a b c d e => q G' H' acc' a (t1.gg.trans b) c d e
/-- the whole comprehension -/
theorem ev_lcM {wi : TI} {j : Nat} {vs : List Nat} {r : List Cl} {ds : List D} {f : Nat → Bool} {F : Nat → List D} (hI : EVI K β wi env ds) (hj : j ∈ vs)
    (hs : ∀ i v d, ds[i]? = some d → EVT K β tt ((wipeE env vs).set j (.val v d)) (f i) ∧ (f i = true → EVIn K β r te ((wipeE env vs).set j (.val v d)) (F i))) (hf : ∀ i, i < ds.length → f i = false → F i = []) (hz : (flat F ds.length).length < sizeLine) :
    EV K β (tLcN wi (gName j) tt r te vs) env (.lst (flat F ds.length)) := fun σ G H g Q q => by
  refine hI σ G H g _ fun J us G1 H1 t1 hd hJ Dl hD => ?_
  refine turns hj hs hf (g.up t1) hD ((Stp.refl t1.gh).side hD (t1.gh.back hD)) (t1.gh.back hD) upd_same .nil (by simpa using hz) hd hJ fun G' H' acc' t2 e2 a2 l2 d2 => ?_
  exact q _ (upd G' Dl (.lst acc')) H' (t1.trans (t2.take hD a2 l2)) (.lst upd_same (DatL.up (by simpa using d2) (.new a2)))
end
end DL

set_option Elab.async false
set_option linter.all false
set_option maxRecDepth 100000
set_option maxHeartbeats 2000000
namespace DL
open PySem PySem.Spec PyProof.Rows L2
section
variable {K : PySem.W.Frag} {β : Bas} {env : Env'} {ta tb te tc to : TE} {tt tu : TT} {x y z d : D} {v w : V} {P : Post} {W : WX} {ts tr : TS}
theorem owns_own {env : Env'} {i : Nat} {a : Addr} {ds : List D} (hi : env[i]? = some (.own a ds)) : a ∈ owns env := List.mem_filterMap.mpr ⟨_, List.mem_of_getElem? hi, rfl⟩
theorem seqIx_nat {n l : Nat} (h : n < l) : PySem.seqIndex? (n : Int) l = some n := by
  unfold PySem.seqIndex?
  simp
  omega
/-- xs.pop(e), xs one's own; e may ask the box -/
theorem xe_popAt {i : Nat} {tk : TE} {P1 PP : V → D → Env' → Prop} (h0 : ∃ a ds, env[i]? = some (.own a ds)) (he : XE K β tk env P1)
    (k : ∀ v d e, P1 v d e → ∃ (a : Addr) (ds : List D) (n : Nat) (x : D), d = .int (n : Nat) ∧ e[i]? = some (.own a ds) ∧ ds[n]? = some x ∧ n < 2 ^ 62 ∧ ∀ u, PP u x (e.set i (.own a (ds.eraseIdx n)))) :
    XE K β (tBM K "list" rPopAt (tVar i) (tCons tk tNil)) env PP := fun σ G H g Q q => by
  obtain ⟨a0, ds0, hi0⟩ := h0
  obtain ⟨h1, h2, h3, xs, h4, h5⟩ := g.own hi0
  refine ⟨.ref a0, h1, .inl ⟨rfl, xs, .of h4⟩, he σ G H g _ fun v d e G1 H1 g1 t1 e1 dv p1 => ?_⟩
  obtain ⟨a, ds, n, x, rfl, hi, hx, hn, hP⟩ := k _ _ _ p1
  obtain ⟨h1', h2', h3', ys, h4', h5'⟩ := g1.own hi
  obtain rfl : a = a0 := by
    rw [h1] at h1'
    cases h1'
    rfl
  obtain ⟨y, hy, dy⟩ := h5'.get hx
  have hl : n < ys.length := (List.getElem?_eq_some_iff.mp hy).1
  refine ⟨a, ys, n, n, y, rfl, by rw [dv.intV], h4', by omega, by omega, seqIx_nat hl, hy, ?_⟩
  have hm : a ∈ owns env := owns_own hi0
  refine q y x _ G1 _ (g1.write hi (h5'.erase n)) ⟨t1.gg, fun b o ho => ?_, fun b o hb ho => ?_, t1.ow⟩ (by rw [← e1]; exact nd_own hi) dy (hP y)
  · rw [upd_ne (fun z => by subst z; rw [h3'] at ho; cases ho)]; exact t1.gh b o ho
  · rw [upd_ne (fun z => hb (by rw [z]; exact hm))]; exact t1.hh b o hb ho
/-- xs.append(e), xs one's own; e may change what is one's own -/
theorem ex_appX {i : Nat} {P1 : V → D → Env' → Prop} (h0 : ∃ a ds, env[i]? = some (.own a ds)) (he : XE K β te env P1)
    (k : ∀ v d e, P1 v d e → ∃ a ds, e[i]? = some (.own a ds) ∧ ds.length < sizeLine ∧ P.nx (e.set i (.own a (ds ++ [d])))) : EX K β W (tDrop (tBM K "list" rAppend (tVar i) (tCons te tNil))) env P := fun σ G H g Dn c x => by
  obtain ⟨a0, ds0, hi0⟩ := h0
  obtain ⟨h1, h2, h3, xs, h4, h5⟩ := g.own hi0
  refine ⟨.ref a0, h1, .inl ⟨rfl, xs, .of h4⟩, he σ G H g _ fun v d e G1 H1 g1 t1 e1 dv p1 => ?_⟩
  obtain ⟨a, ds, hi, hl, hn⟩ := k _ _ _ p1
  obtain ⟨h1', h2', h3', ys, h4', h5'⟩ := g1.own hi
  obtain rfl : a = a0 := by
    rw [h1] at h1'
    cases h1'
    rfl
  exact ⟨a, ys, v, rfl, rfl, h4', by rw [h5'.length]; exact hl, c.nx _ _ G1 _ (g1.write hi (h5'.append (.one dv))) t1.gg hn⟩
/-- a, b = list(x), []: both one's own -/
theorem ex_parNew2 {i j : Nat} {tg : TE} {es : List D} (hij : i ≠ j) (hg : EV K β tg env (.lst es))
    (k : ∀ p r, P.nx ((env.set i (.own p es)).set j (.own r []))) : EX K β W (tPar i j (tCons (tCB (rListOf K) (tCons tg tNil)) (tCons (tLst tNil) tNil))) env P := fun σ G H g Dn c x =>
  hg σ G H g _ fun v1 G1 H1 t1 d1 => by
    obtain ⟨a, xs, rfl, ha, hx⟩ := d1.lstV
    have g1 := g.up t1
    refine ⟨a, xs, rfl, .inl (.inl (.inl (t1.gh _ _ ha))), fun p hp => ?_⟩
    have hGp : G1 p = none := t1.gh.back hp
    have g2 := g1.up ((Stp.refl t1.gh).side (o := .lst xs) hp hGp)
    refine ⟨by show 0 ≤ _; exact Nat.zero_le _, fun r hr => ?_⟩
    have hpr : p ≠ r := fun z => by rw [← z, upd_same] at hr; cases hr
    have g3 := g2.newOwn (a := r) (ds := []) (xs := []) j hr .nil
    have hna : p ∉ owns (env.set j (.own r [])) := fun m => by
      have na : r ∉ env.filterMap ownA := fun m => g2.there m hr
      rcases (nd_newOwn (ds := []) na j g.nd).2 p m with z | z
      · exact hpr z
      · exact g1.there z hp
    have hβ : β.H p = none := by
      cases q : β.H p with
      | none => rfl
      | some o => exact absurd hp (g1.hn (by rw [q]; exact (fun e => nomatch e)))
    have g4 := g3.adopt i hβ hGp (by rw [upd_ne hpr, upd_same]) hna hx
    rw [List.set_comm _ _ (Ne.symm hij), List.set_comm _ _ (Ne.symm hij)] at g4
    exact ⟨_, _, rfl, c.nx _ _ G1 _ g4 t1.gg (k p r)⟩
/-! ### range objects -/
def rRg1 : List V → Hp → VK → Prop := fun vs H Q => ∃ j, vs = [V.int j] ∧ ∀ p, H p = none → Q (.ref p) (upd H p (.rng 0 j))
theorem cr_range1 {X : Cx} : CallR X (.type "range") rRg1 := by
  intro pins s σ H vs us Q I r h
  obtain ⟨j, rfl, q⟩ := h
  cases r with
  | cons r rr =>
    cases rr
    obtain ⟨u, rfl⟩ := r
    refine call_range_1 ⟨.ref s.heap.objs.size, upd H s.heap.objs.size (.rng 0 j), I.laid (fun b o e => Heap.get?_push_of_some _ e) (Nat.le_refl _) ?_, rfl, q _ (I.hok.fresh (Nat.le_refl _))⟩
    exact ⟨_, _, _, Heap.get?_push_size _ rfl⟩
theorem cb_range1 {n : Int} : CbD K rRg1 [.int n] (.rng 0 n) := fun G H vs e dl Q q => by
  cases dl with | cons a t => cases t; cases a; exact ⟨n, rfl, fun p hp => q _ (upd G p (.rng 0 n)) _ (.new e hp) (.rng upd_same)⟩
def iRngO (te : TE) : TI := fun σ H R => te σ H fun x H1 => ∃ a lo hi, x = .ref a ∧ H1 a = some (.rng lo hi) ∧ (-(2 ^ 62) ≤ lo ∧ lo < 2 ^ 62 ∧ -(2 ^ 62) ≤ hi ∧ hi < 2 ^ 62) ∧ R (Itr lo (hi - lo).toNat) H1
theorem pi_rngO {X : Cx} {tg l : Expr} {tl : TE} (hl : PE X l tl) : PI X tg l (iRngO tl) := by
  refine ⟨fun pins s σ H R I h => ?_⟩
  refine thn (hl.run pins s σ H _ I h) fun v s1 ⟨x, H1, I1, r1, q1⟩ => ?_
  obtain ⟨a, lo, hi, rfl, ha, ⟨h1, h2, h3, h4⟩, q⟩ := q1
  cases r1
  obtain ⟨t, u, v, ho⟩ := I1.hok a _ ha
  refine wpAny_pyIter_range (show IsRange s1.heap a lo hi 1 t u v from ho) (small_one h1 h2 h3 h4) ?_
  refine ⟨s1.heap.objs.size, [s1.heap.objs.size], _, _, H1, rfl, I1.kept (t' := s1.toks) fun b o e => Heap.get?_push_of_some _ e, turn_range _ lo (hi - lo).toNat, ?_, fun b hb => ?_, q⟩
  · have e1 : lo + ((0 : Nat) : Int) * 1 = lo := by simp
    have e2 : (((hi - lo).toNat : Nat) : Int) - ((0 : Nat) : Int) = Builtin.Range.rangeSize lo hi 1 := by rw [rangeSize_one]; split <;> omega
    show IsRangeIter _ _ (lo + ((0 : Nat) : Int) * 1) ((((hi - lo).toNat : Nat) : Int) - ((0 : Nat) : Int)) 1
    rw [e1, e2]
    exact Heap.get?_push_size _ rfl
  · have e : b = s1.heap.objs.size := by simpa using hb
    subst e
    exact I1.fpOk (Nat.le_refl _) (I1.hok.fresh (Nat.le_refl _))
theorem ei_rngO {tl : TE} {lo hi : Int} (h : EV K β tl env (.rng lo hi)) (hb : -(2 ^ 62) ≤ lo ∧ lo < 2 ^ 62 ∧ -(2 ^ 62) ≤ hi ∧ hi < 2 ^ 62) : EVI K β (iRngO tl) env (rgD lo (hi - lo).toNat) := fun σ G H g R q =>
  h σ G H g _ fun v G1 H1 t1 d1 => by
    cases d1 with | rng hG =>
    exact ⟨_, lo, hi, rfl, t1.gh _ _ hG, hb, q _ _ G1 H1 t1 (DatL.rg lo _) itv_rng⟩
/-! ### all, any -/
theorem cb_all {bs : List Bool} : CbD K (rAll K) [.lst (bs.map D.bl)] (.bl (bs.all id)) := fun G H vs e dl Q q => by
  cases dl with | cons dv t =>
  cases t
  obtain ⟨a, xs, rfl, ht, hd⟩ := dv.lstV
  exact ⟨a, bs, rfl, .inl (.inl (by rw [← DatL.blsV hd]; exact e _ _ ht)), q _ G H (.refl e) (.bl _)⟩
end
end DL

set_option Elab.async false
set_option linter.all false
set_option maxRecDepth 100000
set_option maxHeartbeats 2000000
namespace DL
open PySem PySem.Spec PyProof.Rows L2
/-! ### list(dict([(t, True), ..])), t tuples of ints -/
/-- at p stands a dict with the keys bs, in order -/
def DicO (p : Addr) (bs : List Addr) : HO := .ext fun h => ∃ o es ep, h.get? p = some o ∧ o.ExactDict ∧ o.data = .dict es ep ∧ es.toList.map (fun e => e.key) = bs.map Value.ref ∧ (p == sysModules) = false ∧ bs.length ≤ sizeLine
/-- the first places -/
def addR {α β : Type} [DecidableEq α] : List (α × β) → List (α × β) → List (α × β)
  | acc, [] => acc
  | acc, r :: rs => addR (if r.1 ∈ acc.map Prod.fst then acc else acc ++ [r]) rs
theorem addR_len {α β : Type} [DecidableEq α] : ∀ (rs acc : List (α × β)), (addR acc rs).length ≤ acc.length + rs.length
  | [], acc => Nat.le_refl _
  | r :: rs, acc => by
    unfold addR
    refine Nat.le_trans (addR_len rs _) ?_
    split
    · simp only [List.length_cons]; omega
    · simp only [List.length_append, List.length_cons, List.length_nil]; omega
def trip (r : List Key × Addr) : List Key × Addr × Value := (r.1, r.2, .bool true)
theorem atKey_none {xs : List (List Key × Addr)} {k : List Key} : (atKey (xs.map trip) k).isSome = true ↔ k ∈ xs.map Prod.fst := by
  induction xs with
  | nil => exact ⟨fun h => (nomatch h), fun h => (nomatch h)⟩
  | cons x xs ih =>
    rw [List.map_cons, List.map_cons, List.mem_cons, ← ih]
    unfold atKey
    rw [List.find?_cons]
    by_cases h : x.1 = k
    · rw [show decide ((trip x).1 = k) = true from decide_eq_true h]
      exact ⟨fun _ => .inl h.symm, fun _ => rfl⟩
    · rw [show decide ((trip x).1 = k) = false from decide_eq_false h]
      exact ⟨fun z => .inr z, fun z => z.resolve_left (fun e => h e.symm)⟩
theorem storedAll_addR : ∀ (rs acc : List (List Key × Addr)), storedAllH (acc.map trip) (rs.map trip) = (addR acc rs).map trip
  | [], acc => rfl
  | r :: rs, acc => by
    unfold addR
    rw [← storedAll_addR rs]
    show storedAllH (storedH (acc.map trip) r.1 r.2 (.bool true)) (rs.map trip) = _
    congr 1
    unfold storedH
    by_cases h : r.1 ∈ acc.map Prod.fst
    · rw [if_pos (atKey_none.mpr h), if_pos h, List.map_map]
      refine List.map_congr_left fun x _ => ?_
      show putAt r.1 (Value.bool true) (trip x) = trip x
      unfold putAt
      by_cases e : (trip x).1 = r.1
      · rw [if_pos e]; rfl
      · rw [if_neg e]
    · rw [if_neg (fun z => h (atKey_none.mp z)), if_neg h, List.map_append]
      rfl
def rDictPT (K : PySem.W.Frag) : List V → Hp → VK → Prop := fun xs H Q => ∃ (a : Addr) (rs : List (Addr × List Key × Addr)), xs = [.ref a] ∧ SqL K H a (rs.map fun r => V.ref r.1) ∧
  (∀ r ∈ rs, SqT K H r.1 [.ref r.2.2, .bl true] ∧ SqT K H r.2.2 (r.2.1.map kV)) ∧ ∀ p, H p = none → Q (.ref p) (upd H p (DicO p ((addR [] (rs.map fun r => r.2)).map (·.2))))
def rListDic : List V → Hp → VK → Prop := fun xs H Q => ∃ (d : Addr) (bs : List Addr), xs = [.ref d] ∧ H d = some (DicO d bs) ∧ ∀ p, H p = none → Q (.ref p) (upd H p (.lst (bs.map V.ref)))
section
variable {X : Cx}
theorem key_ofS {pins : List (Addr × Obj)} {σ : L2.St} {H : Hp} {s : Shared} (I : L2.Inv X pins σ H s) {ks : List Key} {a : Addr} (e : SqT X.K H a (ks.map kV)) : (tupleKind (mixKind X.prog X.w)).is s.heap ks a := by
  obtain ⟨its, rv, ht, _⟩ := I.tuple e
  obtain ⟨o, h1, h2, n, h3⟩ := ht
  exact ⟨o, its.toArray, n, h1, h2, h3, by simpa using items_are rv⟩
theorem call_dictPT (hcalm : X.calm = true) (hu : X.A.units + 8 < cLine) : CallR X (.type "dict") (rDictPT X.K) := by
  intro pins s σ H xs us Q I r q
  obtain ⟨a, rs, ex, hq, hp, q⟩ := q
  subst ex
  obtain ⟨u, eu, rx⟩ := vals1 r
  subst eu
  cases rx
  obtain ⟨its, rv, pl, hz⟩ := I.list hq
  have ei : its = rs.map fun r => Value.ref r.1 := by
    have := refs_at (ps := rs.map fun r => r.1) (us := its) (by rw [List.map_map]; exact rv)
    rw [this, List.map_map]; rfl
  subst ei
  rw [List.length_map] at hz
  obtain ⟨o, n, ho, hc, hd, hdat⟩ := pl
  have hm : (s.heap.objs.size == sysModules) = false := beq_eq_false_iff_ne.mpr (Nat.ne_of_gt I.big)
  have hpair : ∀ r ∈ rs, IsTup s.heap r.1 #[.ref r.2.2, .bool true] := fun r hr => by
    obtain ⟨its, rv, ht, _⟩ := I.tuple (hp r hr).1
    obtain ⟨u, y, ei, ru, ry⟩ := vals2 rv
    subst ei
    cases ru
    cases ry
    exact ht
  refine call_dict_pairsH (knd := tupleKind (mixKind X.prog X.w)) (ps := (rs.map fun r => r.2).map trip) (PairArg.list a (rs.map fun r => Value.ref r.1).toArray (fun j => ((rs[j]?).map (·.1)).getD 0) (rs.map fun r => (Value.ref r.2.2, Value.bool true)))
    (I.ok.hd hcalm) (show X.A.in1.in1.units < cLine from ?_) ⟨⟨o, n, ho, hc, hd, hdat⟩, by simp, fun j k v hj => ?_⟩ ⟨by simp, fun i key v hi => ?_⟩ (fun h' hk x hx => ?_) (by rw [List.length_map]; exact hz) fun h' tk hd' k => ?_
  · have : X.A.in1.in1.units ≤ X.A.units + 8 := by
      show _ ≤ _
      simp [Around.in1]
    omega
  · rw [List.getElem?_map] at hj
    cases hr : rs[j]? with
    | none => rw [hr] at hj; cases hj
    | some r =>
      rw [hr] at hj
      cases hj
      refine ⟨by simp [hr], .inl ?_⟩
      have e : ((Option.map (fun x => x.1) (some r)).getD 0) = r.1 := rfl
      simp only [hr]
      exact hpair r (List.mem_of_getElem? hr)
  · have hi' : (rs.map fun r => (Value.ref r.2.2, Value.bool true))[i]? = some (key, v) := hi
    rw [List.getElem?_map] at hi'
    cases hr : rs[i]? with
    | none => rw [hr] at hi'; cases hi'
    | some r =>
      rw [hr] at hi'
      cases hi'
      exact ⟨r.2.1, r.2.2, by simp [hr, trip], rfl⟩
  · obtain ⟨y, hy, rfl⟩ := List.mem_map.mp hx
    obtain ⟨r, hr, rfl⟩ := List.mem_map.mp hy
    have h0 := key_ofS I (hp r hr).2
    obtain ⟨o, its, n, h1, h2, h3⟩ := h0
    exact ⟨o, its, n, hk _ _ (Nat.ne_of_lt (Heap.lt_size h1)) (by simp) h1, h2, h3⟩
  · rw [show ([] : List (List Key × Addr × Value)) = ([] : List (List Key × Addr)).map trip from rfl, storedAll_addR] at hd'
    obtain ⟨o', es, ep, e1, e2, e3, e4, e5, e6⟩ := hd'
    have hlen : ((addR [] (rs.map fun r => r.2)).map (·.2)).length ≤ sizeLine := by
      rw [List.length_map]
      have := addR_len (rs.map fun r => r.2) []
      simp only [List.length_nil, List.length_map] at this
      omega
    refine ⟨.ref s.heap.objs.size, upd H s.heap.objs.size (DicO s.heap.objs.size ((addR [] (rs.map fun r => r.2)).map (·.2))), I.laid (t' := tk) (fun b o e => k b o (by simp) e) (Nat.le_refl _) ?_, rfl, q _ (I.hok.fresh (Nat.le_refl _))⟩
    refine ⟨⟨o', es, ep, e1, e2, e3, ?_, hm, hlen⟩, ⟨o', e1⟩, fun h1 h2 ⟨o, es, ep, f1, f2⟩ kk => ⟨o, es, ep, kk o f1, f2⟩⟩
    rw [e4, List.map_map, List.map_map, List.map_map]
    rfl
theorem call_listDic (hc : X.calm = true) : CallR X (.type "list") rListDic := by
  intro pins s σ H xs us Q I r h
  obtain ⟨d, bs, rfl, hd, q⟩ := h
  obtain ⟨u, rfl, rx⟩ := r.one
  cases rx
  obtain ⟨⟨o, es, ep, ho, hx, hdt, he, hs, hn⟩, _, _⟩ := (show ObjOk X.prog X.w H s.heap d (DicO d bs) from I.hok d _ hd)
  have l1 : es.size = bs.length := by
    have := congrArg List.length he
    rw [List.length_map, List.length_map, Array.length_toList] at this
    exact this
  refine PySem.W.kdl_call (kdl_raw hs hx hdt) (I.ok.hd hc) ho (by omega) fun h' tk acc' c' kp e it => ?_
  have ea : acc'.toList = bs.map Value.ref := by
    have hl : acc'.toList.length = bs.length := by rw [Array.length_toList, it.1]; exact l1
    apply List.ext_getElem?
    intro j
    rw [← he, List.getElem?_map]
    cases hj : acc'.toList[j]? with
    | none =>
      have h1 := List.getElem?_eq_none_iff.mp hj
      rw [List.getElem?_eq_none (by rw [Array.length_toList]; omega)]
      all_goals rfl
    | some v =>
      obtain ⟨en, hen, hv⟩ := it.2 j v (by rw [← Array.getElem?_toList]; exact hj)
      rw [← Array.getElem?_toList] at hen
      rw [hen, hv]
      all_goals rfl
  have rv : Vals (bs.map V.ref) acc'.toList := by rw [ea]; exact vals_refs _
  refine ⟨.ref s.heap.objs.size, _, I.laid (t' := tk) (o := .lst (bs.map V.ref)) kp (Nat.le_refl _) ?_, rfl, q _ (I.hok.fresh (Nat.le_refl _))⟩
  exact ⟨by rw [List.length_map]; exact hn, acc'.toList, c', rv, by rw [Array.toArray_toList]; exact e⟩
end
end DL

set_option Elab.async false
set_option linter.all false
set_option maxRecDepth 100000
set_option maxHeartbeats 2000000
namespace DL
open PySem PySem.Spec PyProof.Rows L2
/-! ### tuples of numbers -/
def tupN (a : List Nat) : D := .tup (a.map fun i => .int (i : Nat))
def tupP (a : List Nat) : PyData := .tuple (a.map fun i => .int (i : Nat))
theorem rowD_tupN {n : Nat} {f : Nat → Nat} : rowD n f = tupN ((List.range n).map f) := by
  unfold rowD tupN
  rw [List.map_map]
  rfl
section
variable {K : PySem.W.Frag} {β : Bas} {env : Env'} {ta tb te tc to : TE} {tt tu : TT} {x y z d : D} {v w : V} {P : Post} {W : WX} {ts tr : TS}
theorem DatL.dpInts {G H : Hp} : ∀ {a : List Nat} {vs : List V}, DatL K G vs (a.map fun i => D.int (i : Nat)) → DpAll K H vs (a.map fun i => PyData.int (i : Nat))
  | [], _, h => by cases h; exact .nil
  | _ :: _, _, h => by cases h with | cons x t => cases x; exact .cons (.int _) (DatL.dpInts t)
theorem Dat.tn {G H : Hp} (e : Ex G H) {a : List Nat} {v : V} (h : Dat K G v (tupN a)) : Dp K H v (tupP a) := by
  obtain ⟨p, xs, rfl, hs, hd⟩ := h.tupV
  exact .tup (ex_t e hs) (DatL.dpInts hd)
theorem DatL.tns {G H : Hp} (e : Ex G H) : ∀ {L : List (List Nat)} {vs : List V}, DatL K G vs (L.map tupN) → DpAll K H vs (L.map tupP)
  | [], _, h => by cases h; exact .nil
  | p :: L, _, h => by cases h with | cons a t => exact .cons (Dat.tn e a) (DatL.tns e t)
theorem tn_canI : ∀ a : List Nat, PyData.canLayAll0 (a.map fun i => PyData.int (i : Nat)) = true
  | [] => rfl
  | i :: a => by
    show (PyData.canLay0 (.int (i : Nat)) && PyData.canLayAll0 (a.map fun i => PyData.int (i : Nat))) = true
    rw [tn_canI a]; rfl
theorem tn_lay : ∀ L : List (List Nat), PyData.canLayAll0 (L.map tupP) = true
  | [] => rfl
  | p :: L => by
    show (PyData.canLayAll0 (p.map fun i => PyData.int (i : Nat)) && PyData.canLayAll0 (L.map tupP)) = true
    rw [tn_lay L, tn_canI]; rfl
theorem tn_depI : ∀ a : List Nat, PyData.depthAll (a.map fun i => PyData.int (i : Nat)) = 0
  | [] => rfl
  | i :: a => by
    show max (PyData.depth (.int (i : Nat))) (PyData.depthAll (a.map fun i => PyData.int (i : Nat))) = 0
    rw [tn_depI a]; rfl
theorem tn_depth : ∀ L : List (List Nat), PyData.depthAll (L.map tupP) ≤ 1
  | [] => Nat.zero_le _
  | p :: L => by
    show max (PyData.depth (tupP p)) (PyData.depthAll (L.map tupP)) ≤ 1
    have := tn_depth L
    have h : PyData.depth (tupP p) = 1 := by
      show PyData.depthAll (p.map fun i => PyData.int (i : Nat)) + 1 = 1
      rw [tn_depI]
    omega
theorem tn_shaped (L : List (List Nat)) : SeqAt.shaped (.list (L.map tupP)) = true := by
  unfold SeqAt.shaped
  have h1 : PyData.canLay0 (.list (L.map tupP)) = true := tn_lay L
  have h2 : PyData.depth (.list (L.map tupP)) ≤ 64 := by
    show PyData.depthAll (L.map tupP) + 1 ≤ 64
    have := tn_depth L
    omega
  rw [h1, decide_eq_true h2]
  rfl
theorem tn_shaped1 (p : List Nat) : SeqAt.shaped (tupP p) = true := by
  unfold SeqAt.shaped
  have h1 : PyData.canLay0 (tupP p) = true := tn_canI p
  have h2 : PyData.depth (tupP p) ≤ 64 := by
    show PyData.depthAll (p.map fun i => PyData.int (i : Nat)) + 1 ≤ 64
    rw [tn_depI]; omega
  rw [h1, decide_eq_true h2]
  rfl
theorem eqv_ints : ∀ a b : List Nat, PyData.eqvAll (a.map fun i => PyData.int (i : Nat)) (b.map fun i => PyData.int (i : Nat)) = decide (a = b)
  | [], [] => rfl
  | [], _ :: _ => rfl
  | _ :: _, [] => rfl
  | x :: a, y :: b => by
    show (((x : Nat) : Int) == ((y : Nat) : Int) && PyData.eqvAll (a.map fun i => PyData.int (i : Nat)) (b.map fun i => PyData.int (i : Nat))) = _
    rw [eqv_ints a b]
    by_cases h1 : x = y <;> by_cases h2 : a = b <;> simp [h1, h2, Int.ofNat_inj]
theorem tn_eqv (p q : List Nat) : PyData.eqv (tupP p) (tupP q) = decide (p = q) := eqv_ints p q
theorem tn_any (L : List (List Nat)) (p : List Nat) : ((L.map tupP).any fun z => PyData.eqv z (tupP p)) = decide (p ∈ L) := by
  induction L with
  | nil => simp
  | cons q L ih =>
    rw [List.map_cons, List.any_cons, ih, tn_eqv]
    by_cases h1 : q = p
    · simp [h1]
    · by_cases h2 : p ∈ L <;> simp [h1, h2, Ne.symm h1]
/-- e not in xs, xs one's own -/
theorem ev_notInOwn {i : Nat} {a : Addr} {L : List (List Nat)} {p : List Nat} (hi : env[i]? = some (.own a (L.map tupN))) (he : EV K β te env (tupN p)) : EV K β (tOp (rNotInD K) te (tVar i)) env (.bl (!decide (p ∈ L))) := fun σ G H g Q q => by
  refine he σ G H g _ fun v1 G1 H1 t1 d1 => ?_
  obtain ⟨h1, h2, h3, xs, h4, h5⟩ := (g.up t1).own hi
  refine ⟨.ref a, h1, ?_⟩
  refine ⟨tupP p, L.map tupP, Dat.tn t1.gh d1, .lst (.inl (.inl h4)) (DatL.tns t1.gh h5), tn_shaped1 p, tn_shaped L, ?_⟩
  rw [tn_any]
  exact q _ G1 H1 t1 (.bl _)
theorem op_inTN {L : List (List Nat)} {p : List Nat} : OpD K (rInD K) (tupN p) (.lst (L.map tupN)) (.bl (decide (p ∈ L))) := fun G H v1 v2 e d1 d2 Q q => by
  obtain ⟨a, xs, rfl, ha, hx⟩ := d2.lstV
  refine ⟨tupP p, L.map tupP, Dat.tn e d1, .lst (.inl (.inl (e _ _ ha))) (DatL.tns e hx), tn_shaped1 p, tn_shaped L, ?_⟩
  rw [tn_any]
  exact q _ G H (.refl e) (.bl _)
theorem ev_indexTN {L : List (List Nat)} {p : List Nat} {j : Nat} (h : EV K β to env (.lst (L.map tupN))) (he : EV K β te env (tupN p)) (hj : L[j]? = some p) (hm : ∀ m, m < j → L[m]? ≠ some p) : EV K β (tBM K "list" (rIndexD K) to (tCons te tNil)) env (.int j) := fun σ G H g Q q =>
  h σ G H g _ fun v1 G1 H1 t1 d1 => by
    obtain ⟨a, xs, rfl, ha, hx⟩ := d1.lstV
    refine ⟨.inl ⟨rfl, xs, .of (t1.gh _ _ ha)⟩, he σ G1 H1 (g.up t1) _ fun v2 G2 H2 t2 d2 => ?_⟩
    refine ⟨a, v2, tupP p, L.map tupP, j, tupP p, rfl, rfl, .lst (.of (t2.hh _ _ (t1.gh _ _ ha))) (DatL.tns (t1.gh.trans t2.hh) hx), Dat.tn t2.gh d2, tn_shaped L, tn_shaped1 p, by rw [List.getElem?_map, hj]; rfl, by rw [tn_eqv, decide_eq_true rfl], fun m z' hlt hz => ?_, q _ G2 H2 (t1.trans t2) (.int _)⟩
    rw [List.getElem?_map] at hz
    cases hq : L[m]? with
    | none => rw [hq] at hz; cases hz
    | some p' =>
      rw [hq] at hz
      cases hz
      rw [tn_eqv]
      exact decide_eq_false fun z => hm m hlt (by rw [hq, z])
/-! ### found, at = list(dict([(m, True) ..])), 0 -/
def dd {α : Type} [DecidableEq α] : List α → List α → List α
  | acc, [] => acc
  | acc, m :: ms => dd (if m ∈ acc then acc else acc ++ [m]) ms
def keyN (m : List Nat) : List Key := m.map fun (i : Nat) => Sum.inl ((i : Nat) : Int)
theorem keyN_inj : ∀ {a b : List Nat}, keyN a = keyN b → a = b
  | [], [], _ => rfl
  | [], _ :: _, h => by unfold keyN at h; cases h
  | _ :: _, [], h => by unfold keyN at h; cases h
  | x :: a, y :: b, h => by
    unfold keyN at h
    rw [List.map_cons, List.map_cons] at h
    injection h with h1 h2
    injection h1 with h1
    rw [keyN_inj (a := a) (b := b) h2]
    congr 1
    omega
theorem keyN_kV (m : List Nat) : (keyN m).map kV = m.map fun i => V.int (i : Nat) := by
  unfold keyN
  rw [List.map_map]
  rfl
def FK (z : List Nat × Addr) : List Key × Addr := (keyN z.1, z.2)
theorem addR_FK : ∀ (zs as : List (List Nat × Addr)), addR (as.map FK) (zs.map FK) = (addR as zs).map FK
  | [], as => rfl
  | z :: zs, as => by
    rw [List.map_cons]
    unfold addR
    rw [← addR_FK zs]
    congr 1
    have e : ((FK z).1 ∈ (as.map FK).map (·.1)) ↔ z.1 ∈ as.map (·.1) := by
      rw [List.map_map]
      constructor
      · intro h
        obtain ⟨y, hy, he⟩ := List.mem_map.mp h
        exact List.mem_map.mpr ⟨y, hy, keyN_inj he⟩
      · intro h
        obtain ⟨y, hy, he⟩ := List.mem_map.mp h
        exact List.mem_map.mpr ⟨y, hy, congrArg keyN he⟩
    by_cases h : z.1 ∈ as.map (·.1)
    · rw [if_pos (e.mpr h), if_pos h]
    · rw [if_neg (fun x => h (e.mp x)), if_neg h, List.map_append]
      rfl
theorem addR_dd {α β : Type} [DecidableEq α] : ∀ (zs as : List (α × β)), (addR as zs).map (·.1) = dd (as.map (·.1)) (zs.map (·.1))
  | [], as => rfl
  | z :: zs, as => by
    rw [List.map_cons]
    unfold addR dd
    rw [addR_dd zs]
    congr 1
    by_cases h : z.1 ∈ as.map (·.1)
    · rw [if_pos h, if_pos h]
    · rw [if_neg h, if_neg h, List.map_append]
      rfl
theorem addR_mem {α β : Type} [DecidableEq α] : ∀ (zs as : List (α × β)) (z : α × β), z ∈ addR as zs → z ∈ as ∨ z ∈ zs
  | [], as, z, h => .inl h
  | y :: zs, as, z, h => by
    unfold addR at h
    rcases addR_mem zs _ z h with q | q
    · by_cases e : y.1 ∈ as.map (·.1)
      · rw [if_pos e] at q; exact .inl q
      · rw [if_neg e] at q
        rcases List.mem_append.mp q with q | q
        · exact .inl q
        · rw [List.mem_singleton.mp q]; exact .inr List.mem_cons_self
    · exact .inr (List.mem_cons_of_mem _ q)
theorem datL_of {G : Hp} : ∀ (zs : List (List Nat × Addr)), (∀ z ∈ zs, Dat K G (.ref z.2) (tupN z.1)) → DatL K G (zs.map fun z => V.ref z.2) ((zs.map (·.1)).map tupN)
  | [], _ => .nil
  | z :: zs, h => .cons (h z List.mem_cons_self) (datL_of zs fun y hy => h y (List.mem_cons_of_mem _ hy))
def pairT (m : List Nat) : D := .tup [tupN m, .bl true]
theorem pairs_rs {G : Hp} : ∀ {ms : List (List Nat)} {xs : List V}, DatL K G xs (ms.map pairT) → ∃ rs : List (Addr × List Nat × Addr), xs = rs.map (fun r => V.ref r.1) ∧ rs.map (fun r => r.2.1) = ms ∧ ∀ r ∈ rs, SqT K G r.1 [.ref r.2.2, .bl true] ∧ Dat K G (.ref r.2.2) (tupN r.2.1)
  | [], _, h => by cases h; exact ⟨[], rfl, rfl, fun r hr => nomatch hr⟩
  | m :: ms, _, h => by
    cases h with
    | cons a t =>
    obtain ⟨rs, rfl, rfl, hr⟩ := pairs_rs t
    obtain ⟨p, ys, rfl, hp, hd⟩ := Dat.tupV a
    cases hd with
    | cons d1 t2 =>
    cases t2 with
    | cons d2 t3 =>
    cases t3
    cases d2
    obtain ⟨b, zs, rfl, _, _⟩ := d1.tupV
    exact ⟨(p, m, b) :: rs, rfl, rfl, fun r h => by
      rcases List.mem_cons.mp h with rfl | h
      · exact ⟨hp, d1⟩
      · exact hr r h⟩
theorem dic_core {i j : Nat} {tl t2 : TE} {ms : List (List Nat)} {d2 : D} (hg : EV K β tl env (.lst (ms.map pairT))) (h2 : EV K β t2 env d2) {σ : Sg} {G H : Hp} (g : Good K β σ env G H) {Q : List V → Hp → Prop}
    (k : ∀ r v G3 H3, Good K β ((σ.set i (some (.ref r))).set j (some v)) ((env.set i (.own r ((dd [] ms).map tupN))).set j (.val v d2)) G3 H3 → Ex G G3 → Q [.ref r, v] H3) :
    tCons (tCB rListDic (tCons (tCB (rDictPT K) (tCons tl tNil)) tNil)) (tCons t2 tNil) σ H Q :=
  hg σ G H g _ fun v1 G1 H1 t1 d1 => by
    obtain ⟨a, xs, rfl, ha, hx⟩ := d1.lstV
    obtain ⟨rs, rfl, hms, hr⟩ := pairs_rs hx
    have g1 := g.up t1
    refine ⟨a, rs.map fun r => (r.1, keyN r.2.1, r.2.2), rfl, .inl (.inl (t1.gh _ _ (by rw [List.map_map]; exact ha))), fun r hr' => ?_, fun p hp => ?_⟩
    · obtain ⟨y, hy, rfl⟩ := List.mem_map.mp hr'
      obtain ⟨h1, h2⟩ := hr y hy
      refine ⟨ex_t t1.gh h1, ?_⟩
      obtain ⟨b, zs, e, hs, hd⟩ := h2.tupV
      cases e
      have := DatL.intsV (ns := y.2.1.map fun (i : Nat) => ((i : Nat) : Int)) (by rw [List.map_map]; exact hd)
      rw [List.map_map] at this
      show SqT K H1 y.2.2 ((keyN y.2.1).map kV)
      rw [keyN_kV]
      subst this
      exact ex_t t1.gh hs
    · have eb : (addR [] ((rs.map fun r => (r.1, keyN r.2.1, r.2.2)).map fun r => r.2)).map (·.2) = (addR [] (rs.map fun r => r.2)).map (·.2) := by
        have : ((rs.map fun r => (r.1, keyN r.2.1, r.2.2)).map fun r => r.2) = (rs.map fun r => r.2).map FK := by rw [List.map_map, List.map_map]; rfl
        rw [this, show ([] : List (List Key × Addr)) = ([] : List (List Nat × Addr)).map FK from rfl, addR_FK, List.map_map]
        rfl
      rw [eb]
      have hGp : G1 p = none := t1.gh.back hp
      have g2 := g1.up ((Stp.refl t1.gh).side (o := DicO p ((addR [] (rs.map fun r => r.2)).map (·.2))) hp hGp)
      refine ⟨p, (addR [] (rs.map fun r => r.2)).map (·.2), rfl, upd_same, fun r hr0 => ?_⟩
      refine h2 σ G1 _ (g2.up ((Stp.refl g2.gh).side (o := .lst (((addR [] (rs.map fun r => r.2)).map (·.2)).map V.ref)) hr0 (g2.gh.back hr0))) _ fun v G3 H3 t3 dv => ?_
      have gA := g2.newOwn (a := r) (ds := (dd [] ms).map tupN) (xs := ((addR [] (rs.map fun r => r.2)).map (·.2)).map V.ref) i hr0 (by
        have := datL_of (K := K) (G := G1) (addR [] (rs.map fun r => r.2)) (fun z hz => by
          rcases addR_mem _ _ _ hz with q | q
          · cases q
          · obtain ⟨y, hy, rfl⟩ := List.mem_map.mp q
            exact (hr y hy).2)
        rw [addR_dd] at this
        rw [List.map_map]
        have e2 : (List.map (fun x => x.1) (rs.map fun r => r.2)) = ms := by rw [List.map_map]; exact hms
        rw [e2] at this
        exact this)
      have gB := (gA.up t3).set j dv
      exact k r v G3 H3 gB (t1.gg.trans t3.gg)
theorem ex_parDic {i j : Nat} {tl t2 : TE} {ms : List (List Nat)} {d2 : D} (hg : EV K β tl env (.lst (ms.map pairT))) (h2 : EV K β t2 env d2)
    (k : ∀ p v, P.nx ((env.set i (.own p ((dd [] ms).map tupN))).set j (.val v d2))) :
    EX K β W (tPar i j (tCons (tCB rListDic (tCons (tCB (rDictPT K) (tCons tl tNil)) tNil)) (tCons t2 tNil))) env P := fun σ G H g Dn c x =>
  dic_core hg h2 g fun r v G3 H3 g3 e3 => ⟨_, _, rfl, c.nx _ _ G3 H3 g3 e3 (k r v)⟩
theorem ex_asgDic {i j n : Nat} {tl t2 : TE} {ms : List (List Nat)} {d2 : D} (hg : EV K β tl env (.lst (ms.map pairT))) (h2 : EV K β t2 env d2)
    (k : ∀ p v, EX K β W tr ((env.set i (.own p ((dd [] ms).map tupN))).set j (.val v d2)) P) (hn : 2 = n := by rfl) :
    EX K β W (tSeq (tAsg (tTup (tCons (tCB rListDic (tCons (tCB (rDictPT K) (tCons tl tNil)) tNil)) (tCons t2 tNil))) (gTup K n (gCons (gName i) (gCons (gName j) gNil)))) tr) env P :=
  ex_seq (N := fun e => ∃ p v, e = (env.set i (.own p ((dd [] ms).map tupN))).set j (.val v d2)) (fun σ G H g Dn c x =>
    show (tCons (tCB rListDic (tCons (tCB (rDictPT K) (tCons tl tNil)) tNil)) (tCons t2 tNil)) σ H (fun vs H1 => vs.length ≤ sizeLine ∧ ∀ p, H1 p = none → gTup K n (gCons (gName i) (gCons (gName j) gNil)) (.ref p) σ (upd H1 p (.tup vs)) fun σ' H' => Dn.nx σ' H') from
    dic_core hg h2 g fun r v G3 H3 g3 e3 => ⟨by show 2 ≤ sizeLine; rw [sizeLine_eq]; decide, fun q hq => ⟨q, _, rfl, .of upd_same, hn, _, _, rfl, _, _, rfl, rfl, c.nx _ _ G3 _ (g3.up ((Stp.refl g3.gh).side hq (g3.gh.back hq))) e3 ⟨r, v, rfl⟩⟩⟩)
    fun e ⟨p, v, h⟩ => h ▸ k p v
end
end DL

set_option Elab.async false
set_option linter.all false
set_option maxRecDepth 100000
set_option maxHeartbeats 2000000
namespace DL
open PySem PySem.Spec PyProof.Rows L2
/-- a list or a tuple, walked -/
def iSeq (K : PySem.W.Frag) (tl : TE) : TI := fun σ H R => tl σ H fun x H1 => ∃ a, x = .ref a ∧ (((∃ xs, SqL K H1 a xs) ∧ R (Itl K a) H1) ∨ ((∃ xs, SqT K H1 a xs) ∧ R (Itt K a) H1))
theorem pi_seq {X : Cx} {tg l : Expr} {tl : TE} (hl : PE X l tl) : PI X tg l (iSeq X.K tl) := by
  refine ⟨fun pins s σ H R I h => ?_⟩
  refine thn (hl.run pins s σ H _ I h) fun v s1 ⟨x, H1, I1, r1, q1⟩ => ?_
  obtain ⟨a, e, ⟨⟨xs, hq⟩, q⟩ | ⟨⟨xs, hq⟩, q⟩⟩ := q1
  · subst e
    cases r1
    obtain ⟨its, rv, p, hz⟩ := I1.list hq
    refine wpAny_pyIter_list p.isList ?_
    refine ⟨s1.heap.objs.size, [s1.heap.objs.size], _, _, H1, rfl, I1.kept (t' := s1.toks) fun b o e => Heap.get?_push_of_some _ e, turn_list a _, ⟨_, Heap.get?_push_size _ rfl, rfl, rfl⟩, fun b hb => ?_, q⟩
    have e : b = s1.heap.objs.size := by simpa using hb
    subst e
    exact I1.fpOk (Nat.le_refl _) (I1.hok.fresh (Nat.le_refl _))
  · subst e
    cases r1
    obtain ⟨its, rv, p, hz⟩ := I1.tuple hq
    refine wpAny_pyIter_tuple (show s1.heap.IsTuple a its.toArray from p) ?_
    refine ⟨s1.heap.objs.size, [s1.heap.objs.size], _, _, H1, rfl, I1.kept (t' := s1.toks) fun b o e => Heap.get?_push_of_some _ e, turn_tuple a _, ⟨_, Heap.get?_push_size _ rfl, rfl, rfl⟩, fun b hb => ?_, q⟩
    have e : b = s1.heap.objs.size := by simpa using hb
    subst e
    exact I1.fpOk (Nat.le_refl _) (I1.hok.fresh (Nat.le_refl _))
theorem pi_seqK {X : Cx} (K : PySem.W.Frag) {tg l : Expr} {tl : TE} (hl : PE X l tl) (h : X.K = K := by rfl) : PI X tg l (iSeq K tl) := h ▸ pi_seq hl
section
variable {K : PySem.W.Frag} {β : Bas} {env : Env'} {ta tb te tc to : TE} {tt tu : TT} {x y z d : D} {v w : V} {P : Post} {W : WX} {ts tr : TS}
theorem ei_seqL {tl : TE} {ds : List D} (h : EV K β tl env (.lst ds)) : EVI K β (iSeq K tl) env ds := fun σ G H g R q =>
  h σ G H g _ fun v G1 H1 t1 d1 => by
    obtain ⟨a, xs, rfl, ht, hd⟩ := d1.lstV
    exact ⟨a, rfl, .inl ⟨⟨xs, .of (t1.gh _ _ ht)⟩, q _ xs G1 H1 t1 hd (itv_list ht)⟩⟩
theorem ei_seqT {tl : TE} {ds : List D} (h : EV K β tl env (.tup ds)) : EVI K β (iSeq K tl) env ds := fun σ G H g R q =>
  h σ G H g _ fun v G1 H1 t1 d1 => by
    obtain ⟨a, xs, rfl, ht, hd⟩ := d1.tupV
    exact ⟨a, rfl, .inr ⟨⟨xs, ex_t t1.gh ht⟩, q _ xs G1 H1 t1 hd (itv_tup ht)⟩⟩
theorem map_getD {α : Type} {ds : List D} {f : D → α} : ((List.range ds.length).map fun i => f (ds.getD i .non)) = ds.map f := by
  apply List.ext_getElem
  · simp
  · intro i h1 h2
    simp only [List.length_map, List.length_range] at h1
    simp [h1]
/-- [e for x in xs] -/
theorem ev_lcS {wi : TI} {j : Nat} {vs : List Nat} {ds : List D} {F : D → D} (hI : EVI K β wi env ds) (hl : ds.length < sizeLine) (hj : j ∈ vs)
    (hs : ∀ d v, d ∈ ds → EV K β te ((wipeE env vs).set j (.val v d)) (F d)) : EV K β (tLc wi (gName j) tYes te vs) env (.lst (ds.map F)) := by
  have h := ev_lcA (K := K) (β := β) (te := te) (F := fun i => F (ds.getD i .non)) hI hl hj (fun i v d hd => by
    have e : ds.getD i .non = d := by rw [List.getD_eq_getElem?_getD, hd]; rfl
    rw [e]
    exact hs d v (List.mem_of_getElem? hd))
  rw [map_getD] at h
  exact h
theorem rgD_at {n i : Nat} {d : D} (h : (rgD 0 n)[i]? = some d) : i < n ∧ d = .int (i : Nat) := by
  have hi : i < n := by have := (List.getElem?_eq_some_iff.mp h).1; rw [rgD_length] at this; exact this
  rw [rgD_get hi, Int.zero_add] at h
  exact ⟨hi, (Option.some.inj h).symm⟩
/-- for x in r .., r a range object 0, .. n - 1 -/
theorem evin_rngO {tl : TE} {j n : Nat} {vs : List Nat} {r : List Cl} {f : Nat → Bool} {F : Nat → List D} (h : EV K β tl env (.rng 0 (n : Nat))) (hn : n < 2 ^ 62) (hj : j ∈ vs)
    (hs : ∀ (i : Nat) v, i < n → EVT K β tt ((wipeE env vs).set j (.val v (.int (i : Nat)))) (f i) ∧ (f i = true → EVIn K β r te ((wipeE env vs).set j (.val v (.int (i : Nat)))) (F i))) (hf : ∀ i, i < n → f i = false → F i = []) :
    EVIn K β ((iRngO tl, gName j, tt, vs) :: r) te env (flat F n) := by
  have e : (rgD 0 (((n : Nat) : Int) - 0).toNat).length = n := by rw [rgD_length]; omega
  have := evin_cons (K := K) (β := β) (tt := tt) (te := te) (r := r) (f := f) (F := F) (ei_rngO h (by omega)) hj (fun i v d hd => by
    obtain ⟨hi, rfl⟩ := rgD_at (n := n) (by rw [show n = (((n : Nat) : Int) - 0).toNat by omega]; exact hd)
    exact hs i v hi) (fun i hi => hf i (by omega))
  rw [e] at this
  exact this
theorem ev_lcMR {tl : TE} {j n : Nat} {vs : List Nat} {r : List Cl} {f : Nat → Bool} {F : Nat → List D} (h : EV K β tl env (.rng 0 (n : Nat))) (hn : n < 2 ^ 62) (hj : j ∈ vs)
    (hs : ∀ (i : Nat) v, i < n → EVT K β tt ((wipeE env vs).set j (.val v (.int (i : Nat)))) (f i) ∧ (f i = true → EVIn K β r te ((wipeE env vs).set j (.val v (.int (i : Nat)))) (F i))) (hf : ∀ i, i < n → f i = false → F i = []) (hz : (flat F n).length < sizeLine) :
    EV K β (tLcN (iRngO tl) (gName j) tt r te vs) env (.lst (flat F n)) := by
  have e : (rgD 0 (((n : Nat) : Int) - 0).toNat).length = n := by rw [rgD_length]; omega
  have := ev_lcM (K := K) (β := β) (tt := tt) (te := te) (r := r) (f := f) (F := F) (ei_rngO h (by omega)) hj (fun i v d hd => by
    obtain ⟨hi, rfl⟩ := rgD_at (n := n) (by rw [show n = (((n : Nat) : Int) - 0).toNat by omega]; exact hd)
    exact hs i v hi) (fun i hi => hf i (by omega)) (by rw [e]; exact hz)
  rw [e] at this
  exact this
end
end DL

set_option Elab.async false
set_option linter.all false
set_option maxRecDepth 100000
set_option maxHeartbeats 2000000
namespace DL
open PySem PySem.Spec PyProof.Rows L2
/-- a list of numbers -/
def lstN (ms : List Nat) : List D := ms.map fun (i : Nat) => D.int (i : Nat)
theorem lstN_len (ms : List Nat) : (lstN ms).length = ms.length := by unfold lstN; rw [List.length_map]
theorem lstN_app (ms : List Nat) (k : Nat) : lstN ms ++ [D.int (k : Nat)] = lstN (ms ++ [k]) := by unfold lstN; rw [List.map_append]; rfl
theorem lstN_get {ms : List Nat} {i k : Nat} (h : ms[i]? = some k) : (lstN ms)[i]? = some (.int (k : Nat)) := by unfold lstN; rw [List.getElem?_map, h]; rfl
theorem inV_ints (x : Nat) (ms : List Nat) : inV (.int (x : Nat)) (ms.map fun (i : Nat) => V.int (i : Nat)) = decide (x ∈ ms) := by
  unfold inV
  induction ms with
  | nil => simp
  | cons m ms ih =>
    rw [List.map_cons, List.any_cons, ih]
    have e : eqV (V.int (m : Nat)) (V.int (x : Nat)) = decide (m = x) := by
      show (((m : Nat) : Int) == ((x : Nat) : Int)) = _
      by_cases h : m = x
      · simp [h]
      · rw [decide_eq_false h, beq_eq_false_iff_ne]
        omega
    rw [e]
    by_cases h1 : m = x
    · simp [h1]
    · by_cases h2 : x ∈ ms <;> simp [h1, h2, Ne.symm h1]
theorem flat_ints (ms : List Nat) : (ms.map fun (i : Nat) => V.int (i : Nat)).all flatV = true := by
  rw [List.all_map, List.all_eq_true]
  intro x _
  rfl
theorem DatL.natsV {K : PySem.W.Frag} {G : Hp} {ms : List Nat} {vs : List V} (h : DatL K G vs (lstN ms)) : vs = ms.map fun (i : Nat) => V.int (i : Nat) := by
  have := DatL.intsV (ns := ms.map fun (i : Nat) => ((i : Nat) : Int)) (by rw [List.map_map]; exact h)
  rw [this, List.map_map]
  rfl
theorem mt_indexK {X : Cx} (K : PySem.W.Frag) (h : X.K = K := by rfl) : MtR X "list.index" (rIndex K) := h ▸ mt_index
section
variable {K : PySem.W.Frag} {β : Bas} {env : Env'} {ta tb te tc to : TE} {tt tu : TT} {x y z d : D} {v w : V} {P : Post} {W : WX} {ts tr : TS}
theorem op_inN {x : Nat} {ms : List Nat} : OpD K (rIn K false) (.int (x : Nat)) (.lst (lstN ms)) (.bl (decide (x ∈ ms))) := fun G H v1 v2 e d1 d2 Q q => by
  obtain ⟨a, xs, rfl, ha, hx⟩ := d2.lstV
  cases d1
  have ex := DatL.natsV hx
  subst ex
  refine ⟨a, _, rfl, .inl (.inl (.inl (e _ _ ha))), rfl, flat_ints ms, ?_⟩
  rw [inV_ints]
  exact q _ G H (.refl e) (.bl _)
theorem ev_notInOwnN {i : Nat} {a : Addr} {ms : List Nat} {p : Nat} (hi : env[i]? = some (.own a (lstN ms))) (he : EV K β te env (.int (p : Nat))) : EV K β (tOp (rIn K true) te (tVar i)) env (.bl (!decide (p ∈ ms))) := fun σ G H g Q q => by
  refine he σ G H g _ fun v1 G1 H1 t1 d1 => ?_
  obtain ⟨h1, h2, h3, xs, h4, h5⟩ := (g.up t1).own hi
  cases d1
  have ex := DatL.natsV h5
  subst ex
  refine ⟨.ref a, h1, a, _, rfl, .inl (.inl (.inl h4)), rfl, flat_ints ms, ?_⟩
  rw [inV_ints]
  exact q _ G1 H1 t1 (.bl _)
theorem rindexN {a : Addr} {ms : List Nat} {p j : Nat} {H : Hp} {Q : VK} (hs : SqL K H a (ms.map fun (i : Nat) => V.int (i : Nat))) (hj : ms[j]? = some p) (hm : ∀ m, m < j → ms[m]? ≠ some p) (q : Q (.int (j : Nat)) H) : rIndex K (.ref a) [.int (p : Nat)] H Q := by
  refine ⟨a, _, _, j, .int (p : Nat), rfl, rfl, hs, rfl, flat_ints ms, by rw [List.getElem?_map, hj]; rfl, ?_, fun m z hlt hz => ?_, q⟩
  · show (((p : Nat) : Int) == ((p : Nat) : Int)) = true
    exact beq_self_eq_true _
  · rw [List.getElem?_map] at hz
    cases hq : ms[m]? with
    | none => rw [hq] at hz; cases hz
    | some p' =>
      rw [hq] at hz
      cases hz
      show (((p' : Nat) : Int) == ((p : Nat) : Int)) = false
      rw [beq_eq_false_iff_ne]
      intro e
      exact hm m hlt (by rw [hq]; congr 1; omega)
theorem ev_indexN {ms : List Nat} {p j : Nat} (h : EV K β to env (.lst (lstN ms))) (he : EV K β te env (.int (p : Nat))) (hj : ms[j]? = some p) (hm : ∀ m, m < j → ms[m]? ≠ some p) : EV K β (tBM K "list" (rIndex K) to (tCons te tNil)) env (.int (j : Nat)) := fun σ G H g Q q =>
  h σ G H g _ fun v1 G1 H1 t1 d1 => by
    obtain ⟨a, xs, rfl, ha, hx⟩ := d1.lstV
    have ex := DatL.natsV hx
    subst ex
    refine ⟨.inl ⟨rfl, _, .of (t1.gh _ _ ha)⟩, he σ G1 H1 (g.up t1) _ fun v2 G2 H2 t2 d2 => ?_⟩
    cases d2
    exact rindexN (.inl (.inl (t2.hh _ _ (t1.gh _ _ ha)))) hj hm (q _ G2 H2 (t1.trans t2) (.int _))
theorem ev_indexOwn {i : Nat} {a : Addr} {ms : List Nat} {p j : Nat} (hi : env[i]? = some (.own a (lstN ms))) (he : EV K β te env (.int (p : Nat))) (hj : ms[j]? = some p) (hm : ∀ m, m < j → ms[m]? ≠ some p) : EV K β (tBM K "list" (rIndex K) (tVar i) (tCons te tNil)) env (.int (j : Nat)) := fun σ G H g Q q => by
  obtain ⟨h1, h2, h3, xs, h4, h5⟩ := g.own hi
  have ex := DatL.natsV h5
  subst ex
  refine ⟨.ref a, h1, .inl ⟨rfl, _, .of h4⟩, he σ G H g _ fun v2 G2 H2 t2 d2 => ?_⟩
  cases d2
  exact rindexN (.inl (.inl (t2.hh _ _ h4))) hj hm (q _ G2 H2 t2 (.int _))
/-- a, b = [..], e: a one's own -/
theorem ex_parNewV {i j : Nat} {ta : TA} {ds : List D} (he : EVA K β ta env ds) (hl : ds.length ≤ sizeLine) (h2 : EV K β te env d) (k : ∀ a v, P.nx ((env.set i (.own a ds)).set j (.val v d))) :
    EX K β W (tPar i j (tCons (tLst ta) (tCons te tNil))) env P := fun σ G H g Dn c x =>
  he σ G H g _ fun vs G1 H1 t1 d1 => ⟨by rw [d1.length]; exact hl, fun p hp => by
    have g1 := g.up t1
    have g2 := g1.up ((Stp.refl t1.gh).side (o := .lst vs) hp (t1.gh.back hp))
    refine h2 σ G1 _ g2 _ fun v G3 H3 t3 dv => ?_
    have gA := g1.newOwn (a := p) (ds := ds) (xs := vs) i hp d1
    have gB := (gA.up t3).set j dv
    exact ⟨_, _, rfl, c.nx _ _ G3 H3 gB (t1.gg.trans t3.gg) (k p v)⟩⟩
theorem ex_parNewVS {i j : Nat} {ta : TA} {ds : List D} (he : EVA K β ta env ds) (hl : ds.length ≤ sizeLine) (h2 : EV K β te env d) (k : ∀ a v, EX K β W tr ((env.set i (.own a ds)).set j (.val v d)) P) :
    EX K β W (tSeq (tPar i j (tCons (tLst ta) (tCons te tNil))) tr) env P :=
  ex_seq (N := fun e => ∃ a v, e = (env.set i (.own a ds)).set j (.val v d)) (ex_parNewV he hl h2 fun a v => ⟨a, v, rfl⟩) fun e ⟨a, v, h⟩ => h ▸ k a v
/-- how long the list in a slot is -/
def slotLen (e : Env') (i : Nat) : Nat := match (e[i]? : Option Sl) with
  | some (.own _ ds) => ds.length
  | _ => 0
end
end DL

set_option Elab.async false
set_option linter.all false
set_option maxRecDepth 100000
set_option maxHeartbeats 2000000
namespace DL
open PySem PySem.Spec PyProof.Rows L2
theorem op_notInDK {X : Cx} (K : PySem.W.Frag) (hu : X.A.units + 65 < cLine) (h : X.K = K := by rfl) : OpR X (compareOp .NotIn) (rNotInD K) := h ▸ op_notInD hu
theorem op_inDK {X : Cx} (K : PySem.W.Frag) (hu : X.A.units + 65 < cLine) (h : X.K = K := by rfl) : OpR X (compareOp .In) (rInD K) := h ▸ op_inD hu
theorem call_dictPTK {X : Cx} (K : PySem.W.Frag) (hcalm : X.calm = true) (hu : X.A.units + 65 < cLine) (h : X.K = K := by rfl) : CallR X (.type "dict") (rDictPT K) := h ▸ call_dictPT hcalm (by omega)
end DL

set_option Elab.async false
set_option linter.all false
set_option maxRecDepth 100000
set_option maxHeartbeats 2000000
namespace DL
open PySem PySem.Spec PyProof.Rows L2
/-! ### comprehensions whose items ask the box -/
section
variable {K : PySem.W.Frag} {β : Bas} {env : Env'} {ta tb te tc to : TE} {tt tu : TT} {x y z d : D} {v w : V} {P : V → D → Env' → Prop}
theorem SlsOk.len {G H : Hp} : ∀ {σ : Sg} {env : Env'}, SlsOk K β G H σ env → σ.length = env.length
  | _, _, .nil => rfl
  | _, _, .cons _ r => by rw [List.length_cons, List.length_cons, SlsOk.len r]
theorem SlsOk.ofGet {G H : Hp} : ∀ {σ : Sg} {env : Env'}, σ.length = env.length → (∀ (i : Nat) (o : Option V) (s : Sl), σ[i]? = some o → env[i]? = some s → SlOk K β G H o s) → SlsOk K β G H σ env
  | [], [], _, _ => .nil
  | [], _ :: _, h, _ => by simp at h
  | _ :: _, [], h, _ => by simp at h
  | o :: σ, s :: env, h, hh => .cons (hh 0 o s rfl rfl) (SlsOk.ofGet (by simpa using h) fun i o' s' h1 h2 => hh (i + 1) o' s' (by simpa using h1) (by simpa using h2))
theorem wipeE_len (env : Env') : ∀ vs, (wipeE env vs).length = env.length
  | [] => rfl
  | v :: vs => by show ((wipeE env vs).set v .un).length = _; rw [List.length_set, wipeE_len env vs]
theorem wipeE_in {env : Env'} {i : Nat} : ∀ {vs : List Nat}, i ∈ vs → i < env.length → (wipeE env vs)[i]? = some .un
  | v :: vs, h, hl => by
    show ((wipeE env vs).set v .un)[i]? = _
    by_cases e : v = i
    · subst e; rw [List.getElem?_set_self (by rw [wipeE_len]; exact hl)]
    · rw [List.getElem?_set_ne e]
      exact wipeE_in ((List.mem_cons.mp h).resolve_left fun z => e z.symm) hl
theorem wipeE_out {env : Env'} {i : Nat} : ∀ {vs : List Nat}, i ∉ vs → (wipeE env vs)[i]? = env[i]?
  | [], _ => rfl
  | v :: vs, h => by
    show ((wipeE env vs).set v .un)[i]? = _
    rw [List.getElem?_set_ne (fun e => h (by rw [← e]; exact List.mem_cons_self))]
    exact wipeE_out fun z => h (List.mem_cons_of_mem _ z)
theorem nd_wipe {env : Env'} (h : (env.filterMap ownA).Nodup) : ∀ vs, ((wipeE env vs).filterMap ownA).Nodup
  | [] => h
  | v :: vs => (nd_set (s := .un) rfl v (nd_wipe h vs)).1
/-- back from a block: its own names are forgotten -/
theorem Good.unblk {σ : Sg} {G H : Hp} {vs : List Nat} {j : Nat} {o : Option V} (g : Good K β ((L2.wipe σ vs).set j o) env G H) (hj : j ∈ vs) : Good K β σ (wipeE env vs) G H := by
  refine ⟨g.gg, g.hh, g.gh, g.ow, g.bh, ?_, nd_wipe g.nd vs⟩
  have hl := g.sl.len
  rw [List.length_set, L2.wipe_length] at hl
  refine SlsOk.ofGet (by rw [wipeE_len, hl]) fun i o' s h1 h2 => ?_
  by_cases hi : i ∈ vs
  · have hlt : i < env.length := by rw [← hl]; exact (List.getElem?_eq_some_iff.mp h1).1
    rw [wipeE_in hi hlt] at h2
    cases h2
    trivial
  · rw [wipeE_out hi] at h2
    obtain ⟨o2, h3, h4⟩ := g.sl.get h2
    rw [List.getElem?_set_ne (fun e => hi (by rw [← e]; exact hj)), L2.wipe_out hi, h1] at h3
    cases h3
    exact h4
/-- a new thing joins the view -/
theorem Good.gain {σ : Sg} {G H : Hp} {p : Addr} {o : HO} (g : Good K β σ env G H) (hG : G p = none) (hn : p ∉ owns env) (hβ : β.H p = none) (hp : H p = some o) : Good K β σ env (upd G p o) H := by
  refine ⟨g.gg.trans (.new hG), g.hh, fun b u e => ?_, fun b e1 e2 => ?_, g.bh, ?_, g.nd⟩
  · by_cases hb : b = p
    · subst hb; rw [upd_same] at e; rw [hp]; exact e
    · rw [upd_ne hb] at e; exact g.gh b u e
  · have hne : b ≠ p := fun z => e2 (z ▸ hβ)
    rw [upd_ne hne]; exact g.ow b e1 e2
  · refine SlsOk.ofGet g.sl.len fun i o' s h1 h2 => ?_
    obtain ⟨o2, h3, h4⟩ := g.sl.get h2
    rw [h1] at h3
    cases h3
    cases s with
    | un => trivial
    | val v d => exact ⟨h4.1, h4.2.up (.new hG)⟩
    | own a ds =>
      obtain ⟨y1, y2, y3, zs, y4, y5⟩ := h4
      have hne : a ≠ p := fun z => hn (by rw [← z]; exact List.mem_filterMap.mpr ⟨_, List.mem_of_getElem? h2, rfl⟩)
      exact ⟨y1, y2, by rw [upd_ne hne]; exact y3, zs, y4, y5.up (.new hG)⟩
    | odi a ds =>
      obtain ⟨y1, y2, y3, zs, y4, y5⟩ := h4
      have hne : a ≠ p := fun z => hn (by rw [← z]; exact List.mem_filterMap.mpr ⟨_, List.mem_of_getElem? h2, rfl⟩)
      exact ⟨y1, y2, by rw [upd_ne hne]; exact y3, zs, y4, y5.up (.new hG)⟩
    | obj a ds =>
      obtain ⟨y1, y2, y3, zs, y4, y5⟩ := h4
      have hne : a ≠ p := fun z => hn (by rw [← z]; exact List.mem_filterMap.mpr ⟨_, List.mem_of_getElem? h2, rfl⟩)
      exact ⟨y1, y2, by rw [upd_ne hne]; exact y3, zs, y4, y5.up (.new hG)⟩
variable (K β) in
/-- an iterator whose making may ask the box -/
def XI (wi : TI) (env : Env') (P : List D → Env' → Prop) : Prop := ∀ σ G H, Good K β σ env G H → ∀ R : It → Hp → Prop, (∀ J vs ds env' G' H', Good K β σ env' G' H' → StpE (owns env) G H G' H' → owns env' = owns env → DatL K G' vs ds → ItV J G' vs → P ds env' → R J H') → wi σ H R
theorem EVI.xi {wi : TI} {ds : List D} (h : EVI K β wi env ds) : XI K β wi env (fun ds' e => ds' = ds ∧ e = env) := fun σ G H g R q => h σ G H g R fun J vs G' H' t hd hJ => q J vs ds env G' H' (g.up t) (.of t) rfl hd hJ ⟨rfl, rfl⟩
theorem xi_rng1 {P1 : V → D → Env' → Prop} {PI : List D → Env' → Prop} (h : XE K β te env P1) (k : ∀ v d e, P1 v d e → ∃ n : Nat, d = .int (n : Nat) ∧ n < 2 ^ 62 ∧ PI (rgD 0 n) e) : XI K β (iRng1 (tCons te tNil)) env PI := fun σ G H g R q =>
  h σ G H g _ fun v d e G1 H1 g1 t1 e1 dv p1 => by
    obtain ⟨n, rfl, hn, hp⟩ := k _ _ _ p1
    cases dv
    exact ⟨n, rfl, by omega, by omega, q _ _ (rgD 0 n) e G1 H1 g1 t1 e1 (DatL.rg 0 n) itv_rng hp⟩
theorem xe_lc {wi : TI} {j : Nat} {vs : List Nat} {PI : List D → Env' → Prop} (hI : XI K β wi env PI) (hj : j ∈ vs)
    (hs : ∀ ds e, PI ds e → ds.length < sizeLine ∧ ∃ I : Nat → List D → Env' → Prop, I 0 [] e ∧
      (∀ i L e' v d, ds[i]? = some d → I i L e' → owns e' = owns env → owns ((wipeE e' vs).set j (.val v d)) = owns env ∧ XE K β te ((wipeE e' vs).set j (.val v d)) (fun _ d' e2 => I (i + 1) (L ++ [d']) (wipeE e2 vs) ∧ owns (wipeE e2 vs) = owns env)) ∧
      ∀ L e', I ds.length L e' → ∀ v, P v (.lst L) e') : XE K β (tLc wi (gName j) tYes te vs) env P := fun σ G H g0 Q q =>
  hI σ G H g0 _ fun J us ds e0 G1 H1 g1 t1 o1 hd hJ hP Dl hD => by
    obtain ⟨hn, I, I0, hstep, hend⟩ := hs ds e0 hP
    have hG1 : G1 Dl = none := g1.gh.back hD
    have hnD : Dl ∉ owns env := fun m => g1.there (by rw [o1]; exact m) hD
    have hβ : β.H Dl = none := by
      cases z : β.H Dl with
      | none => rfl
      | some o => exact absurd hD (g1.hn (by rw [z]; exact (fun e => nomatch e)))
    refine ⟨fun i m H' => m = us.length - i ∧ i ≤ us.length ∧ ∃ G' acc L e', Good K β σ e' G' H' ∧ StpE (owns env) G H G' H' ∧ owns e' = owns env ∧ Ex G1 G' ∧ G' Dl = none ∧ H' Dl = some (.lst acc) ∧ DatL K G' acc L ∧ L.length = i ∧ I i L e',
      ⟨us.length, by simp, Nat.zero_le _, G1, [], [], e0, g1.up ((Stp.refl g1.gh).side hD hG1), StpE.tr g1 o1 t1 (.of ((Stp.refl g1.gh).side hD hG1)), o1, .refl _, hG1, upd_same, .nil, rfl, I0⟩, ?_⟩
    rintro i m H' ⟨rfl, hi, G', acc, L, e', g', t', o', eG, hG, hacc, hda, hL, hIi⟩
    by_cases hlt : i < us.length
    · have hx : us[i]? = some us[i] := List.getElem?_eq_getElem hlt
      obtain ⟨d, hdi, dx⟩ := hd.getV hx
      obtain ⟨hgo, hyl⟩ := (hJ i H' (eG.trans g'.gh)).2 _ hx
      refine .inr ⟨hgo, fun H'' => ∃ G' acc L e', Good K β σ e' G' H'' ∧ StpE (owns env) G H G' H'' ∧ owns e' = owns env ∧ Ex G1 G' ∧ G' Dl = none ∧ H'' Dl = some (.lst acc) ∧ DatL K G' acc L ∧ L.length = i + 1 ∧ I (i + 1) L e', fun H'' z => ⟨us.length - (i + 1), by omega, rfl, hlt, z⟩, fun x H'' hy => ?_⟩
      obtain ⟨rfl, rfl⟩ := hyl _ _ hy
      refine ⟨wipe_set σ vs j _ hj, ?_⟩
      have gB := (g'.wipe vs).set j (dx.up eG)
      show te _ _ _
      obtain ⟨ob, hX⟩ := hstep i L e' us[i] d hdi hIi o'
      refine hX _ _ _ gB _ fun y dy e2 G4 H4 g4 t4 o4 dvy ⟨hI2, o2⟩ => ?_
      rw [ob] at t4 o4
      have h4 : H4 Dl = some (.lst acc) := t4.hh Dl _ hnD hacc
      have a4 : G4 Dl = none := t4.ow _ hG (by rw [hacc]; exact (fun e => nomatch e))
      have g5 := g4.unblk hj
      have hnD5 : Dl ∉ owns (wipeE e2 vs) := by rw [o2]; exact hnD
      · have g6 : Good K β σ (wipeE e2 vs) G4 (upd H4 Dl (.lst (acc ++ [y]))) := by
          refine ⟨g5.gg, fun a o h1 h2 => ?_, fun a u e => by rw [upd_ne (ne_of_none e a4)]; exact g5.gh a u e, g5.ow, fun a h => ?_, g5.sl.wr hnD5, g5.nd⟩
          · rw [upd_ne (fun z => by rw [z, hβ] at h2; cases h2)]; exact g5.hh a o h1 h2
          · by_cases z : a = Dl
            · subst z; rw [upd_same]; exact (fun e => nomatch e)
            · rw [upd_ne z]; exact g5.bh a h
        have tr : StpE (owns env) G H G4 H4 := StpE.trans (fun a ha hne => g'.there (by rw [o']; exact ha)) t' t4
        have tr2 : StpE (owns env) G H G4 (upd H4 Dl (.lst (acc ++ [y]))) := by
          refine ⟨tr.gg, g6.gh, fun a o ha e => ?_, tr.ow⟩
          have hne : a ≠ Dl := fun z => by
            subst z
            have : H1 a ≠ none := by rw [t1.hh a o ha e]; exact (fun e => nomatch e)
            exact this hD
          rw [upd_ne hne]; exact tr.hh a o ha e
        refine ⟨acc, h4, ?_, G4, acc ++ [y], L ++ [dy], wipeE e2 vs, g6, tr2, o2, eG.trans t4.gg, a4, upd_same, (hda.up t4.gg).append (.one dvy), by rw [List.length_append, hL]; rfl, hI2⟩
        rw [hda.length, hL]
        have := hd.length
        omega
    · have hil : i = us.length := by omega
      refine .inl ⟨(hJ i H' (eG.trans g'.gh)).1 hil, ?_⟩
      rw [hil, hd.length] at hIi
      have hnD' : Dl ∉ owns e' := by rw [o']; exact hnD
      refine q _ (.lst L) e' (upd G' Dl (.lst acc)) H' (g'.gain hG hnD' hβ hacc) ⟨t'.gg.trans (.new hG), (g'.gain hG hnD' hβ hacc).gh, t'.hh, fun a h1 h2 => ?_⟩ o' (.lst upd_same (hda.up (.new hG))) (hend L e' hIi _)
      by_cases z : a = Dl
      · subst z
        by_cases ho : a ∈ owns env
        · exact absurd ho hnD
        · cases hH : H a with
          | none => exact absurd hH h2
          | some o =>
            have := t1.hh a o ho hH
            rw [hD] at this
            cases this
      · rw [upd_ne z]; exact t'.ow a h1 h2
end
end DL

set_option Elab.async false
set_option linter.all false
set_option maxRecDepth 100000
set_option maxHeartbeats 2000000
namespace DL
open PySem PySem.Spec PyProof.Rows L2
section
variable {K : PySem.W.Frag} {β : Bas} {env : Env'} {ta tb te tc to tn tn' : TE} {tt tu : TT} {x y z d : D} {v w : V} {P : Post} {W : WX} {ts tr : TS}
/-- tuple([row for x in range(n)]) -/
theorem ev_rows {n j : Nat} {vs : List Nat} {f : Nat → Nat → Nat} (hl : n < 16777216) (hn : EV K β tn env (.int (n : Nat))) (hj : j ∈ vs)
    (hs : ∀ (x : Nat) v, x < n → EV K β te ((wipeE env vs).set j (.val v (.int (x : Nat)))) (rowD n (f x))) : EV K β (tThen (tLc (iRng1 (tCons tn tNil)) (gName j) tYes te vs) (kTup K)) env (tblD n f) :=
  ev_then (ev_lcR (F := fun x => rowD n (f x)) hn hl hj hs) un_tupL
/-- tuple([tuple([e for y in range(n)]) for x in range(n)]) -/
theorem ev_tab {n j k : Nat} {vs vs' : List Nat} {f : Nat → Nat → Nat} (hl : n < 16777216) (hn : EV K β tn env (.int (n : Nat))) (hj : j ∈ vs) (hk : k ∈ vs')
    (hn' : ∀ (x : Nat) v, x < n → EV K β tn' ((wipeE env vs).set j (.val v (.int (x : Nat)))) (.int (n : Nat)))
    (hs : ∀ (x y : Nat) vx vy, x < n → y < n → EV K β te ((wipeE ((wipeE env vs).set j (.val vx (.int (x : Nat)))) vs').set k (.val vy (.int (y : Nat)))) (.int (f x y : Nat))) :
    EV K β (tThen (tLc (iRng1 (tCons tn tNil)) (gName j) tYes (tThen (tLc (iRng1 (tCons tn' tNil)) (gName k) tYes te vs') (kTup K)) vs) (kTup K)) env (tblD n f) :=
  ev_rows hl hn hj fun x v hx => ev_then (ev_lcR (F := fun y => .int (f x y : Nat)) (hn' x v hx) hl hk fun y vy hy => hs x y v vy hx hy) un_tupL
theorem op_ixN {ms : List Nat} {i k : Nat} (h : ms[i]? = some k) : OpD K (rIx K) (.lst (lstN ms)) (.int (i : Nat)) (.int (k : Nat)) := op_ix (.inr rfl) (atI_natD (lstN_get h))
theorem op_ixR {n i : Nat} {f : Nat → Nat} (h : i < n) : OpD K (rIx K) (.lst ((List.range n).map fun (k : Nat) => D.int (f k : Nat))) (.int (i : Nat)) (.int (f i : Nat)) := op_ix (.inr rfl) (atI_natD (by rw [List.getElem?_map, List.getElem?_range h]; rfl))
end
end DL

set_option Elab.async false
set_option linter.all false
set_option maxRecDepth 100000
set_option maxHeartbeats 2000000
namespace DL
open PySem PySem.Spec PyProof.Rows L2
section
variable {K : PySem.W.Frag} {β : Bas} {env : Env'} {ta tb te tc to tn tn' t2 : TE} {tt tu : TT} {x y z d d1 : D} {v w : V} {P : Post} {W : WX} {ts tr : TS}
theorem ex_forget (i : Nat) (h : EX K β W ts (env.set i .un) P) : EX K β W ts env P := fun σ G H g => h σ G H (g.forget i)
/-- a, b = e, e may ask the box -/
theorem ex_asgX2 {i j n : Nat} {P1 : V → D → Env' → Prop} (he : XE K β te env P1) (k : ∀ v d e, P1 v d e → ∃ d1 d2, d = .tup [d1, d2] ∧ ∀ v1 v2, P.nx ((e.set i (.val v1 d1)).set j (.val v2 d2))) (hn : 2 = n := by rfl) :
    EX K β W (tAsg te (gTup K n (gCons (gName i) (gCons (gName j) gNil)))) env P := fun σ G H g Dn c x =>
  he σ G H g _ fun v d e G1 H1 g1 t1 e1 dv p1 => by
    obtain ⟨d1, d2, rfl, hk⟩ := k _ _ _ p1
    subst hn
    exact (eg_two (v := v)) σ G1 H1 g1 dv _ fun σ' env' g' ⟨v1, v2, he'⟩ => c.nx σ' env' G1 H1 g' t1.gg (by rw [he']; exact hk v1 v2)
theorem ex_asgX2S {i j n : Nat} {P1 : V → D → Env' → Prop} (he : XE K β te env P1) (k : ∀ v d e, P1 v d e → ∃ d1 d2, d = .tup [d1, d2] ∧ ∀ v1 v2, EX K β W tr ((e.set i (.val v1 d1)).set j (.val v2 d2)) P) (hn : 2 = n := by rfl) :
    EX K β W (tSeq (tAsg te (gTup K n (gCons (gName i) (gCons (gName j) gNil)))) tr) env P :=
  ex_seq (N := fun e' => EX K β W tr e' P) (ex_asgX2 he (fun v d e p => by
    obtain ⟨d1, d2, h, hk⟩ := k v d e p
    exact ⟨d1, d2, h, hk⟩) hn) fun e h => h
theorem xa_ev {P2 : V → D → Env' → Prop} (he : EV K β te env d1) (h2 : XE K β t2 env P2) : XA K β (tCons te (tCons t2 tNil)) env (fun _ ds e => ∃ v2 d2, ds = [d1, d2] ∧ P2 v2 d2 e) := fun σ G H g Q q =>
  he σ G H g _ fun v1 G1 H1 t1 dv1 => h2 σ G1 H1 (g.up t1) _ fun v2 d2 e G2 H2 g2 t2 e2 dv2 p => q [v1, v2] [d1, d2] e G2 H2 g2 (StpE.tr (g.up t1) rfl (.of t1) t2) e2 (.cons (dv1.up t2.gg) (.cons dv2 .nil)) ⟨v2, d2, rfl, p⟩
theorem xt_and {a : Bool} {P2 : Bool → Env' → Prop} (h1 : EVT K β tt env a) (h2 : a = true → XT K β tu env P2) : XT K β (tAnd tt tu) env (fun b e => (a = true ∧ P2 b e) ∨ (a = false ∧ b = false ∧ e = env)) := fun σ G H g Q q => h1 σ G H g _ fun G1 H1 t1 => by
  cases a with
  | true =>
    show tu σ H1 Q
    exact h2 rfl σ G1 H1 (g.up t1) Q fun b e G2 H2 g2 t2 e2 p => q b e G2 H2 g2 (StpE.tr (g.up t1) rfl (.of t1) t2) e2 (.inl ⟨rfl, p⟩)
  | false =>
    show Q false H1
    exact q false env G1 H1 (g.up t1) (.of t1) rfl (.inr ⟨rfl, rfl, rfl⟩)
theorem op_isNN : OpD K rIsN .non .non (.bl true) := fun G H v1 v2 e d1 d2 Q q => by
  cases d1; cases d2
  exact ⟨rfl, q _ G H (.refl e) (.bl _)⟩
theorem op_isNT {ds : List D} : OpD K rIsN (.tup ds) .non (.bl false) := fun G H v1 v2 e d1 d2 Q q => by
  cases d2
  obtain ⟨a, xs, rfl, _, _⟩ := d1.tupV
  exact ⟨rfl, q _ G H (.refl e) (.bl _)⟩
theorem op_notNN : OpD K rNotN .non .non (.bl false) := fun G H v1 v2 e d1 d2 Q q => by
  cases d1; cases d2
  exact ⟨rfl, q _ G H (.refl e) (.bl _)⟩
theorem op_notNT {ds : List D} : OpD K rNotN (.tup ds) .non (.bl true) := fun G H v1 v2 e d1 d2 Q q => by
  cases d2
  obtain ⟨a, xs, rfl, _, _⟩ := d1.tupV
  exact ⟨rfl, q _ G H (.refl e) (.bl _)⟩
end
end DL

set_option Elab.async false
set_option linter.all false
set_option maxRecDepth 100000
set_option maxHeartbeats 4000000
namespace DL
open PySem PySem.Spec PyProof.Rows L2
theorem tuple_mul0 (l : Addr) (items : Array Value) (n : Nat) (dd : Option Addr) (sl : Array (Option Value)) (u : Tok) (c1 : items.isEmpty = false) :
    Meets (Builtin.«tuple.__mul__» ⟨[.ref l, .int 0 u], []⟩) (fun _ R s => s.heap.get? l = some { cls := .type "tuple", dict := dd, data := .seq items n, slots := sl } ∧
      R (.ok (.ret (Value.ref s.heap.objs.size))) { s with heap := s.heap.push { cls := Value.type "tuple", data := Data.seq #[] }, toks := s.toks }) :=
  .of_wp fun prog w A R s h => by
    obtain ⟨hp, g, d, tk, os⟩ := s
    obtain ⟨hl, h⟩ := h
    have f1 := AutoSeq1.idx_int
    have c1' : (items.isEmpty || (0 : Int) == 1) = false := by rw [c1]; rfl
    wp_walk using wpAny_loadPart' hl
    repeat (first
      | (refine wpAny_ite_false (decide_eq_false (by rw [c1']; exact Bool.false_ne_true)) ?_; wp_walk using wpAny_loadPart' hl)
      | (refine wpAny_ite_true (by decide) ?_; wp_walk using wpAny_loadPart' hl))
    exact ⟨_, rfl, h⟩
def rRepT3 (K : PySem.W.Frag) : R2 := fun x y H Q => (∃ l xs, x = .ref l ∧ y = .int 0 ∧ SqT K H l xs ∧ xs ≠ [] ∧ ∀ p, H p = none → Q (.ref p) (upd H p (.tup []))) ∨ rRepT2 K x y H Q
theorem op_repT3 {X : Cx} : OpR X (binaryOp .Mult) (rRepT3 X.K) := by
  intro pins s σ H x y v u Q I rx ry h
  rcases h with ⟨l, xs, rfl, rfl, hT, hne, q⟩ | h
  · cases rx
    obtain ⟨t, rfl⟩ := ry
    obtain ⟨its, r, ⟨⟨cls, dd, data, sl⟩, ho, hc, n, hd⟩, hs⟩ := I.tuple hT
    simp only at hc hd
    subst hc hd
    have hi : its.toArray.isEmpty = false := by
      cases its with
      | nil => cases r; exact absurd rfl hne
      | cons a b => rfl
    refine wpAny_binaryOp_repeat_ref (T := "tuple") (U := "int") (by decide) ⟨_, ho, rfl⟩ (fun s' => typeIs_int s' 0 t) noFill_tuple_mul F.fills_int_mul F.slot_int_rmul repeat_tuple F.slot_int_index.lookup
      (call_meets F.slot_int_rmul (typeIs_int s 0 t) F.entry_int_rmul (F.args_int_rmul_2 _ _) (int_rmul_tuple 0 t l its.toArray n dd sl)
        ⟨ho, rfl, ⟨_, ho, rfl⟩, call_meets F.slot_tuple_mul ⟨_, ho, rfl⟩ F.entry_tuple_mul (F.args_tuple_mul_2 _ _) (tuple_mul0 l its.toArray n dd sl t hi) ⟨ho, ?_⟩⟩)
    refine ⟨.ref s.heap.objs.size, _, I.laid (t' := s.toks) (o := .tup []) (fun b ob q => Heap.get?_push_of_some _ q) (Nat.le_refl _) ?_, rfl, q _ (I.hok.fresh (Nat.le_refl _))⟩
    exact ⟨Nat.zero_le _, [], .nil, IsTup.new _ _⟩
  · exact op_repT2 pins s σ H _ _ v u Q I rx ry h
theorem op_repT3K {X : Cx} (K : PySem.W.Frag) (h : X.K = K := by rfl) : OpR X (binaryOp .Mult) (rRepT3 K) := h ▸ op_repT3
theorem op_catAK {X : Cx} (K : PySem.W.Frag) (h : X.K = K := by rfl) : OpR X (binaryOp .Add) (rCatA K) := h ▸ op_catA
theorem sl_tupAK {X : Cx} (K : PySem.W.Frag) (h : X.K = K := by rfl) : SlR X (rSlA K) := h ▸ sl_tupA
section
variable {K : PySem.W.Frag} {β : Bas} {env : Env'} {ta tb te tc : TE} {tt tu : TT} {x y z d : D} {v w : V}
theorem op_repT3D {ds : List D} {k : Nat} (h2 : k ≤ 1000) (hn : ds ≠ []) (hl : ds.length ≤ 1000) : OpD K (rRepT3 K) (.tup ds) (.int (k : Nat)) (.tup (List.replicate k ds).flatten) := fun G H v1 v2 e0 d1 d2 Q q => by
  by_cases hk : k = 0
  · subst hk
    obtain ⟨a, xs, rfl, ht, hd⟩ := d1.tupV
    exact .inl ⟨a, xs, rfl, d2.intV, ex_t e0 ht, fun z => hn (List.eq_nil_of_length_eq_zero (by rw [← hd.length, z]; rfl)), fun p hp => q _ (upd G p (.tup [])) _ (.new e0 hp) (.tup (.of upd_same) .nil)⟩
  · have := op_repTD (K := K) (ds := ds) (k := (k : Nat)) (by omega) (by omega) hn hl G H v1 v2 e0 d1 d2 Q
    rw [Int.toNat_natCast] at this
    exact .inr (this q)
theorem op_catAD {ds es : List D} (hl : ds.length + es.length ≤ sizeLine) : OpD K (rCatA K) (.tup ds) (.tup es) (.tup (ds ++ es)) := fun G H v1 v2 e0 d1 d2 Q q => by
  obtain ⟨a, xs, rfl, ht, hd⟩ := d1.tupV
  obtain ⟨b, ys, rfl, ht', hd'⟩ := d2.tupV
  refine ⟨a, b, xs, ys, rfl, rfl, ex_t e0 ht, ex_t e0 ht', by rw [hd.length, hd'.length]; exact hl, fun z => ?_, fun _ z => ?_, fun _ _ p hp => ?_⟩
  · subst z
    cases hd
    exact q _ G H (.refl e0) (.tup ht' hd')
  · subst z
    cases hd'
    rw [List.append_nil] at q
    exact q _ G H (.refl e0) (.tup ht hd)
  · exact q _ (upd G p (.tup (xs ++ ys))) _ (.new e0 hp) (.tup (.of upd_same) ((hd.append hd').up (.new (e0.back hp))))
theorem DatL.cut {G : Hp} {xs : List V} {ds : List D} (h : DatL K G xs ds) (lo hi : Option Int) : DatL K G (cutV xs lo hi) ((ds.drop (HT.sIx ds.length 0 lo)).take (HT.sIx ds.length ds.length hi - HT.sIx ds.length 0 lo)) := by
  unfold cutV
  rw [h.length]
  exact (h.drop _).take _
/-- t[1:] -/
theorem ev_tl {ds : List D} (h : EV K β te env (.tup ds)) : EV K β (tSl (rSlA K) te (tPart (tC (.int 1))) tNoPart) env (.tup ds.tail) := fun σ G H g Q q =>
  h σ G H g _ fun v1 G1 H1 t1 d1 => by
    obtain ⟨a, xs, rfl, ht, hd⟩ := d1.tupV
    refine ⟨1, rfl, a, xs, rfl, ex_t t1.gh ht, fun hw => ?_, fun _ p hp => ?_⟩
    · have : xs = [] := by
        cases xs with
        | nil => rfl
        | cons x xs =>
          have := hw.1
          rw [show (some (1 : Int)) = some ((1 : Nat) : Int) from rfl, HT.sIx_nat] at this
          simp at this
      subst this
      cases hd
      exact q _ G1 H1 t1 (.tup ht .nil)
    · have hc := hd.cut (some 1) none
      have e : (ds.drop (HT.sIx ds.length 0 (some 1))).take (HT.sIx ds.length ds.length none - HT.sIx ds.length 0 (some 1)) = ds.tail := by
        rw [show (some (1 : Int)) = some ((1 : Nat) : Int) from rfl, HT.sIx_nat, HT.sIx_none]
        cases ds with
        | nil => rfl
        | cons x ds => simp
      rw [e] at hc
      exact q _ (upd G1 p _) _ (t1.trans (.new t1.gh hp)) (.tup (.of upd_same) (hc.up (.new (t1.gh.back hp))))
/-- t[:-1] -/
theorem ev_init {ds : List D} (hne : ds ≠ []) (h : EV K β te env (.tup ds)) : EV K β (tSl (rSlA K) te tNoPart (tPart (tUn (rU fun i => .int (-i)) (tC (.int 1))))) env (.tup ds.dropLast) := fun σ G H g Q q =>
  h σ G H g _ fun v1 G1 H1 t1 d1 => by
    obtain ⟨a, xs, rfl, ht, hd⟩ := d1.tupV
    have hx : 1 ≤ xs.length := by rw [hd.length]; exact List.length_pos_iff.mpr hne
    refine ⟨1, rfl, -1, rfl, a, xs, rfl, ex_t t1.gh ht, fun hw => ?_, fun _ p hp => ?_⟩
    · have := hw.2
      unfold HT.sIx at this
      simp at this
      omega
    · have hc := hd.cut none (some (-1))
      have e : (ds.drop (HT.sIx ds.length 0 none)).take (HT.sIx ds.length ds.length (some (-1)) - HT.sIx ds.length 0 none) = ds.dropLast := by
        rw [HT.sIx_none, List.drop_zero, Nat.sub_zero, List.dropLast_eq_take]
        congr 1
        unfold HT.sIx
        simp
        omega
      rw [e] at hc
      exact q _ (upd G1 p _) _ (t1.trans (.new t1.gh hp)) (.tup (.of upd_same) (hc.up (.new (t1.gh.back hp))))
theorem ev_dnew : EV K β tDNewK env (.dct []) := fun σ G H g Q q p hp => q _ (upd G p (.dK [])) _ (.new g.gh hp) (.dct upd_same .nil)
end
end DL

set_option Elab.async false
set_option linter.all false
set_option maxRecDepth 100000
set_option maxHeartbeats 4000000
namespace DL
open PySem PySem.Spec PyProof.Rows L2
section
variable {K : PySem.W.Frag} {β : Bas} {env : Env'} {ta tb te tc to tn tn' t2 : TE} {tt tu : TT} {x y z d d1 : D} {v w : V} {P : Post} {W : WX} {ts tr : TS}
theorem callB_core {R : List D → (D → Prop) → Prop} {i k n : Nat} {b : Addr} {bs : List D} {E : XK} {Pd : D → Prop} {ds : List D} {ws : List V} {σ : Sg} {G1 H1 : Hp} (g1 : Good K β σ env G1 H1) (hi : env[i]? = some (.own b bs)) (hb : BoxD n bs) (hn : n + k ≤ 1000000000) (dws : DatL K G1 ws ds) (hR : R ds Pd) {Q : VK}
    (q : ∀ v d bs' G2 H2, Good K β σ (env.set i (.own b bs')) G2 H2 → StpE (owns env) G1 H1 G2 H2 → Dat K G2 v d → Pd d → BoxD (n + k) bs' → Q v H2) : spB K k R ((.ref b :: ws) ++ []) H1 Q E := by
  obtain ⟨_, h2, _⟩ := g1.own hi
  obtain ⟨_, _, h3', ys, h4', h5'⟩ := g1.own hi
  refine ⟨G1, b, n, ys, bs, ws, ds, Pd, by rw [List.append_nil], h3', h4', h5', hb, hn, g1.gh, dws, hR, fun v d G2 H2 xs' bs' pd t2 e1 e2 dx hbx dv => ?_⟩
  have hm : b ∈ owns env := List.mem_filterMap.mpr ⟨_, List.mem_of_getElem? hi, rfl⟩
  have t3 : StpE (owns env) G1 H1 G2 H2 := ⟨t2.gg, t2.gh, fun a o hx h => t2.hh a o (fun z => hx (by rw [List.mem_singleton.mp z]; exact hm)) h, t2.ow⟩
  have g2 : Good K β σ (env.set i (.own b bs')) G2 H2 := by
    have gw := g1.write hi (xs := ys) (ds' := bs) h5'
    refine ⟨g1.gg.trans t2.gg, fun a o h5 h6 => ?_, t2.gh, fun a h5 h6 => t2.ow a (g1.ow a h5 h6) (g1.hn h6), fun a h5 => ?_, ?_, by rw [nd_own hi]; exact g1.nd⟩
    · by_cases hab : a = b
      · subst hab
        rcases h2 with z | z
        · rw [z] at h6; cases h6
        · exact absurd z h5
      · exact t2.hh a o (fun z => hab (List.mem_singleton.mp z)) (g1.hh a o h5 h6)
    · by_cases hab : a = b
      · subst hab; rw [e1]; exact (fun e => nomatch e)
      · cases q' : H1 a with
        | none => exact absurd q' (g1.bh a h5)
        | some o => rw [t2.hh a o (fun z => hab (List.mem_singleton.mp z)) q']; exact (fun e => nomatch e)
    · have key : ∀ {σ : Sg} {env : Env'} {i : Nat}, SlsOk K β G1 H1 σ env → env[i]? = some (.own b bs) → (env.filterMap ownA).Nodup → SlsOk K β G2 H2 σ (env.set i (.own b bs')) := by
        have other : ∀ {σ : Sg} {env : Env'}, SlsOk K β G1 H1 σ env → b ∉ env.filterMap ownA → SlsOk K β G2 H2 σ env := by
          intro σ env s
          induction s with
          | nil => intro _; exact .nil
          | @cons o s σ env x r ih =>
            intro m
            rw [List.filterMap_cons] at m
            cases s with
            | un => exact .cons trivial (ih m)
            | val v d => exact .cons ⟨x.1, x.2.up t2.gg⟩ (ih m)
            | own c es =>
              have m' : b ∉ c :: env.filterMap ownA := m
              obtain ⟨y1, y2, y3, zs, y4, y5⟩ := x
              have hne : c ≠ b := fun z => m' (by rw [← z]; exact List.mem_cons_self)
              exact .cons ⟨y1, y2, t2.ow c y3 (by rw [y4]; exact (fun e => nomatch e)), zs, t2.hh c _ (fun z => hne (List.mem_singleton.mp z)) y4, y5.up t2.gg⟩ (ih fun z => m' (List.mem_cons_of_mem _ z))
            | odi c es =>
              have m' : b ∉ c :: env.filterMap ownA := m
              obtain ⟨y1, y2, y3, zs, y4, y5⟩ := x
              have hne : c ≠ b := fun z => m' (by rw [← z]; exact List.mem_cons_self)
              exact .cons ⟨y1, y2, t2.ow c y3 (by rw [y4]; exact (fun e => nomatch e)), zs, t2.hh c _ (fun z => hne (List.mem_singleton.mp z)) y4, y5.up t2.gg⟩ (ih fun z => m' (List.mem_cons_of_mem _ z))
            | obj c es =>
              have m' : b ∉ c :: env.filterMap ownA := m
              obtain ⟨y1, y2, y3, zs, y4, y5⟩ := x
              have hne : c ≠ b := fun z => m' (by rw [← z]; exact List.mem_cons_self)
              exact .cons ⟨y1, y2, t2.ow c y3 (by rw [y4]; exact (fun e => nomatch e)), zs, t2.hh c _ (fun z => hne (List.mem_singleton.mp z)) y4, y5.up t2.gg⟩ (ih fun z => m' (List.mem_cons_of_mem _ z))
        intro σ env i s
        induction s generalizing i with
        | nil => intro e; simp at e
        | @cons o s σ env x r ih =>
          intro e nd
          cases i with
          | zero =>
            simp at e
            subst e
            obtain ⟨y1, y2, y3, zs, y4, y5⟩ := x
            exact .cons ⟨y1, y2, e2, xs', e1, dx⟩ (other r (List.nodup_cons.mp (show (b :: env.filterMap ownA).Nodup from nd)).1)
          | succ i =>
            have e' : env[i]? = some (.own b bs) := by simpa using e
            have hm' : b ∈ env.filterMap ownA := List.mem_filterMap.mpr ⟨_, List.mem_of_getElem? e', rfl⟩
            rw [List.filterMap_cons] at nd
            cases s with
            | un => exact .cons trivial (ih e' nd)
            | val v d => exact .cons ⟨x.1, x.2.up t2.gg⟩ (ih e' nd)
            | own c es =>
              have nd' : (c :: env.filterMap ownA).Nodup := nd
              have hne : c ≠ b := fun z => (List.nodup_cons.mp nd').1 (by rw [z]; exact hm')
              obtain ⟨y1, y2, y3, zs, y4, y5⟩ := x
              exact .cons ⟨y1, y2, t2.ow c y3 (by rw [y4]; exact (fun e => nomatch e)), zs, t2.hh c _ (fun z => hne (List.mem_singleton.mp z)) y4, y5.up t2.gg⟩ (ih e' (List.nodup_cons.mp nd').2)
            | odi c es =>
              have nd' : (c :: env.filterMap ownA).Nodup := nd
              have hne : c ≠ b := fun z => (List.nodup_cons.mp nd').1 (by rw [z]; exact hm')
              obtain ⟨y1, y2, y3, zs, y4, y5⟩ := x
              exact .cons ⟨y1, y2, t2.ow c y3 (by rw [y4]; exact (fun e => nomatch e)), zs, t2.hh c _ (fun z => hne (List.mem_singleton.mp z)) y4, y5.up t2.gg⟩ (ih e' (List.nodup_cons.mp nd').2)
            | obj c es =>
              have nd' : (c :: env.filterMap ownA).Nodup := nd
              have hne : c ≠ b := fun z => (List.nodup_cons.mp nd').1 (by rw [z]; exact hm')
              obtain ⟨y1, y2, y3, zs, y4, y5⟩ := x
              exact .cons ⟨y1, y2, t2.ow c y3 (by rw [y4]; exact (fun e => nomatch e)), zs, t2.hh c _ (fun z => hne (List.mem_singleton.mp z)) y4, y5.up t2.gg⟩ (ih e' (List.nodup_cons.mp nd').2)
      exact key g1.sl hi g1.nd
  exact q v d bs' G2 H2 g2 t3 dv pd hbx

/-- a call of such a def whose arguments ask the box, too -/
theorem xe_callBX {R : List D → (D → Prop) → Prop} {i k : Nat} {b : Addr} {bs0 : List D} {tr : TA} {E : XK} {P1 : List V → List D → Env' → Prop} {PP : V → D → Env' → Prop} (hi0 : env[i]? = some (.own b bs0)) (ha : XA K β tr env P1)
    (hp : ∀ vs ds e, P1 vs ds e → ∃ bs n Pd, e[i]? = some (.own b bs) ∧ BoxD n bs ∧ n + k ≤ 1000000000 ∧ R ds Pd ∧ ∀ v d bs', Pd d → BoxD (n + k) bs' → PP v d (e.set i (.own b bs'))) :
    XE K β (tCall (spB K k R) [] E (tCons (tVar i) tr)) env PP := fun σ G H g Q q => by
  obtain ⟨h1, _⟩ := g.own hi0
  refine ⟨.ref b, h1, ha σ G H g _ fun ws ds e G1 H1 g1 t1 o1 dws p1 => ?_⟩
  obtain ⟨bs, n, Pd, hi, hb, hn, hR, hP⟩ := hp _ _ _ p1
  refine callB_core g1 hi hb hn dws hR fun v d bs' G2 H2 g2 t2 dv pd hb' => ?_
  exact q v d _ G2 H2 g2 (StpE.tr g1 o1 t1 t2) (by rw [← o1]; exact nd_own hi) dv (hP v d bs' pd hb')
theorem xt_or {P1 P2 : Bool → Env' → Prop} (h1 : XT K β tt env P1) (hf : ∀ b e, P1 b e → b = false ∧ XT K β tu e P2) : XT K β (tOr tt tu) env P2 := fun σ G H g Q q =>
  h1 σ G H g _ fun b e G1 H1 g1 t1 o1 p1 => by
    obtain ⟨rfl, h2⟩ := hf b e p1
    show tu σ H1 Q
    exact h2 σ G1 H1 g1 Q fun b e2 G2 H2 g2 t2 o2 p => q b e2 G2 H2 g2 (StpE.tr g1 o1 t1 t2) (o2.trans o1) p
/-- for g in e: .., e a list that may ask the box -/
theorem ex_forXG {tl : TE} {gt : TG} {P1 : V → D → Env' → Prop} (hI : XE K β tl env P1) (hl : ∀ v d e, P1 v d e → ∃ ds, d = .lst ds ∧ ∃ I : Nat → Env' → Prop, I 0 e ∧
      (∀ i env' v' d', ds[i]? = some d' → I i env' → ∃ Pg, EG K β gt env' v' d' Pg ∧ ∀ env2, Pg env2 → EX K β W ts env2 { P with nx := I (i + 1), ct := I (i + 1), bk := P.nx }) ∧ (∀ env', I ds.length env' → P.nx env')) :
    EX K β W (tFor (iList K tl) gt ts) env P := fun σ G H g0 Dn c x =>
  hI σ G H g0 _ fun v d e G1 H1 g1 t1 e1 dv p1 => by
    obtain ⟨ds, rfl, I, h0, hs, hd⟩ := hl v d e p1
    obtain ⟨a, xs, rfl, ga, hx⟩ := dv.lstV
    exact ⟨a, rfl, ⟨xs, .of (g1.gh _ _ ga)⟩, for_core I g1 hx (itv_list ga) h0 hs hd (c.up t1.gg) (x.up t1.gg)⟩
theorem ex_forXGS {tl : TE} {gt : TG} {P1 : V → D → Env' → Prop} (N : Env' → Prop) (hI : XE K β tl env P1) (hl : ∀ v d e, P1 v d e → ∃ ds, d = .lst ds ∧ ∃ I : Nat → Env' → Prop, I 0 e ∧
      (∀ i env' v' d', ds[i]? = some d' → I i env' → ∃ Pg, EG K β gt env' v' d' Pg ∧ ∀ env2, Pg env2 → EX K β W ts env2 { P with nx := I (i + 1), ct := I (i + 1), bk := fun _ => False }) ∧ (∀ env', I ds.length env' → N env'))
    (hd : ∀ env', N env' → EX K β W tr env' P) : EX K β W (tSeq (tFor (iList K tl) gt ts) tr) env P :=
  ex_seq (N := N) (ex_forXG hI fun v d e p1 => by
    obtain ⟨ds, h1, I, h2, h3, h4⟩ := hl v d e p1
    exact ⟨ds, h1, I, h2, fun i env' v' d' q1 q2 => by
      obtain ⟨Pg, hg, hh⟩ := h3 i env' v' d' q1 q2
      exact ⟨Pg, hg, fun env2 hp => (hh env2 hp).imp (fun _ h => h) (fun _ _ _ h => h) (fun _ h => h.elim) (fun _ h => h) fun _ _ _ _ h => h⟩, h4⟩) hd
theorem ev_catOwn2 {i j : Nat} {a b : Addr} {ds es : List D} (hi : env[i]? = some (.own a ds)) (hj : env[j]? = some (.own b es)) (hl : ds.length + es.length ≤ sizeLine) : EV K β (tOp rCat (tVar i) (tVar j)) env (.lst (ds ++ es)) := fun σ G H g Q q => by
  obtain ⟨h1, _, _, xs, h4, h5⟩ := g.own hi
  obtain ⟨k1, _, _, ys, k4, k5⟩ := g.own hj
  exact ⟨.ref a, h1, .ref b, k1, a, b, xs, ys, rfl, rfl, h4, k4, by rw [h5.length, k5.length]; exact hl, fun p hp => q _ (upd G p (.lst (xs ++ ys))) _ (.new g.gh hp) (.lst upd_same ((h5.append k5).up (.new (g.gh.back hp))))⟩
/-- a, b = x, y, both may ask the box -/
theorem ex_parXS {i j : Nat} {ta : TA} {PA' : List V → List D → Env' → Prop} (h : XA K β ta env PA') (k : ∀ vs ds e, PA' vs ds e → ∃ d1 d2, ds = [d1, d2] ∧ ∀ v1 v2, vs = [v1, v2] → EX K β W tr ((e.set i (.val v1 d1)).set j (.val v2 d2)) P) : EX K β W (tSeq (tPar i j ta) tr) env P :=
  ex_seq (N := fun e' => EX K β W tr e' P) (ex_parX h k) fun e h => h
end
end DL

set_option Elab.async false
set_option linter.all false
set_option maxRecDepth 100000
set_option maxHeartbeats 2000000
namespace DL
open PySem PySem.Spec PyProof.Rows L2
/-! ### fresh lists: what a def hands back is in the view, so a list that was not in the view that it was given is new -/
mutual
/-- data in which no list stands -/
def plainD : D → Bool
  | .tup ds => plainDs ds
  | .lst _ => false
  | .dct _ => false
  | .idn _ d => plainD d
  | .rng _ _ => false
  | .exc _ => false
  | .set _ _ _ => false
  | .non => true | .bl _ => true | .int _ => true | .str _ => true | .op _ => true
def plainDs : List D → Bool
  | [] => true
  | d :: ds => plainD d && plainDs ds
end
theorem plainDs_of : ∀ {ds : List D}, (∀ d ∈ ds, plainD d = true) → plainDs ds = true
  | [], _ => rfl
  | d :: ds, h => by
    show (plainD d && plainDs ds) = true
    rw [h d List.mem_cons_self, plainDs_of fun x hx => h x (List.mem_cons_of_mem _ hx)]
    rfl
theorem plain_tbl {n : Nat} {f : Nat → Nat → Nat} : plainD (tblD n f) = true :=
  plainDs_of fun d hd => by
    obtain ⟨x, _, rfl⟩ := List.mem_map.mp hd
    exact plainDs_of fun d hd => by
      obtain ⟨y, _, rfl⟩ := List.mem_map.mp hd
      rfl
/-- the view without lists -/
def noL (G : Hp) : Hp := fun a => match G a with
  | some (.lst _) => none
  | o => o
theorem noL_ex {G : Hp} : Ex (noL G) G := fun a o h => by
  unfold noL at h
  split at h
  · cases h
  · exact h
theorem noL_no {G : Hp} {a : Addr} {xs : List V} (h : noL G a = some (.lst xs)) : False := by
  unfold noL at h
  split at h
  · cases h
  · rename_i q
    exact q xs h
theorem noL_of {G : Hp} {a : Addr} {o : HO} (h : G a = some o) (hn : ∀ xs, o ≠ .lst xs) : noL G a = some o := by
  unfold noL
  rw [h]
  split
  · rename_i xs e
    exact absurd (Option.some.inj e) (hn xs)
  · rfl
theorem noL_none {G : Hp} {a : Addr} (h : G a = none) : noL G a = none := by
  unfold noL
  rw [h]
theorem noL_t {K : PySem.W.Frag} {G : Hp} {a : Addr} {xs : List V} (h : SqT K G a xs) : SqT K (noL G) a xs := by
  rcases h with (h | ⟨o, h⟩) | h
  · exact .inl (.inl (noL_of h fun _ e => nomatch e))
  · exact .inl (.inr ⟨o, noL_of h fun _ e => nomatch e⟩)
  · exact .inr h
mutual
theorem Dat.noL {K : PySem.W.Frag} {G : Hp} : ∀ (d : D) (v : V), plainD d = true → Dat K G v d → Dat K (noL G) v d
  | .non, _, _, h => by cases h; exact .non
  | .bl b, _, _, h => by cases h; exact .bl b
  | .int i, _, _, h => by cases h; exact .int i
  | .str x, _, _, h => by cases h; exact .str x
  | .tup ds, _, p, h => by cases h with | tup a b => exact .tup (noL_t a) (DatL.noL ds _ p b)
  | .lst ds, _, p, h => by cases p
  | .dct ds, _, p, h => by cases p
  | .op v, _, _, h => by cases h; exact .op v
  | .idn v d, _, p, h => by cases h with | idn a => exact .idn (Dat.noL d _ p a)
  | .rng _ _, _, p, h => by cases p
  | .exc _, _, p, h => by cases p
  | .set _ _ _, _, p, h => by cases p
theorem DatL.noL {K : PySem.W.Frag} {G : Hp} : ∀ (ds : List D) (vs : List V), plainDs ds = true → DatL K G vs ds → DatL K (noL G) vs ds
  | [], _, _, h => by cases h; exact .nil
  | d :: ds, _, p, h => by
    have p' : (plainD d && plainDs ds) = true := p
    obtain ⟨p1, p2⟩ := Bool.and_eq_true_iff.mp p'
    cases h with | cons a b => exact .cons (Dat.noL d _ p1 a) (DatL.noL ds _ p2 b)
end
def joinH (G G' : Hp) : Hp := fun a => match G' a with
  | some o => some o
  | none => G a
theorem join_r {G G' : Hp} : Ex G' (joinH G G') := fun a o h => by unfold joinH; rw [h]
/-- the list is new -/
def Fr (H : Hp) (v : V) (d : D) : Prop := ∀ ds, d = .lst ds → ∃ p, v = .ref p ∧ H p = none
theorem Fr.back {H H' : Hp} {v : V} {d : D} (e : Ex H H') (h : Fr H' v d) : Fr H v d := fun ds hd => by
  obtain ⟨p, h1, h2⟩ := h ds hd
  exact ⟨p, h1, e.back h2⟩
section
variable {K : PySem.W.Frag} {β : Bas} {env : Env'} {ta tb te tc to : TE} {tt tu : TT} {x y z d : D} {v w : V} {P : Post} {W : WX} {ts tr : TS}
theorem noL_join {G H G' H' : Hp} (e : Ex G H) (t : Stp (noL G) H G' H') : Stp G H (joinH G G') H' :=
  ⟨fun a o h => by
    unfold joinH
    cases q : G' a with
    | none => exact h
    | some o' =>
      have h1 := t.gh a o' q
      rw [t.hh a o (e a o h)] at h1
      exact h1.symm, t.hh, fun a o h => by
    unfold joinH at h
    cases q : G' a with
    | none => rw [q] at h; exact t.hh a o (e a o h)
    | some o' => rw [q] at h; cases h; exact t.gh a _ q, fun a h1 h2 => by
    unfold joinH
    rw [t.ow a (noL_none h1) h2]
    exact h1⟩
theorem noL_fr {G H G' H' : Hp} (t : Stp (noL G) H G' H') (dv : Dat K G' v d) : Fr H v d := fun ds hd => by
  subst hd
  obtain ⟨p, xs, rfl, hp, _⟩ := dv.lstV
  refine ⟨p, rfl, ?_⟩
  cases q : H p with
  | none => rfl
  | some o =>
    exfalso
    cases q2 : noL G p with
    | none => rw [t.ow p q2 (by rw [q]; exact (fun e => nomatch e))] at hp; cases hp
    | some o2 =>
      have := t.gg p o2 q2
      rw [hp] at this
      cases this
      exact noL_no q2
/-- an expression whose value, if a list, is new -/
def EVf (K : PySem.W.Frag) (β : Bas) (te : TE) (env : Env') (d : D) : Prop := ∀ σ G H, Good K β σ env G H → ∀ Q : VK, (∀ v G' H', Stp G H G' H' → Dat K G' v d → Fr H v d → Q v H') → te σ H Q
theorem EVf.ev (h : EVf K β te env d) : EV K β te env d := fun σ G H g Q q => h σ G H g Q fun v G' H' t dv _ => q v G' H' t dv
theorem EV.evf (h : EV K β te env d) (hd : ∀ ds, d ≠ .lst ds) : EVf K β te env d := fun σ G H g Q q => h σ G H g Q fun v G' H' t dv => q v G' H' t dv fun ds e => absurd e (hd ds)
theorem spX_new {R : List D → D → Prop} {E' : List V → List D → Value → Str → V → Prop} {G H : Hp} {vs : List V} {ds : List D} {Q : VK} {E : XK} (e : Ex G H) (dl : DatL K G vs ds) (hp : plainDs ds = true) (h : R ds d) (q : ∀ v G' H', Stp G H G' H' → Dat K G' v d → Fr H v d → Q v H') : spX K R E' vs H Q E :=
  ⟨noL G, ds, (noL_ex.trans e), DatL.noL ds vs hp dl, .inl ⟨d, h, fun v G' H' t dv => q v (joinH G G') H' (noL_join e t) (dv.up join_r) (noL_fr t dv)⟩⟩
theorem Fr.at {H H' : Hp} {G G' : Hp} (t : Stp G H G' H') (h : Fr H' v d) : Fr H v d := h.back t.hh
theorem ef_callX {R : List D → D → Prop} {E' : List V → List D → Value → Str → V → Prop} {ta : TA} {ds : List D} {E : Sg → XK} (he : EVA K β ta env ds) (hp : plainDs ds = true) (h : R ds d) : EVf K β (tCallS (spX K R E') E ta) env d := fun σ G H g Q q =>
  he σ G H g _ fun vs G1 H1 t1 d1 => spX_new t1.gh d1 hp h fun v G2 H2 t2 d2 f => q v G2 H2 (t1.trans t2) d2 (f.back t1.hh)
theorem ef_callK {R : List D → D → Prop} {E' : List V → List D → Value → Str → V → Prop} {ta : TA} {ds ds' : List D} {gV : List V → List V → List V} {E : Sg → XK} (he : EVA K β ta env ds) (hg : ∀ G vs, DatL K G vs ds → DatL K G (gV [] vs) ds') (hp : plainDs ds' = true) (h : R ds' d) :
    EVf K β (tCallK0 (spX K R E') gV E ta) env d := fun σ G H g Q q =>
  he σ G H g _ fun vs G1 H1 t1 d1 => spX_new t1.gh (hg _ _ d1) hp h fun v G2 H2 t2 d2 f => q v G2 H2 (t1.trans t2) d2 (f.back t1.hh)
theorem ef_callV {R : List D → D → Prop} {E' : List V → List D → Value → Str → V → Prop} {ta : TA} {ds : List D} {E : Sg → XK} {i : Nat} {f : Addr} {df : D} (hi : env[i]? = some (.val (.ref f) df)) (he : EVA K β ta env ds) (hp : plainDs ds = true) (h : R ds d) : EVf K β (tCallVS i f (spX K R E') E ta) env d := fun σ G H g Q q =>
  ⟨slot_val g hi, he σ G H g _ fun vs G1 H1 t1 d1 => spX_new t1.gh d1 hp h fun v G2 H2 t2 d2 f => q v G2 H2 (t1.trans t2) d2 (f.back t1.hh)⟩
theorem ef_callVK {R : List D → D → Prop} {E' : List V → List D → Value → Str → V → Prop} {ta : TA} {ds ds' : List D} {gV : List V → List V → List V} {E : Sg → XK} {i : Nat} {f : Addr} {df : D} (hi : env[i]? = some (.val (.ref f) df)) (he : EVA K β ta env ds) (hg : ∀ G vs, DatL K G vs ds → DatL K G (gV [] vs) ds') (hp : plainDs ds' = true) (h : R ds' d) :
    EVf K β (tCallVK i f (spX K R E') gV E ta) env d := fun σ G H g Q q =>
  ⟨slot_val g hi, he σ G H g _ fun vs G1 H1 t1 d1 => spX_new t1.gh (hg _ _ d1) hp h fun v G2 H2 t2 d2 f => q v G2 H2 (t1.trans t2) d2 (f.back t1.hh)⟩
theorem ef_if {b : Bool} (h : EVT K β tt env b) (h1 : b = true → EVf K β ta env d) (h2 : b = false → EVf K β tb env d) : EVf K β (tIf tt ta tb) env d := fun σ G H g Q q => h σ G H g _ fun G1 H1 t1 => by
  cases b with
  | true => show ta σ H1 Q; exact h1 rfl σ G1 H1 (g.up t1) Q fun v G2 H2 t2 d2 f => q v G2 H2 (t1.trans t2) d2 (f.back t1.hh)
  | false => show tb σ H1 Q; exact h2 rfl σ G1 H1 (g.up t1) Q fun v G2 H2 t2 d2 f => q v G2 H2 (t1.trans t2) d2 (f.back t1.hh)
/-- return [text, e], e's value new if a list -/
theorem ex_retF {s : Str} (he : EVf K β te env d) (h : ∀ v u, Fr β.H u d → P.rt v (.lst [.str s, .idn u d]) env) : EX K β W (tRet (tLst (tCons (tC (.str s)) (tCons te tNil)))) env P := fun σ G H g Dn c x =>
  he σ G H g _ fun u G1 H1 t1 d1 f => ⟨sz 2, fun p hp => c.rt _ _ (upd G1 p (.lst [.str s, u])) _ _ _ ((g.up t1).up (.new t1.gh hp)) (t1.gg.trans (.new (t1.gh.back hp))) (.lst upd_same (.cons (.str s) (.cons (.idn (d1.up (.new (t1.gh.back hp)))) .nil))) (h _ u fun ds hd => by
    obtain ⟨p, h1, h2⟩ := f ds hd
    refine ⟨p, h1, ?_⟩
    cases q : β.H p with
    | none => rfl
    | some o => exact absurd h2 (g.hn (by rw [q]; exact (fun e => nomatch e))))⟩
variable (K) in
/-- a def that hands back data of which F holds -/
def spR (R : Hp → List D → (D → Prop) → Prop) : Sp := fun vs H Q _ => ∃ G ds F, Ex G H ∧ DatL K G vs ds ∧ R H ds F ∧ ∀ v d G' H', Stp G H G' H' → Dat K G' v d → F d → Q v H'
theorem EX.finR {G H : Hp} {Q : VK} {F : D → Prop} {t : TS} {σ : Sg} (g : Good K ⟨G, H, none⟩ σ env G H) (q : ∀ v d G' H', Stp G H G' H' → Dat K G' v d → F d → Q v H') (h : EX K ⟨G, H, none⟩ W t env { rt := fun _ d' _ => F d', nx := fun _ => F .non }) :
    t { nx := fun _ H' => Q .non H', rt := Q } σ H := by
  have st : ∀ {σ' env' G' H'}, Good K ⟨G, H, none⟩ σ' env' G' H' → Stp G H G' H' := fun g' => ⟨g'.gg, fun a o e => g'.hh a o (fun z => nomatch z) e, g'.gh, g'.ow⟩
  exact h σ G H g _ ⟨fun σ' env' G' H' g' e n => q _ _ G' H' (st g') .non n, fun σ' env' G' H' v d' g' e dv n => q v _ G' H' (st g') dv n, fun _ _ _ _ _ _ n => False.elim n, fun _ _ _ _ _ _ n => False.elim n⟩ fun _ _ _ _ _ _ _ _ _ _ _ _ n => False.elim n
theorem EX.finTryR {tb : WX → TS} {l : List (Value × Option Nat × (Addr → Value → Option Addr → TS))} {Wout : WX} {G H : Hp} {Q : VK} {F : D → Prop} {σ : Sg} (g : Good K ⟨G, H, none⟩ σ env G H) (q : ∀ v d G' H', Stp G H G' H' → Dat K G' v d → F d → Q v H')
    (h : EX K ⟨G, H, none⟩ Wout (fun D σ H => tb (wManyA K Wout D l) D σ H) env { rt := fun _ d' _ => F d', nx := fun _ => F .non }) :
    tb (wManyA K Wout { nx := fun _ H' => Q .non H', rt := Q } l) { nx := fun _ H' => Q .non H', rt := Q } σ H := EX.finR (t := fun D σ H => tb (wManyA K Wout D l) D σ H) g q h
/-- an expression that gives data of which F holds -/
def EVR (K : PySem.W.Frag) (β : Bas) (te : TE) (env : Env') (F : Hp → D → Prop) : Prop := ∀ σ G H, Good K β σ env G H → ∀ Q : VK, (∀ v d G' H', Stp G H G' H' → Dat K G' v d → F H d → Q v H') → te σ H Q
theorem er_call {R : Hp → List D → (D → Prop) → Prop} {ta : TA} {ds : List D} {E : XK} {F : Hp → D → Prop} (he : EVA K β ta env ds) (h : ∀ H, R H ds (F H)) (hF : ∀ H H' d, Ex H H' → F H' d → F H d) : EVR K β (tCall (spR K R) [] E ta) env F := fun σ G H g Q q =>
  he σ G H g _ fun vs G1 H1 t1 d1 => ⟨G1, ds, F H1, t1.gh, by rw [List.append_nil]; exact d1, h H1, fun v d G2 H2 t2 d2 f => q v d G2 H2 (t1.trans t2) d2 (hF _ _ _ t1.hh f)⟩
/-- x = e, then the rest -/
theorem ex_letR {i : Nat} {F : Hp → D → Prop} (he : EVR K β te env F) (h : ∀ H v d, F H d → EX K β W tr (env.set i (.val v d)) P) : EX K β W (tSeq (tAsg te (gName i)) tr) env P :=
  ex_seq (N := fun e => ∃ H v d, F H d ∧ e = env.set i (.val v d)) (fun σ G H g Dn c x => he σ G H g _ fun v d G1 H1 t1 d1 f => c.nx _ _ G1 H1 ((g.up t1).set i d1) t1.gg ⟨H, v, d, f, rfl⟩) fun env' ⟨H, v, d, f, e⟩ => e ▸ h H v d f
/-- told = e; if not ..: return; if isinstance(told[1], list): told[1].append(None) -/
theorem ex_askApp {i : Nat} {s : Str} {r : D} {rets : TS} {F : Hp → D → Prop} (he : EVR K β te env F) (hF : ∀ H d, F H d → ∃ u, d = .lst [.str s, .idn u r] ∧ Fr H u r)
    (h1 : ∀ v, EVT K β tt (env.set i (.val v (.lst [.str s, r]))) false)
    (h2 : ∀ v, ∃ b, EVT K β tu (env.set i (.val v (.lst [.str s, r]))) b ∧ (b = true → ∃ ds, r = .lst ds ∧ ds.length < sizeLine))
    (hi : i < env.length) (hn : P.nx (env.set i .un)) :
    EX K β W (tSeq (tAsg te (gName i)) (tSeq (tIfS tt rets tNext) (tIfS tu (tDrop (tBM K "list" rAppend (tOp (rIx K) (tVar i) (tC (.int 1))) (tCons (tC .non) tNil))) tNext))) env P := fun σ G H g Dn c x =>
  he σ G H g _ fun v d G1 H1 t1 d1 f => by
    obtain ⟨u, rfl, fu⟩ := hF _ _ f
    have d1' : Dat K G1 v (.lst [.str s, r]) := by
      cases d1 with
      | lst a b => cases b with | cons b1 b2 => cases b2 with | cons b2 b3 => exact .lst a (.cons b1 (.cons b2.strip b3))
    have g1 := (g.up t1).set i d1'
    refine h1 v _ G1 H1 g1 _ fun G2 H2 t2 => ?_
    rw [if_neg Bool.false_ne_true]
    obtain ⟨b, hb, hr⟩ := h2 v
    refine hb _ G2 H2 (g1.up t2) _ fun G3 H3 t3 => ?_
    have t13 := (t1.trans t2).trans t3
    cases b with
    | false =>
      rw [if_neg Bool.false_ne_true]
      refine c.nx _ _ G3 H3 ?_ t13.gg hn
      have := ((g1.up t2).up t3).forget i
      rw [List.set_set] at this
      exact this
    | true =>
      rw [if_pos rfl]
      obtain ⟨ds, rfl, hl⟩ := hr rfl
      obtain ⟨p, rfl, hp⟩ := fu ds rfl
      cases d1 with
      | @lst a xs _ ha hx =>
      cases hx with | cons b1 hx => cases hx with | cons b2 hx =>
      cases hx
      obtain ⟨hu, b2'⟩ := b2.idnV
      subst hu
      cases b2' with
      | @lst _ ys _ hq hy =>
      have hv : ((σ.set i (some (V.ref a))))[i]? = some (some (V.ref a)) := List.getElem?_set_self (by
        rw [sls_len g.sl]; exact hi)
      have hq3 : H3 p = some (.lst ys) := t3.hh _ _ (t2.hh _ _ (t1.gh _ _ hq))
      have ha3 : H3 a = some (.lst [_, V.ref p]) := t3.hh _ _ (t2.hh _ _ (t1.gh _ _ ha))
      refine ⟨.ref a, hv, .inl ⟨a, [_, .ref p], 1, .ref p, rfl, rfl, .of ha3, rfl, ?_⟩⟩
      refine ⟨.inl ⟨rfl, ys, .of hq3⟩, ?_⟩
      refine ⟨p, ys, .non, rfl, rfl, hq3, by rw [hy.length]; exact hl, ?_⟩
      refine c.nx _ _ G _ ((g.up (G' := G) (H' := upd H3 p (.lst (ys ++ [.non]))) ⟨.refl _, fun b o e => ?_, fun b o e => ?_, fun b h _ => h⟩).drop i (some (.ref a))) (.refl _) hn
      · rw [upd_ne (fun z => by subst z; rw [hp] at e; cases e)]
        exact t13.hh _ _ e
      · rw [upd_ne (fun z => by subst z; rw [g.gh _ _ e] at hp; cases hp)]
        exact t13.hh _ _ (g.gh _ _ e)
end
end DL

set_option Elab.async false
set_option linter.all false
set_option maxRecDepth 100000
set_option maxHeartbeats 2000000
namespace DL
open PySem PySem.Spec PyProof.Rows L2
def lstP (a : List Nat) : PyData := .list (a.map fun i => .int (i : Nat))
theorem ln_shaped (p : List Nat) : SeqAt.shaped (lstP p) = true := by
  unfold SeqAt.shaped
  have h1 : PyData.canLay0 (lstP p) = true := tn_canI p
  have h2 : PyData.depth (lstP p) ≤ 64 := by
    show PyData.depthAll (p.map fun i => PyData.int (i : Nat)) + 1 ≤ 64
    rw [tn_depI]; omega
  rw [h1, decide_eq_true h2]
  rfl
theorem ln_eqv (p q : List Nat) : PyData.eqv (lstP p) (lstP q) = decide (p = q) := eqv_ints p q
theorem pg_lstK (K : PySem.W.Frag) {X : Cx} {es : List Expr} {k : Nat} {t : TGs} {n : Nat} {pos : Pos} (hc : X.calm = true) (hp : PGs X es t)
    (hn : (assignEach es X.env).length = n := by rfl) (hst : (assignEach es X.env).findIdx? (·.1) = none := by rfl) (h : X.K = K := by rfl) : PG X (.Tuple es k pos) (gLst K n t) := h ▸ pg_lst hc hp hn hst
theorem keep_none {f : Nat → Bool} {F : Nat → D} : ∀ {n : Nat}, (∀ i, i < n → f i = false) → keep f F n = []
  | 0, _ => rfl
  | n + 1, h => by rw [keep_no (h n (by omega))]; exact keep_none fun i hi => h i (by omega)
theorem keep_one {f : Nat → Bool} {F : Nat → D} {j : Nat} : ∀ {n : Nat}, j < n → f j = true → (∀ i, i < n → f i = true → i = j) → keep f F n = [F j]
  | 0, h, _, _ => absurd h (by omega)
  | n + 1, h, hj, u => by
    by_cases c : j = n
    · subst c
      rw [keep_yes hj, keep_none fun i hi => by
        cases q : f i with
        | false => rfl
        | true => have := u i (by omega) q; omega]
      rfl
    · have hn : f n = false := by
        cases q : f n with
        | false => rfl
        | true => have := u n (by omega) q; omega
      rw [keep_no hn]
      exact keep_one (by omega) hj fun i hi => u i (by omega)
theorem keep_map {f : Nat → Bool} {F : Nat → D} {n : Nat} : keep f F n = ((List.range n).filter f).map F := rfl
theorem wipe_set2 (σ : Sg) (vs : List Nat) (j : Nat) (x : Option V) (hj : j ∈ vs) : L2.wipe (σ.set j x) vs = L2.wipe σ vs := by
  refine List.ext_getElem? fun i => ?_
  have key : ∀ (ws : List Nat) (τ : Sg) (i : Nat), i ∈ ws → i < τ.length → (L2.wipe τ ws)[i]? = some none := by
    intro ws
    induction ws with
    | nil => intro τ i h; cases h
    | cons w ws ih =>
      intro τ i h hl
      unfold L2.wipe
      by_cases e : w = i
      · subst e
        rw [List.getElem?_set_self (by rw [L2.wipe_length]; exact hl)]
      · rw [List.getElem?_set_ne e]
        exact ih τ i (by
          rcases List.mem_cons.mp h with z | z
          · exact absurd z.symm e
          · exact z) hl
  by_cases hi : i ∈ vs
  · by_cases hl : i < σ.length
    · rw [key vs _ i hi (by rw [List.length_set]; exact hl), key vs _ i hi hl]
    · rw [List.getElem?_eq_none (by rw [L2.wipe_length, List.length_set]; omega), List.getElem?_eq_none (by rw [L2.wipe_length]; omega)]
  · rw [L2.wipe_out hi, List.getElem?_set_ne (fun e => hi (by rw [← e]; exact hj)), L2.wipe_out hi]
section
variable {K : PySem.W.Frag} {β : Bas} {env : Env'} {ta tb te tc to : TE} {tt tu : TT} {x y z d : D} {v w : V} {P : Post} {W : WX} {ts tr : TS}
theorem Dat.ln {G H : Hp} (e : Ex G H) {a : List Nat} {v : V} (h : Dat K G v (.lst (lstN a))) : Dp K H v (lstP a) := by
  obtain ⟨p, xs, rfl, hs, hd⟩ := h.lstV
  exact .lst (.inl (.inl (e _ _ hs))) (DatL.dpInts hd)
theorem op_eqLL {a b : List Nat} : OpD K (rEqD K) (.lst (lstN a)) (.lst (lstN b)) (.bl (decide (a = b))) := fun G H v1 v2 e d1 d2 Q q => by
  refine ⟨_, _, Dat.ln e d1, Dat.ln e d2, ln_shaped a, ln_shaped b, ?_⟩
  rw [ln_eqv]
  exact q _ G H (.refl e) (.bl _)
theorem op_neLL {a b : List Nat} : OpD K (rNeD K) (.lst (lstN a)) (.lst (lstN b)) (.bl (!decide (a = b))) := fun G H v1 v2 e d1 d2 Q q => by
  refine ⟨_, _, Dat.ln e d1, Dat.ln e d2, ln_shaped a, ln_shaped b, ?_⟩
  rw [ln_eqv]
  exact q _ G H (.refl e) (.bl _)
theorem op_neTT {a b : List Nat} : OpD K (rNeD K) (tupN a) (tupN b) (.bl (!decide (a = b))) := fun G H v1 v2 e d1 d2 Q q => by
  refine ⟨_, _, Dat.tn e d1, Dat.tn e d2, tn_shaped1 a, tn_shaped1 b, ?_⟩
  rw [tn_eqv]
  exact q _ G H (.refl e) (.bl _)
theorem eg_lst {gs : TGs} {n : Nat} {ds : List D} {P : Env' → Prop} (hn : ds.length = n) (h : ∀ vs σ G H, Good K β σ env G H → DatL K G vs ds → ∀ Q : Sg → Hp → Prop, (∀ σ' env', Good K β σ' env' G H → P env' → Q σ' H) → gs vs σ H Q) : EG K β (gLst K n gs) env v (.lst ds) P := fun σ G H g dv Q q => by
  obtain ⟨a, xs, rfl, ht, hd⟩ := dv.lstV
  exact ⟨a, xs, rfl, .inl (.inl (g.gh _ _ ht)), by rw [hd.length, hn], h xs σ G H g hd Q q⟩
theorem eg_twoL {i j : Nat} {a b : D} : EG K β (gLst K 2 (gCons (gName i) (gCons (gName j) gNil))) env v (.lst [a, b]) (fun e => ∃ v1 v2, e = (env.set i (.val v1 a)).set j (.val v2 b)) :=
  eg_lst rfl fun vs σ G H g dl Q q => by
    cases dl with | cons d1 t => cases t with | cons d2 t =>
    cases t
    exact ⟨_, _, rfl, _, _, rfl, rfl, q _ _ ((g.set i d1).set j d2) ⟨_, _, rfl⟩⟩
/-- x += e -/
theorem ex_aug {i : Nat} {f : Int → Int → Int} {a b : Int} (hi : env[i]? = some (.val v (.int a))) (he : EV K β te env (.int b)) (h : ∀ u, P.nx (env.set i (.val u (.int (f a b))))) : EX K β W (tAug i te (ipI f)) env P := fun σ G H g Dn c x => by
  obtain ⟨o, h1, h2, h3⟩ := g.sl.get hi
  refine ⟨v, slot_val g hi, he σ G H g _ fun y G1 H1 t1 d1 => ⟨a, b, h3.intV, d1.intV, c.nx _ _ G1 H1 ((g.up t1).set i (.int _)) t1.gg (h _)⟩⟩
/-- [e for i, j in xs] -/
theorem ev_lc2 {wi : TI} {i j : Nat} {vs : List Nat} {ds : List D} {F : Nat → D} (hI : EVI K β wi env ds) (hn : ds.length < sizeLine) (hi : i ∈ vs) (hj : j ∈ vs)
    (hs : ∀ k d, ds[k]? = some d → ∃ a b, d = .tup [a, b] ∧ ∀ v1 v2, EV K β te (((wipeE env vs).set i (.val v1 a)).set j (.val v2 b)) (F k)) :
    EV K β (tLc wi (gTup K 2 (gCons (gName i) (gCons (gName j) gNil))) tYes te vs) env (.lst ((List.range ds.length).map F)) := by
  rw [← keep_all]
  refine ev_lc hI hn (fun k v d hd => ?_) ?_
  · obtain ⟨a, b, rfl, h⟩ := hs k d hd
    refine ⟨_, eg_two, fun _ _ _ _ _ _ => trivial, fun env' ⟨v1, v2, e⟩ => ?_⟩
    subst e
    exact ⟨et_yes, fun _ => h v1 v2⟩
  · rintro x σ H Q ⟨a, xs, h1, h2, h3, v1, r1, h4, v2, r2, h5, h6, q⟩
    refine ⟨a, xs, h1, h2, h3, v1, r1, h4, v2, r2, h5, h6, ?_, q⟩
    rw [wipe_set2 _ vs j _ hj, wipe_set σ vs i _ hi]
theorem eg_two' {v : V} {i j n : Nat} {a b : D} (hn : 2 = n := by rfl) : EG K β (gTup K n (gCons (gName i) (gCons (gName j) gNil))) env v (.tup [a, b]) (fun e => ∃ v1 v2, e = (env.set i (.val v1 a)).set j (.val v2 b)) := by
  subst hn
  exact eg_two
theorem xa_one {te : TE} {P1 : V → D → Env' → Prop} (h : XE K β te env P1) : XA K β (tCons te tNil) env (fun _ ds e => ∃ v d, ds = [d] ∧ P1 v d e) := fun σ G H g Q q =>
  h σ G H g _ fun v d e G1 H1 g1 t1 e1 dv p => q [v] [d] e G1 H1 g1 t1 e1 (.cons dv .nil) ⟨v, d, rfl, p⟩
theorem xa_two2 {te t2 : TE} {P1 : V → D → Env' → Prop} {PP : List D → Env' → Prop} (h : XE K β te env P1) (h2 : ∀ v d e, P1 v d e → XE K β t2 e (fun _ d2 e2 => PP [d, d2] e2)) : XA K β (tCons te (tCons t2 tNil)) env (fun _ ds e => PP ds e) := fun σ G H g Q q =>
  h σ G H g _ fun v d e G1 H1 g1 t1 e1 dv p => h2 v d e p σ G1 H1 g1 _ fun v2 d2 e2 G2 H2 g2 t2 o2 dv2 p2 => q [v, v2] [d, d2] e2 G2 H2 g2 (StpE.tr g1 e1 t1 t2) (o2.trans e1) (.cons (dv.up t2.gg) (.cons dv2 .nil)) p2
/-- x = list(range(n)), one's own -/
theorem ex_newRg {i : Nat} {n : Int} (he : EV K β te env (.int n)) (h1 : n ≤ 16777216) (h0 : 0 ≤ n) (h : ∀ a, P.nx (env.set i (.own a (rgD 0 n.toNat)))) : EX K β W (tAsg (tLstRg (tRg1 te)) (gName i)) env P := fun σ G H g Dn c x =>
  he σ G H g _ fun v1 G1 H1 t1 d1 => ⟨n, d1.intV, .of_le (by omega) h1 (by omega) h0, fun p hp => by
    have e : rgV 0 n = ((List.range n.toNat).map fun i => V.int (0 + (i : Nat))) := by unfold rgV; rw [Int.sub_zero]
    rw [e]
    exact c.nx _ _ G1 _ ((g.up t1).newOwn i hp (DatL.rg 0 _)) t1.gg (h p)⟩
theorem ex_newRgS {i : Nat} {n : Int} (he : EV K β te env (.int n)) (h1 : n ≤ 16777216) (h0 : 0 ≤ n) (h : ∀ a, EX K β W tr (env.set i (.own a (rgD 0 n.toNat))) P) : EX K β W (tSeq (tAsg (tLstRg (tRg1 te)) (gName i)) tr) env P :=
  ex_seq (N := fun e => ∃ a, e = env.set i (.own a (rgD 0 n.toNat))) (ex_newRg he h1 h0 fun a => ⟨a, rfl⟩) fun e ⟨a, h'⟩ => h' ▸ h a
end
end DL

set_option Elab.async false
set_option linter.all false
set_option maxRecDepth 100000
set_option maxHeartbeats 2000000
namespace DL
open PySem PySem.Spec PyProof.Rows L2
/-! ### an error of an own class, made as a value -/
/-- C(e, ..) as a value, C's own __init__ keeping sp -/
def tExcV (sp : Sp) (C : Addr) (ta : TA) : TE := fun σ H Q => ta σ H fun vs H1 => vs.length ≤ 1000 ∧ ∀ a, H1 a = none → sp (.ref a :: vs) (upd H1 a (exo a C none)) (fun v H2 => v = .non ∧ Q (.ref a) H2) (fun _ _ _ => False)
section
variable {X : Cx} {e : Expr} {es : List Expr} {ta : TA} {p pos : Pos}
theorem pe_excV {CX : CXT} {x : Str} {C fI : Addr} {k : Nat} {fd : FuncData} {ps : List Str} {sp : Sp} (T : OexC X.K C) (iC : PySem.W.findIn X.K (.ref C) "__init__" = some (some (.ref fI))) (tI : PySem.W.typeIn X.K (.ref fI) = some (.type "function"))
    (F1 : FnOk X.prog X.w X.K X.mg X.base CX k fI fd ps sp) (hr : Room (k + 1) X.A) (hb : Binds X.K fd ps []) (hx : Passes CX X (fun _ _ _ => False)) (hg : Gl X x) (hm : X.mg x = some (.ref C)) (ha : PA X (e :: es) ta)
    (hdb : (x == ("__debug__" : Str)) = false := by decide) (he : starEach (e :: es) X.env = (false, eval e X.env) :: starEach es X.env := by rfl) (hpl : (backTo pos (starEach es X.env)).any (·.1) = false := by rfl) :
    PE X (.Call (.Name x p) (e :: es) [] pos) (tExcV sp C ta) := by
  refine ⟨fun pins s σ H Q I h => ?_⟩
  obtain ⟨nm, q, N, bs, bm, sn, sub, ab, col, dd, k0, k1, k2, k3, k5, hC, hbm⟩ := T.cls
  refine wpAny_Call_Name_kw (ld_glob I hg hm ?_ hdb)
  refine PySem.W.callWith_K (h₀ := X.base) I.ok.mod.kin T.kC (thn (ha.run pos pins s σ H _ I h) fun us s1 ⟨vs, H1, I1, r1, hz, q1⟩ => ⟨I1.kIn, ?_⟩) he hpl
  show wpAny _ _ (call (.ref C) us) _ _ _
  obtain ⟨hp, g, dr, tk, os⟩ := s1
  have hsz : hp.objs.size ≤ hp.objs.size + 1 := Nat.le_succ _
  have hn : H1 (hp.objs.size + 1) = none := I1.hok.fresh hsz
  have hq := q1 (hp.objs.size + 1) hn
  have kk : ∀ b o, hp.get? b = some o → ((hp.push (PySem.W.kdv_tup us)).push (PySem.HandSPX.excO C hp.objs.size)).get? b = some o := fun b o e => Heap.get?_push_of_some _ (Heap.get?_push_of_some _ e)
  have hget : ((hp.push (PySem.W.kdv_tup us)).push (PySem.HandSPX.excO C hp.objs.size)).get? (hp.objs.size + 1) = some (PySem.HandSPX.excO C hp.objs.size) := by heap_get
  have I2 : L2.Inv X pins σ (upd H1 (hp.objs.size + 1) (exo (hp.objs.size + 1) C none)) ⟨(hp.push (PySem.W.kdv_tup us)).push (PySem.HandSPX.excO C hp.objs.size), g, dr, tk, os⟩ :=
    I1.laid (t' := tk) (a := hp.objs.size + 1) (o := exo (hp.objs.size + 1) C none) (h' := (hp.push (PySem.W.kdv_tup us)).push (PySem.HandSPX.excO C hp.objs.size)) kk hsz (exo_ok hget)
  have r2 : Vals (V.ref (hp.objs.size + 1) :: vs) (Value.ref (hp.objs.size + 1) :: us) := .cons rfl r1
  have hl : (Value.ref (hp.objs.size + 1) :: us).length = ps.length := by
    have e := r2.length
    rw [F1.len _ _ _ _ hq] at e
    exact e.symm
  have hus : us.length ≤ sizeLine := by
    rw [← Paired.length r1, sizeLine_eq]
    omega
  have b2 := hb _ (Value.ref (hp.objs.size + 1) :: us) I2.kIn (by rw [List.append_nil]; exact hl)
  rw [List.append_nil] at b2
  refine wpAny_call (PySem.HandSPX.call_own F.excBase_ValueError (fun Y => PySem.HandSPX.refsVE_contains Y bm hbm) (I1.kIn _ _ hC) (PySem.W.looks_findIn I1.kIn iC) (fun self => PySem.W.bind_fn I1.kIn self tI) hus
    (codeAny_mono (F1.run _ X.stack _ _ ⟨Value.ref (hp.objs.size + 1) :: us, []⟩ (Value.ref (hp.objs.size + 1) :: us) _ _ (fun _ _ _ => False) (hr.make C us []) (I2.env0.make C us []) b2 r2 hq) fun r s' hq' => ?_))
  cases r with
  | error er => exact hx pins σ _ _ er s' I2 hq'
  | ok fl =>
    cases fl with
    | ret u =>
      obtain ⟨v, H2, os2, bare2, un2, hok2, rv, ev, q2⟩ := hq'
      subst ev
      obtain ⟨w, H3, I3, _, e3, q3⟩ := I2.after (Q := fun v H2 => v = .non ∧ Q (.ref (hp.objs.size + 1)) H2) (u := u) ⟨.non, H2, os2, bare2, un2, hok2, rv, rfl, q2⟩
      exact ⟨rv, .ref (hp.objs.size + 1), H3, I3, rfl, q3⟩
    | next => exact False.elim hq'
    | brk => exact False.elim hq'
    | cont => exact False.elim hq'
end
/-- isinstance(e, T), e an error as a value, or any other -/
def rIsO (K : PySem.W.Frag) : List V → Hp → VK → Prop := fun xs H Q => rIsi K xs H Q ∨ ∃ (a C dx : Addr) (fs : List (Str × V)) (T : String) (b : Bool) (mg : Str → Option Value) (x f : Str) (fI : Addr), xs = [.ref a, .ty T] ∧ H a = some (exo a C (some dx)) ∧ H dx = some (exd dx fs) ∧ ErrC K mg x f C fI ∧ PySem.W.kitOne K (.ref C) (.type T) = some b ∧ Q (.bl b) H
theorem call_isOK {X : Cx} (K : PySem.W.Frag) (h : X.K = K := by rfl) : CallR X (.builtin "isinstance") (rIsO K) := by
  subst h
  intro pins s σ H xs us Q I r h
  rcases h with h | ⟨a, C, dx, fs, T, b, mg, x, f, fI, rfl, ha, hd, E, hk, q⟩
  · exact call_isi pins s σ H xs us Q I r h
  · obtain ⟨u1, u2, rfl, r1, r2⟩ := vals2 r
    obtain rfl : u1 = .ref a := r1
    obtain rfl : u2 = .type T := r2
    obtain ⟨t1, ho⟩ := exo_at I.hok ha
    obtain ⟨mA, ⟨od, es, ep, hod, hr⟩, _⟩ := exd_at I.hok hd
    have J : PySem.W.InstAt s.heap a _ C (some od) := ⟨ho, rfl, rfl, hod⟩
    have hcl : (PySem.W.clsIn X.K C).isSome = true := E.ic
    exact PySem.W.kia_one (PySem.W.kitx_exc (od := some od) hcl E.xf.ga E.xf.gg E.xf.exC E.ha E.hn E.ht E.hm) I.kIn J hk (fun z => nomatch z) fun tk => ⟨.bl b, H, I.tok tk, rfl, q⟩
section
variable {K : PySem.W.Frag} {β : Bas} {env : Env'} {ta tb te tc to : TE} {tt tu : TT} {x y z d : D} {v w : V} {P : Post} {W : WX} {ts tr : TS}
theorem cb_isO {t T : String} {b : Bool} (e : tyD d = some t) (h : kitB t T = some b) : CbD K (rIsO K) [d, .op (.ty T)] (.bl b) := fun G H vs x dl Q q => .inl (cb_isi e h G H vs x dl Q q)
theorem cb_isX {C fI : Addr} {mg : Str → Option Value} {x f : Str} {T : String} {b : Bool} (E : ErrC K mg x f C fI) (h : PySem.W.kitOne K (.ref C) (.type T) = some b) : CbD K (rIsO K) [.exc C, .op (.ty T)] (.bl b) := fun G H vs e dl Q q => by
  cases dl with | cons a t => cases t with | cons c t =>
  cases t
  cases c
  cases a with
  | exc h1 h2 => exact .inr ⟨_, _, _, _, _, b, mg, x, f, fI, rfl, e _ _ h1, e _ _ h2, E, h, q _ G H (.refl e) (.bl b)⟩
theorem ev_exc {C : Addr} {f : Str} {ta : TA} (he : EVA K β ta env [d]) (T : OexC K C) (nf : PySem.W.findIn K (.ref C) f = some none) : EV K β (tExcV (spErr K f) C ta) env (.exc C) := fun σ G H g Q q =>
  he σ G H g _ fun vs G1 H1 t1 d1 => by
    cases d1 with
    | @cons v _ _ _ dv t =>
    cases t
    refine ⟨by show 1 ≤ 1000; decide, fun a ha => ⟨a, C, v, rfl, T, nf, upd_same, fun dx h1 h2 => ⟨rfl, ?_⟩⟩⟩
    rw [upd_ne h2] at h1
    have gd : G1 dx = none := t1.gh.back h1
    have ga : G1 a = none := t1.gh.back ha
    have eq : (upd (upd (upd H1 a (exo a C none)) dx (exd dx [(f, v)])) a (exo a C (some dx))) = upd (upd H1 dx (exd dx [(f, v)])) a (exo a C (some dx)) := by
      funext b
      by_cases hb : b = a
      · subst hb; rw [upd_same, upd_same]
      · rw [upd_ne hb, upd_ne hb]
        by_cases hd : b = dx
        · subst hd; rw [upd_same, upd_same]
        · rw [upd_ne hd, upd_ne hd, upd_ne hb]
    rw [eq]
    have s1 : Stp G1 H1 (upd G1 dx (exd dx [(f, v)])) (upd H1 dx (exd dx [(f, v)])) := .new t1.gh h1
    have s2 : Stp (upd G1 dx (exd dx [(f, v)])) (upd H1 dx (exd dx [(f, v)])) (upd (upd G1 dx (exd dx [(f, v)])) a (exo a C (some dx))) (upd (upd H1 dx (exd dx [(f, v)])) a (exo a C (some dx))) := .new s1.gh (by rw [upd_ne (fun z => h2 z.symm)]; exact ha)
    exact q _ _ _ ((t1.trans s1).trans s2) (.exc upd_same (by rw [upd_ne h2, upd_same]))
end
end DL

set_option Elab.async false
set_option linter.all false
set_option maxRecDepth 100000
set_option maxHeartbeats 2000000
namespace DL
open PySem PySem.Spec PyProof.Rows L2
theorem un_negI {K : PySem.W.Frag} {i : Int} : UnD K (rU fun i => .int (-i)) (.int i) (.int (-i)) := fun G H v1 e d1 Q q => by
  cases d1
  exact ⟨i, rfl, q _ G H (.refl e) (.int _)⟩
theorem ex_let2G {K : PySem.W.Frag} {β : Bas} {W : WX} {te : TE} {env : Env'} {P : Post} {tr : TS} {i j : Nat} {d1 d2 : D} (he : EV K β te env (.tup [d1, d2])) (k : ∀ v1 v2, EX K β W tr ((env.set i (.val v1 d1)).set j (.val v2 d2)) P) : EX K β W (tSeq (tAsg te (gTup K 2 (gCons (gName i) (gCons (gName j) gNil)))) tr) env P :=
  ex_seq (N := fun e => ∃ v1 v2, e = (env.set i (.val v1 d1)).set j (.val v2 d2)) (ex_asgG he (fun v => eg_two) fun e ⟨v1, v2, h⟩ => ⟨v1, v2, h⟩) fun e ⟨v1, v2, h⟩ => h ▸ k v1 v2
theorem atI_lastN {ms : List Nat} {k y : Nat} (hl : ms.length = k + 1) (h : ms[k]? = some y) : atI (lstN ms) (-1) = some (.int (y : Nat)) := by
  have h1 := lstN_get h
  have h2 : (lstN ms).length = k + 1 := by rw [lstN_len, hl]
  unfold atI ixN
  rw [h2, if_neg (by decide), if_pos (by omega)]
  show (lstN ms)[((-1 : Int) + ((k + 1 : Nat) : Int)).toNat]? = _
  rw [show ((-1 : Int) + ((k + 1 : Nat) : Int)).toNat = k by omega]
  exact h1
section
variable {K : PySem.W.Frag} {β : Bas} {env : Env'} {ta tb te tc to : TE} {tt tu : TT} {x y z d : D} {v w : V} {P : Post} {W : WX} {ts tr : TS} {f' : Str} {cls : Value}
/-! ### a def that may raise, and whose answer, if a list, is new -/
variable (K) in
def spXF (R : List D → D → Prop) (E' : List V → List D → Value → Str → V → Prop) : Sp := fun vs H Q E => ∃ G ds, Ex G H ∧ DatL K G vs ds ∧
  ((∃ d, R ds d ∧ ∀ v G' H', Stp G H G' H' → Dat K G' v d → Fr H v d → Q v H') ∨ (∃ cls f v, E' vs ds cls f v ∧ ∀ G' H' dx, Stp G H G' H' → H' dx = some (.xd [(f, v)]) → G' dx = none → E cls (some dx) H'))
theorem ef_callF {R : List D → D → Prop} {E' : List V → List D → Value → Str → V → Prop} {ta : TA} {ds : List D} {E : Sg → XK} (he : EVA K β ta env ds) (h : R ds d) : EVf K β (tCallS (spXF K R E') E ta) env d := fun σ G H g Q q =>
  he σ G H g _ fun vs G1 H1 t1 d1 => ⟨G1, ds, t1.gh, d1, .inl ⟨d, h, fun v G2 H2 t2 d2 f => q v G2 H2 (t1.trans t2) d2 (f.back t1.hh)⟩⟩
theorem rs_callF {R : List D → D → Prop} {E' : List V → List D → Value → Str → V → Prop} {ta : TA} {ds : List D} {vs : List V} (he : EVAv K β ta env vs ds) (h : E' vs ds cls f' v) : Raises' K β W (tCallS (spXF K R E') (WE W) ta) env cls f' v := fun σ G H g Q q =>
  he σ G H g _ fun G1 H1 t1 d1 => ⟨G1, ds, t1.gh, d1, .inr ⟨cls, f', v, h, fun G2 H2 dx t2 => q G2 H2 dx (t1.trans t2)⟩⟩
theorem EX.finXF {G H : Hp} {Q : VK} {E : XK} {t : TS} {σ : Sg} (g : Good K ⟨G, H, none⟩ σ env G H)
    (q : (∃ d, (∀ v G' H', Stp G H G' H' → Dat K G' v d → Fr H v d → Q v H') ∧ EX K ⟨G, H, none⟩ (fun cls d _ H => E cls d H) t env { rt := fun v d' _ => d' = d ∧ Fr H v d, nx := fun _ => d = .non }) ∨
      (∃ cls f v, (∀ G' H' dx, Stp G H G' H' → H' dx = some (.xd [(f, v)]) → G' dx = none → E cls (some dx) H') ∧ EX K ⟨G, H, none⟩ (fun cls d _ H => E cls d H) t env { ex := fun c f' v' _ => c = cls ∧ f' = f ∧ v' = v })) :
    t { nx := fun _ H' => Q .non H', rt := Q } σ H := by
  have st : ∀ {σ' env' G' H'}, Good K ⟨G, H, none⟩ σ' env' G' H' → Stp G H G' H' := fun g' => ⟨g'.gg, fun a o e => g'.hh a o (fun z => nomatch z) e, g'.gh, g'.ow⟩
  rcases q with ⟨d, q, h⟩ | ⟨cls, f, v, q, h⟩
  · exact h σ G H g _ ⟨fun σ' env' G' H' g' e n => q _ G' H' (st g') (n ▸ .non) (fun ds e => by rw [n] at e; cases e), fun σ' env' G' H' v d' g' e dv n => q v G' H' (st g') (n.1 ▸ dv) n.2, fun _ _ _ _ _ _ n => False.elim n, fun _ _ _ _ _ _ n => False.elim n⟩ fun _ _ _ _ _ _ _ _ _ _ _ _ n => False.elim n
  · refine h σ G H g _ ⟨fun _ _ _ _ _ _ n => False.elim n, fun _ _ _ _ _ _ _ _ _ n => False.elim n, fun _ _ _ _ _ _ n => False.elim n, fun _ _ _ _ _ _ n => False.elim n⟩ fun σ' env' G' H' c f' v' dx g' e e1 e2 n => ?_
    obtain ⟨rfl, rfl, rfl⟩ := n
    exact q G' H' dx (st g') e1 e2
/-- return e, e's value new if a list -/
theorem ex_retFr (he : EVf K β te env d) (h : ∀ v, Fr β.H v d → P.rt v d env) : EX K β W (tRet te) env P := fun σ G H g Dn c x =>
  he σ G H g _ fun u G1 H1 t1 d1 f => c.rt _ _ G1 H1 u d (g.up t1) t1.gg d1 (h u fun ds hd => by
    obtain ⟨p, h1, h2⟩ := f ds hd
    refine ⟨p, h1, ?_⟩
    cases q : β.H p with
    | none => rfl
    | some o => exact absurd h2 (g.hn (by rw [q]; exact (fun e => nomatch e))))
theorem ef_is {e : D} (h : EVf K β te env d) (q : d = e) : EVf K β te env e := q ▸ h
theorem ef_op {r : R2} (h : EV K β (tOp r ta tb) env d) (hd : ∀ ds, d ≠ .lst ds) : EVf K β (tOp r ta tb) env d := h.evf hd
/-- data by data, called with no list -/
theorem spD_new {R : List D → D → Prop} {G H : Hp} {vs : List V} {ds : List D} {Q : VK} {E : XK} (e : Ex G H) (dl : DatL K G vs ds) (hp : plainDs ds = true) (h : R ds d) (q : ∀ v G' H', Stp G H G' H' → Dat K G' v d → Fr H v d → Q v H') : spD K R vs H Q E :=
  ⟨noL G, ds, d, (noL_ex.trans e), DatL.noL ds vs hp dl, h, fun v G' H' t dv => q v (joinH G G') H' (noL_join e t) (dv.up join_r) (noL_fr t dv)⟩
theorem ef_call {R : List D → D → Prop} {ta : TA} {ds : List D} {E : XK} (he : EVA K β ta env ds) (hp : plainDs ds = true) (h : R ds d) : EVf K β (tCall (spD K R) [] E ta) env d := fun σ G H g Q q =>
  he σ G H g _ fun vs G1 H1 t1 d1 => spD_new t1.gh (by rw [List.append_nil]; exact d1) hp h fun v G2 H2 t2 d2 f => q v G2 H2 (t1.trans t2) d2 (f.back t1.hh)
theorem ef_callKD {R : List D → D → Prop} {ta : TA} {ds ds' : List D} {gV : List V → List V → List V} {E : Sg → XK} (he : EVA K β ta env ds) (hg : ∀ G vs, DatL K G vs ds → DatL K G (gV [] vs) ds') (hp : plainDs ds' = true) (h : R ds' d) :
    EVf K β (tCallK0 (spD K R) gV E ta) env d := fun σ G H g Q q =>
  he σ G H g _ fun vs G1 H1 t1 d1 => spD_new t1.gh (hg _ _ d1) hp h fun v G2 H2 t2 d2 f => q v G2 H2 (t1.trans t2) d2 (f.back t1.hh)
/-! ### slices -/
/-- t[:k] -/
theorem ev_slTo {ds : List D} {k : Nat} (h : EV K β te env (.tup ds)) (hk : EV K β tb env (.int (k : Nat))) : EV K β (tSl (rSlA K) te tNoPart (tPart tb)) env (.tup (ds.take k)) := fun σ G H g Q q =>
  h σ G H g _ fun v1 G1 H1 t1 d1 => by
    obtain ⟨a, xs, rfl, ht, hd⟩ := d1.tupV
    refine hk σ G1 H1 (g.up t1) _ fun v2 G2 H2 t2 d2 => ?_
    have e : (ds.drop (HT.sIx ds.length 0 none)).take (HT.sIx ds.length ds.length (some (k : Int)) - HT.sIx ds.length 0 none) = ds.take k := by
      rw [HT.sIx_none, HT.sIx_nat, List.drop_zero, Nat.sub_zero]
      rcases Nat.le_total k ds.length with hl | hl
      · rw [Nat.min_eq_left hl]
      · rw [Nat.min_eq_right hl, List.take_of_length_le (Nat.le_refl _), List.take_of_length_le hl]
    have hc := (hd.up t2.gg).cut none (some (k : Int))
    rw [e] at hc
    refine ⟨k, d2.intV, a, xs, rfl, ex_t (t1.gh.trans t2.hh) ht, fun hw => ?_, fun _ p hp => ?_⟩
    · have : ds.take k = ds := by
        have := hw.2
        rw [HT.sIx_nat, hd.length] at this
        exact List.take_of_length_le (by omega)
      rw [this] at q
      exact q _ G2 H2 (t1.trans t2) (.tup (ex_t t2.gg ht) (hd.up t2.gg))
    · exact q _ (upd G2 p _) _ ((t1.trans t2).trans (.new t2.gh hp)) (.tup (.of upd_same) (hc.up (.new (t2.gh.back hp))))
/-- t[k:] -/
theorem ev_slFr {ds : List D} {k : Nat} (h : EV K β te env (.tup ds)) (hk : EV K β tb env (.int (k : Nat))) : EV K β (tSl (rSlA K) te (tPart tb) tNoPart) env (.tup (ds.drop k)) := fun σ G H g Q q =>
  h σ G H g _ fun v1 G1 H1 t1 d1 => by
    obtain ⟨a, xs, rfl, ht, hd⟩ := d1.tupV
    refine hk σ G1 H1 (g.up t1) _ fun v2 G2 H2 t2 d2 => ?_
    have e : (ds.drop (HT.sIx ds.length 0 (some (k : Int)))).take (HT.sIx ds.length ds.length none - HT.sIx ds.length 0 (some (k : Int))) = ds.drop k := by
      rw [HT.sIx_none, HT.sIx_nat]
      rcases Nat.le_total k ds.length with hl | hl
      · rw [Nat.min_eq_left hl, List.take_of_length_le (by rw [List.length_drop]; exact Nat.le_refl _)]
      · rw [Nat.min_eq_right hl, Nat.sub_self, List.take_zero, List.drop_of_length_le hl]
    have hc := (hd.up t2.gg).cut (some (k : Int)) none
    rw [e] at hc
    refine ⟨k, d2.intV, a, xs, rfl, ex_t (t1.gh.trans t2.hh) ht, fun hw => ?_, fun _ p hp => ?_⟩
    · have : ds.drop k = ds := by
        have := hw.1
        rw [HT.sIx_nat, hd.length] at this
        rcases Nat.eq_zero_or_pos k with z | z
        · rw [z]; rfl
        · have : ds = [] := List.eq_nil_of_length_eq_zero (by omega)
          rw [this]; exact List.drop_nil
      rw [this] at q
      exact q _ G2 H2 (t1.trans t2) (.tup (ex_t t2.gg ht) (hd.up t2.gg))
    · exact q _ (upd G2 p _) _ ((t1.trans t2).trans (.new t2.gh hp)) (.tup (.of upd_same) (hc.up (.new (t2.gh.back hp))))
end
/-! ### data as plain Python data -/
mutual
def toP : D → PyData
  | .non => .none
  | .bl b => .bool b
  | .int i => .int i
  | .str x => .str x
  | .tup ds => .tuple (toPs ds)
  | .lst ds => .list (toPs ds)
  | .idn _ d => toP d
  | .dct _ => .none
  | .op _ => .none
  | .rng _ _ => .none
  | .exc _ => .none
  | .set _ _ _ => .none
def toPs : List D → List PyData
  | [] => []
  | d :: ds => toP d :: toPs ds
end
mutual
/-- data that reads as plain data, at most n deep -/
def pdB (n : Nat) : D → Bool
  | .non => true
  | .bl _ => true
  | .int _ => true
  | .str x => PyData.canLay0 (.str x)
  | .tup ds => decide (1 ≤ n) && pdBs (n - 1) ds
  | .lst ds => decide (1 ≤ n) && pdBs (n - 1) ds
  | .idn _ d => pdB n d
  | .dct _ => false
  | .op _ => false
  | .rng _ _ => false
  | .exc _ => false
  | .set _ _ _ => false
def pdBs (n : Nat) : List D → Bool
  | [] => true
  | d :: ds => pdB n d && pdBs n ds
end
theorem pdBs_of {n : Nat} : ∀ {ds : List D}, (∀ d ∈ ds, pdB n d = true) → pdBs n ds = true
  | [], _ => rfl
  | d :: ds, h => by
    show (pdB n d && pdBs n ds) = true
    rw [h d List.mem_cons_self, pdBs_of fun x hx => h x (List.mem_cons_of_mem _ hx)]
    rfl
theorem pdBs_mem {n : Nat} : ∀ {ds : List D}, pdBs n ds = true → ∀ d ∈ ds, pdB n d = true
  | d :: ds, h, x, hx => by
    have h' : (pdB n d && pdBs n ds) = true := h
    obtain ⟨h1, h2⟩ := Bool.and_eq_true_iff.mp h'
    rcases List.mem_cons.mp hx with rfl | hx
    · exact h1
    · exact pdBs_mem h2 x hx
mutual
theorem pd_facts : ∀ (d : D) (n : Nat), pdB n d = true → PyData.canLay0 (toP d) = true ∧ PyData.depth (toP d) ≤ n
  | .non, _, _ => ⟨rfl, Nat.zero_le _⟩
  | .bl _, _, _ => ⟨rfl, Nat.zero_le _⟩
  | .int _, _, _ => ⟨rfl, Nat.zero_le _⟩
  | .str _, _, h => ⟨h, Nat.zero_le _⟩
  | .tup ds, n, h => by
    have h' : (decide (1 ≤ n) && pdBs (n - 1) ds) = true := h
    obtain ⟨h1, h2⟩ := Bool.and_eq_true_iff.mp h'
    obtain ⟨h3, h4⟩ := pd_factsL ds (n - 1) h2
    refine ⟨h3, ?_⟩
    show PyData.depthAll (toPs ds) + 1 ≤ n
    have := of_decide_eq_true h1
    omega
  | .lst ds, n, h => by
    have h' : (decide (1 ≤ n) && pdBs (n - 1) ds) = true := h
    obtain ⟨h1, h2⟩ := Bool.and_eq_true_iff.mp h'
    obtain ⟨h3, h4⟩ := pd_factsL ds (n - 1) h2
    refine ⟨h3, ?_⟩
    show PyData.depthAll (toPs ds) + 1 ≤ n
    have := of_decide_eq_true h1
    omega
  | .idn _ d, n, h => pd_facts d n h
  | .dct _, _, h => by cases h
  | .op _, _, h => by cases h
  | .rng _ _, _, h => by cases h
  | .exc _, _, h => by cases h
  | .set _ _ _, _, h => by cases h
theorem pd_factsL : ∀ (ds : List D) (n : Nat), pdBs n ds = true → PyData.canLayAll0 (toPs ds) = true ∧ PyData.depthAll (toPs ds) ≤ n
  | [], _, _ => ⟨rfl, Nat.zero_le _⟩
  | d :: ds, n, h => by
    have h' : (pdB n d && pdBs n ds) = true := h
    obtain ⟨h1, h2⟩ := Bool.and_eq_true_iff.mp h'
    obtain ⟨h3, h4⟩ := pd_facts d n h1
    obtain ⟨h5, h6⟩ := pd_factsL ds n h2
    refine ⟨?_, ?_⟩
    · show (PyData.canLay0 (toP d) && PyData.canLayAll0 (toPs ds)) = true
      rw [h3, h5]; rfl
    · show max (PyData.depth (toP d)) (PyData.depthAll (toPs ds)) ≤ n
      omega
end
mutual
theorem Dat.dp {K : PySem.W.Frag} {G H : Hp} (e : Ex G H) : ∀ (d : D) (n : Nat) (v : V), pdB n d = true → Dat K G v d → Dp K H v (toP d)
  | .non, _, _, _, h => by cases h; exact .non
  | .bl b, _, _, _, h => by cases h; exact .bl b
  | .int i, _, _, _, h => by cases h; exact .int i
  | .str x, _, _, _, h => by cases h; exact .str x
  | .tup ds, n, _, p, h => by
    have p' : (decide (1 ≤ n) && pdBs (n - 1) ds) = true := p
    cases h with | tup a b => exact .tup (ex_t e a) (DatL.dp e ds (n - 1) _ (Bool.and_eq_true_iff.mp p').2 b)
  | .lst ds, n, _, p, h => by
    have p' : (decide (1 ≤ n) && pdBs (n - 1) ds) = true := p
    cases h with | lst a b => exact .lst (.inl (.inl (e _ _ a))) (DatL.dp e ds (n - 1) _ (Bool.and_eq_true_iff.mp p').2 b)
  | .idn v d, n, _, p, h => by cases h with | idn a => exact Dat.dp e d n _ p a
  | .dct ds, _, _, p, h => by cases p
  | .op v, _, _, p, h => by cases p
  | .rng _ _, _, _, p, h => by cases p
  | .exc _, _, _, p, h => by cases p
  | .set _ _ _, _, _, p, h => by cases p
theorem DatL.dp {K : PySem.W.Frag} {G H : Hp} (e : Ex G H) : ∀ (ds : List D) (n : Nat) (vs : List V), pdBs n ds = true → DatL K G vs ds → DpAll K H vs (toPs ds)
  | [], _, _, _, h => by cases h; exact .nil
  | d :: ds, n, _, p, h => by
    have p' : (pdB n d && pdBs n ds) = true := p
    obtain ⟨p1, p2⟩ := Bool.and_eq_true_iff.mp p'
    cases h with | cons a b => exact .cons (Dat.dp e d n _ p1 a) (DatL.dp e ds n _ p2 b)
end
theorem pd_shaped {d : D} (h : pdB 60 d = true) : SeqAt.shaped (toP d) = true := by
  obtain ⟨h1, h2⟩ := pd_facts d 60 h
  unfold SeqAt.shaped
  rw [h1, decide_eq_true (show PyData.depth (toP d) ≤ 64 by omega)]
  rfl
theorem eqv_nil (ds : List D) : PyData.eqv (.list (toPs ds)) (.list []) = ds.isEmpty := by
  cases ds with
  | nil => rfl
  | cons x L => rfl
theorem op_neNilP {K : PySem.W.Frag} {ds : List D} (h : pdBs 59 ds = true) : OpD K (rNeD K) (.lst ds) (.lst []) (.bl (!ds.isEmpty)) := fun G H v1 v2 e d1 d2 Q q => by
  have hp : pdB 60 (.lst ds) = true := h
  refine ⟨_, _, Dat.dp e _ 60 _ hp d1, Dat.dp e (.lst []) 60 _ rfl d2, pd_shaped hp, rfl, ?_⟩
  have := eqv_nil ds
  rw [show toP (.lst ds) = .list (toPs ds) from rfl, show toP (.lst []) = .list [] from rfl, eqv_nil]
  exact q _ G H (.refl e) (.bl _)
theorem op_eqNilP {K : PySem.W.Frag} {ds : List D} (h : pdBs 59 ds = true) : OpD K (rEqD K) (.lst ds) (.lst []) (.bl ds.isEmpty) := fun G H v1 v2 e d1 d2 Q q => by
  have hp : pdB 60 (.lst ds) = true := h
  refine ⟨_, _, Dat.dp e _ 60 _ hp d1, Dat.dp e (.lst []) 60 _ rfl d2, pd_shaped hp, rfl, ?_⟩
  rw [show toP (.lst ds) = .list (toPs ds) from rfl, show toP (.lst []) = .list [] from rfl, eqv_nil]
  exact q _ G H (.refl e) (.bl _)
/-! ### what a comprehension keeps -/
theorem keep_mem {f : Nat → Bool} {F : Nat → D} {n : Nat} {x : D} (h : x ∈ keep f F n) : ∃ i, i < n ∧ f i = true ∧ x = F i := by
  unfold keep at h
  obtain ⟨i, hi, rfl⟩ := List.mem_map.mp h
  obtain ⟨h1, h2⟩ := List.mem_filter.mp hi
  exact ⟨i, List.mem_range.mp h1, h2, rfl⟩
theorem keep_empty {f : Nat → Bool} {F : Nat → D} {n : Nat} : (keep f F n).isEmpty = (List.range n).all fun i => !f i := by
  unfold keep
  rw [Bool.eq_iff_iff, List.isEmpty_iff, List.map_eq_nil_iff, List.filter_eq_nil_iff, List.all_eq_true]
  refine forall_congr' fun i => imp_congr_right fun _ => ?_
  cases f i <;> simp
theorem keep_flat {f : Nat → Bool} {F : Nat → D} : ∀ n : Nat, keep f F n = flat (fun z => if f z = true then [F z] else []) n
  | 0 => rfl
  | n + 1 => by
    rw [flat_succ, ← keep_flat n]
    cases h : f n with
    | true => rw [keep_yes h, if_pos rfl]
    | false => rw [keep_no h, if_neg Bool.false_ne_true, List.append_nil]
theorem all_getD {p : D → Bool} {ds : List D} : ((List.range ds.length).all fun i => p (ds.getD i .non)) = ds.all p := by
  rw [Bool.eq_iff_iff, List.all_eq_true, List.all_eq_true]
  constructor
  · intro h x hx
    obtain ⟨i, hi, rfl⟩ := List.getElem_of_mem hx
    have := h i (List.mem_range.mpr hi)
    rwa [List.getD_eq_getElem?_getD, List.getElem?_eq_getElem hi] at this
  · intro h i hi
    have hi := List.mem_range.mp hi
    rw [List.getD_eq_getElem?_getD, List.getElem?_eq_getElem hi]
    exact h _ (List.getElem_mem hi)
theorem set_map {α β : Type} (g : α → β) : ∀ (l : List α) (i : Nat) (a : α), (l.set i a).map g = (l.map g).set i (g a)
  | [], _, _ => rfl
  | _ :: _, 0, _ => rfl
  | b :: l, i + 1, a => by
    show g b :: (l.set i a).map g = g b :: (l.map g).set i (g a)
    rw [set_map g l i a]
end DL

set_option Elab.async false
set_option linter.all false
set_option maxRecDepth 100000
set_option maxHeartbeats 4000000
/-! sets of numbers: set(xs), len, sorted, in; set comprehensions; sum, any, gcd -/
namespace DL
open PySem PySem.Spec PyProof.Rows L2
/-! ### the different ones of a list -/
def ddStep (p : List Int) (x : Int) : List Int := if x ∈ p then p else x :: p
def ddI (l : List Int) : List Int := l.foldl ddStep []
/-- how many different ones -/
def dcount (l : List Int) : Nat := (ddI l).length
theorem ddI_snoc (l : List Int) (x : Int) : ddI (l ++ [x]) = ddStep (ddI l) x := by
  unfold ddI
  rw [List.foldl_append]
  rfl
theorem dd_fold : ∀ (l p : List Int), p.Nodup → (l.foldl ddStep p).Nodup ∧ ∀ k, k ∈ l.foldl ddStep p ↔ k ∈ p ∨ k ∈ l
  | [], p, h => ⟨h, fun k => by simp⟩
  | x :: l, p, h => by
    have h2 : (ddStep p x).Nodup ∧ ∀ k, k ∈ ddStep p x ↔ k ∈ p ∨ k = x := by
      unfold ddStep
      by_cases c : x ∈ p
      · rw [if_pos c]
        exact ⟨h, fun k => ⟨.inl, fun z => z.elim id fun e => e ▸ c⟩⟩
      · rw [if_neg c]
        exact ⟨List.nodup_cons.mpr ⟨c, h⟩, fun k => by rw [List.mem_cons]; exact ⟨fun z => z.elim .inr .inl, fun z => z.elim .inr .inl⟩⟩
    obtain ⟨h3, h4⟩ := dd_fold l (ddStep p x) h2.1
    refine ⟨h3, fun k => ?_⟩
    show k ∈ l.foldl ddStep (ddStep p x) ↔ _
    rw [h4 k, h2.2 k, List.mem_cons, or_assoc]
theorem dd_nodup (l : List Int) : (ddI l).Nodup := (dd_fold l [] .nil).1
theorem dd_mem {l : List Int} {k : Int} : k ∈ ddI l ↔ k ∈ l := by
  have h := (dd_fold l [] .nil).2 k
  show k ∈ l.foldl ddStep [] ↔ k ∈ l
  rw [h]
  simp
theorem dcount_snoc (l : List Int) (x : Int) : dcount (l ++ [x]) = if x ∈ l then dcount l else dcount l + 1 := by
  unfold dcount
  rw [ddI_snoc]
  unfold ddStep
  by_cases c : x ∈ l
  · rw [if_pos (dd_mem.mpr c), if_pos c]
  · rw [if_neg (fun h => c (dd_mem.mp h)), if_neg c]
    rfl
theorem dcount_of {l ns : List Int} (h : l.Nodup) (hm : ∀ k, k ∈ l ↔ k ∈ ns) : l.length = dcount ns :=
  ((List.perm_ext_iff_of_nodup h (dd_nodup ns)).mpr fun k => by rw [hm, dd_mem]).length_eq
theorem ddStep_len (p : List Int) (x : Int) : (ddStep p x).length ≤ p.length + 1 := by
  unfold ddStep
  split
  · omega
  · exact Nat.le_refl _
theorem fold_len : ∀ (l p : List Int), (l.foldl ddStep p).length ≤ p.length + l.length
  | [], p => Nat.le_refl _
  | x :: l, p => by
    have h1 := fold_len l (ddStep p x)
    have h2 := ddStep_len p x
    rw [List.length_cons]
    show (l.foldl ddStep (ddStep p x)).length ≤ _
    omega
theorem dcount_le (l : List Int) : dcount l ≤ l.length := by
  have h := fold_len l []
  rw [List.length_nil, Nat.zero_add] at h
  exact h
theorem dcount_full {l : List Int} : dcount l = l.length ↔ l.Nodup := by
  constructor
  · intro h
    have key : ∀ (l p : List Int), (l.foldl ddStep p).length = p.length + l.length → p.Nodup → (∀ x ∈ l, x ∉ p) ∧ l.Nodup := by
      intro l
      induction l with
      | nil => exact fun p _ _ => ⟨(fun x hx => nomatch hx), .nil⟩
      | cons x l ih =>
        intro p hp hn
        have h1 := fold_len l (ddStep p x)
        have hp' : (l.foldl ddStep (ddStep p x)).length = p.length + (l.length + 1) := hp
        by_cases c : x ∈ p
        · have e : ddStep p x = p := if_pos c
          rw [e] at h1 hp'
          omega
        · have e : ddStep p x = x :: p := if_neg c
          rw [e] at hp'
          obtain ⟨h2, h3⟩ := ih (x :: p) (by rw [List.length_cons]; omega) (List.nodup_cons.mpr ⟨c, hn⟩)
          refine ⟨fun y hy => ?_, List.nodup_cons.mpr ⟨fun hx => h2 x hx List.mem_cons_self, h3⟩⟩
          rcases List.mem_cons.mp hy with rfl | hy
          · exact c
          · exact fun z => h2 y hy (List.mem_cons_of_mem _ z)
    exact (key l [] (by rw [List.length_nil, Nat.zero_add]; exact h) .nil).2
  · exact fun h => (dcount_of h fun k => Iff.rfl).symm
section
variable {P : Program} {w : World} {A : Around} {E : Value → Shared → Prop} {s : Shared}
/-- a new set -/
abbrev set0 (w : World) : Obj := { cls := .type "set", dict := none, data := .set #[] 0 (.fresh 0 0 (!w.params.followText "set-order")) }
set_option maxHeartbeats 3200000 in
/-- set(xs) of a list of numbers: as the library's rule for a tuple -/
theorem call_set_lstI {l : Addr} {items : Array Value} (ns : List Int) {Q : Value → Shared → Prop} (hh : A.handled = none) (hl : s.heap.IsList l items) (hit : IntsAre items.toList ns) (hb : ns.length + 1 < scanBound)
    (h : ∀ (h' : Heap) (tk c : Nat), SetR w h' s.heap.objs.size (fun j => decide (j ∈ ns)) c → (∀ b o, s.heap.get? b = some o → h'.get? b = some o) → Q (.ref s.heap.objs.size) { s with heap := h', toks := tk }) :
    wpAny (model P w) A (call (.type "set") [.ref l]) Q E s := by
  have hisz : items.size = ns.length := by
    have q := IntsAre.length hit
    rw [Array.length_toList] at q
    exact q
  obtain ⟨c, tl, hmro⟩ := F.called_set.mro
  have hmade := F.called_set.made
  have hsub := F.called_set.sub
  refine wpAny_call (codeAny_of_tree ?_)
  show wpAny _ _ (callAny (.type "set") _) _ _ _
  refine wpAny_pure ⟨Code.quiet_builtin _ (by decide +kernel), codeAny_builtin F.entry_type_call ?_⟩
  rw [Around.under_plain (weight_type_call_type "set" [.ref l] []) rfl]
  have h1 := F.called_set.notType
  have h2 := F.called_set.canCreate
  have hct := F.typeCall_set_1 (.ref l)
  repeat (any_goals (first | assumption | wp_step))
  refine codeAny_mono (code_set_led1 (.ref l) (E := E) (Q₁ := fun obj s₁ => obj = .ref s.heap.objs.size ∧ s₁ = { s with heap := s.heap.push (set0 w) }) ⟨rfl, rfl⟩) fun r s₁ hr => ?_
  cases r with
  | error e => exact hr
  | ok fl =>
    cases fl with
    | ret obj =>
      obtain ⟨rfl, rfl⟩ := hr
      have hS : (s.heap.push (set0 w)).get? s.heap.objs.size = some (set0 w) := Heap.get?_push_size _ rfl
      have hT : Shared.TypeIs { s with heap := s.heap.push (set0 w) } (.ref s.heap.objs.size) "set" := ⟨_, hS, rfl⟩
      have hli := F.called_set.init.lookup
      have hbi := F.called_set.init.bind (.ref s.heap.objs.size)
      repeat (any_goals (first | assumption | wp_step))
      refine codeAny_mono (codeAny_call_builtin (R := wants (fun r s₂ => r = .none ∧ ∃ h' tk c, s₂ = { s with heap := h', toks := tk } ∧ SetR w h' s.heap.objs.size (fun j => decide (j ∈ ns)) c ∧
          (∀ b o, s.heap.get? b = some o → h'.get? b = some o)) E) F.called_set.init.plain F.entry_set_init (check_set_init_1 hT ?_)) fun r₂ s₂ hr₂ => ?_
      · obtain ⟨ol, hol, hcl, nl, hdl⟩ := hl
        obtain ⟨ocls, odict, odata, oslots⟩ := ol
        simp only at hcl hdl
        subst hcl; subst hdl
        have hol' : (s.heap.push (set0 w)).get? l = some { cls := .type "list", dict := odict, data := .seq items nl, slots := oslots } := Heap.get?_push_of_some _ hol
        have hsls := F.sub_list_set
        have hslf := F.sub_list_frozenset
        have hne : (Value.type "list" == Value.type "dict") = false := by decide
        have hl1 : (s.heap.push (set0 w)).IsList l items := ⟨_, hol', rfl, nl, rfl⟩
        unfold Builtin.«set.__init__» noKeywords Builtin.Frozenset.updateFrom
        generalize hPI : pyIter = PI
        wp_walk
        subst hPI
        refine wpAny_pyIter_list hl1 ?_
        refine wpAny_bind (wpAny_runValue ?_)
        have hlS : l < s.heap.objs.size := Heap.lt_size hol
        have hh3 : A.in1.in1.in1.handled = none := by simp [hh]
        have hsz : (s.heap.push (set0 w)).objs.size = s.heap.objs.size + 1 := Heap.size_push ..
        have hneI : l ≠ (s.heap.push (set0 w)).objs.size := by rw [hsz]; exact Nat.ne_of_lt (Nat.lt_succ_of_lt hlS)
        have hSf : s.heap.objs.size ∉ [(s.heap.push (set0 w)).objs.size, l] := by
          rw [hsz]; simp only [List.mem_cons, List.mem_singleton, List.not_mem_nil, or_false, not_or]
          exact ⟨Nat.ne_of_lt (Nat.lt_succ_self _), Nat.ne_of_gt hlS⟩
        have hval : ∀ (i : Nat) (v : Value), items[i]? = some v → ∃ k t, ns[i]? = some k ∧ v = .int k t := fun i v hv => by
          have hi : i < ns.length := by rw [← hisz]; exact (Array.getElem?_eq_some_iff.mp hv).1
          obtain ⟨t, e⟩ := PyProof.Rows.IntsAre.int_at hit i v (by rw [Array.getElem?_toList]; exact hv)
          refine ⟨ns[i], t, List.getElem?_eq_getElem hi, ?_⟩
          rw [e, List.getD_eq_getElem?_getD, List.getElem?_eq_getElem hi] <;> rfl
        refine set_update_ints ((Walks.list hh3 _ l hneI items).toS) s.heap.objs.size
          hSf ns hisz hb hval (items.size - 0) 0 _ (by omega) (Nat.zero_le _)
          ⟨⟨_, Heap.get?_push_size _ rfl, rfl, rfl⟩, (hl1.push _)⟩ ⟨0, Nat.le_refl 0, setR_new_at (Heap.get?_push_of_some _ hS)⟩ fun s' c' hm hc' hS' => ?_
        obtain ⟨h', g2, d', tk', os'⟩ := s'
        have eg : g2 = s.gens := hm.gens
        have ed : d' = s.drawn := hm.drawn
        have eo : os' = s.os := hm.os
        subst eg; subst ed; subst eo
        show wpAny _ _ _ _ _ _
        refine wpAny_pure ?_
        show wpAny _ _ (ret Value.none) _ _ _
        refine wpAny_pure ⟨rfl, h', tk', c', rfl, hS', fun b o e => ?_⟩
        have hb0 : b < s.heap.objs.size := Heap.lt_size e
        exact hm.heap b o (by rw [hsz]; simp only [List.mem_cons, List.mem_singleton, List.not_mem_nil, or_false, not_or]; exact ⟨Nat.ne_of_lt hb0, Nat.ne_of_lt (Nat.lt_succ_of_lt hb0)⟩) (Heap.get?_push_of_some _ (Heap.get?_push_of_some _ e))
      · cases r₂ with
        | error e => exact hr₂
        | ok fl₂ =>
          cases fl₂ with
          | ret r =>
            obtain ⟨rfl, h', tk, c, rfl, hS', hk'⟩ := hr₂
            repeat (any_goals (first | assumption | wp_step))
            exact h _ _ _ hS' hk'
          | _ => exact hr₂.elim
    | _ => exact hr.elim
/-- how many members such a set has -/
theorem setR_count {h : Heap} {a : Addr} {ns : List Int} {c : Nat} (R : SetR w h a (fun j => decide (j ∈ ns)) c) : c = dcount ns := by
  obtain ⟨o, es, ep, t, ho, hex, hd, g, nd, hm, hb, hf, hn, _⟩ := R
  rw [← dcount_of nd fun k => by rw [← hm k, decide_eq_true_eq], List.length_map, Array.length_toList]
  exact hn.symm
end
/-- set(xs), xs a list or a tuple of numbers -/
def rSetOf (K : PySem.W.Frag) (w : World) : List V → Hp → VK → Prop := fun xs H Q => ∃ (a : Addr) (ns : List Int), xs = [.ref a] ∧ (SqL K H a (ns.map V.int) ∨ SqT K H a (ns.map V.int)) ∧ ns.length ≤ 4000 ∧ ∀ p, H p = none → Q (.ref p) (upd H p (SetO w p (fun j => decide (j ∈ ns)) (dcount ns)))
theorem call_setOf {X : Cx} (hc : X.calm = true) : CallR X (.type "set") (rSetOf X.K X.w) := by
  intro pins s σ H xs us Q I r h
  obtain ⟨a, ns, rfl, hq, hl, q⟩ := h
  rw [Vals.ref1 r]
  have hd := I.ok.hd hc
  have fin : ∀ (h' : Heap) (tk c : Nat), SetR X.w h' s.heap.objs.size (fun j => decide (j ∈ ns)) c → (∀ b o, s.heap.get? b = some o → h'.get? b = some o) → EP X pins σ Q (.ref s.heap.objs.size) { s with heap := h', toks := tk } := fun h' tk c R k => by
    have e := setR_count R
    subst e
    exact ⟨.ref _, upd H s.heap.objs.size (SetO X.w s.heap.objs.size (fun j => decide (j ∈ ns)) (dcount ns)), I.laid (t' := tk) k (Nat.le_refl _) (setO_new R), rfl, q _ (I.hok.fresh (Nat.le_refl _))⟩
  rcases hq with hq | hq
  · obtain ⟨its, rv, pl, hz⟩ := I.list hq
    exact call_set_lstI ns hd pl.isList (by simpa using ints_of_vals rv) (by unfold scanBound; omega) fun h' tk c R k => fin h' tk c R k
  · obtain ⟨its, rv, pt, hz⟩ := I.tuple hq
    exact call_set_tupI ns hd (show s.heap.IsTuple a its.toArray from pt) (by simpa using ints_of_vals rv) (by unfold scanBound; omega) fun h' tk c R _ k => fin h' tk c R k
theorem call_setOfK {X : Cx} (K : PySem.W.Frag) (w : World) (hc : X.calm = true := by rfl) (h : X.K = K := by rfl) (hw : X.w = w := by rfl) : CallR X (.type "set") (rSetOf K w) := by
  subst h; subst hw
  exact call_setOf hc
/-- len(set) -/
def rLenS (w : World) : List V → Hp → VK → Prop := fun xs H Q => ∃ (a : Addr) (S : Int → Bool) (n : Nat), xs = [.ref a] ∧ H a = some (SetO w a S n) ∧ Q (.int (n : Nat)) H
theorem call_lenS {X : Cx} (w : World) (hw : X.w = w := by rfl) : CallR X (.builtin "len") (rLenS w) := by
  subst hw
  intro pins s σ H xs us Q I r h
  obtain ⟨a, S, n, rfl, ha, q⟩ := h
  rw [Vals.ref1 r]
  obtain ⟨o, es, ep, t, ho, hex, hd, g, nd, hm, hb, hf, hn, _⟩ := setO_get I ha
  refine call_len_set ho hex hd hf (by unfold scanBound at hb; omega) ⟨.int n, H, I.tok _, ⟨_, by rw [hn]⟩, q⟩
theorem call_sortedSK {X : Cx} (w : World) (hc : X.calm = true := by rfl) (hw : X.w = w := by rfl) : CallR X (.builtin "sorted") (rSortedSet w) := by
  subst hw
  exact cr_sortedSet hc
theorem op_inSK {X : Cx} (w : World) (hw : X.w = w := by rfl) : OpR X (compareOp .In) (rSIn w) := by
  subst hw
  exact or_sin
theorem op_notInSK {X : Cx} (w : World) (hw : X.w = w := by rfl) : OpR X (compareOp .NotIn) (rSNotIn w) := by
  subst hw
  exact or_snotin
/-- two rising lists of the same numbers are one -/
theorem ris_unique : ∀ {a b : List Int}, a.Pairwise (· < ·) → b.Pairwise (· < ·) → (∀ k, k ∈ a ↔ k ∈ b) → a = b
  | [], [], _, _, _ => rfl
  | [], y :: b, _, _, h => absurd ((h y).mpr List.mem_cons_self) (by simp)
  | x :: a, [], _, _, h => absurd ((h x).mp List.mem_cons_self) (by simp)
  | x :: a, y :: b, ha, hb, h => by
    obtain ⟨ha1, ha2⟩ := List.pairwise_cons.mp ha
    obtain ⟨hb1, hb2⟩ := List.pairwise_cons.mp hb
    have e : x = y := by
      rcases List.mem_cons.mp ((h x).mp List.mem_cons_self) with e | hx
      · exact e
      · rcases List.mem_cons.mp ((h y).mpr List.mem_cons_self) with e | hy
        · exact e.symm
        · have h1 := hb1 x hx
          have h2 := ha1 y hy
          omega
    subst e
    congr 1
    refine ris_unique ha2 hb2 fun k => ?_
    constructor
    · intro hk
      rcases List.mem_cons.mp ((h k).mp (List.mem_cons_of_mem _ hk)) with e | hk2
      · subst e; have := ha1 k hk; omega
      · exact hk2
    · intro hk
      rcases List.mem_cons.mp ((h k).mpr (List.mem_cons_of_mem _ hk)) with e | hk2
      · subst e; have := hb1 k hk; omega
      · exact hk2
def setW (w : World) (ns : List Int) : D := .set w (fun j => decide (j ∈ ns)) (dcount ns)
section
variable {K : PySem.W.Frag} {β : Bas} {env : Env'} {ta tb te tc to : TE} {tt tu : TT} {x y z d : D} {v : V} {w : World}
theorem DatL.ints_of {G : Hp} {ns : List Int} {xs : List V} (h : DatL K G xs (ns.map D.int)) : xs = ns.map V.int := DatL.intsV h
theorem cb_setOf {ns : List Int} (h : x = .tup (ns.map D.int) ∨ x = .lst (ns.map D.int)) (hl : ns.length ≤ 4000) : CbD K (rSetOf K w) [x] (setW w ns) := fun G H vs e dl Q q => by
  cases dl with | cons dv t =>
  cases t
  rcases h with rfl | rfl
  · obtain ⟨a, xs, rfl, ht, hd⟩ := dv.tupV
    rw [DatL.intsV hd] at ht
    exact ⟨a, ns, rfl, .inr (ex_t e ht), hl, fun p hp => q _ (upd G p _) _ (.new e hp) (.set upd_same)⟩
  · obtain ⟨a, xs, rfl, ht, hd⟩ := dv.lstV
    rw [DatL.intsV hd] at ht
    exact ⟨a, ns, rfl, .inl (.inl (.inl (e _ _ ht))), hl, fun p hp => q _ (upd G p _) _ (.new e hp) (.set upd_same)⟩
theorem cb_lenS {S : Int → Bool} {n : Nat} : CbD K (rLenS w) [.set w S n] (.int n) := fun G H vs e dl Q q => by
  cases dl with | cons dv t =>
  cases t
  cases dv with
  | set h => exact ⟨_, S, n, rfl, e _ _ h, q _ G H (.refl e) (.int _)⟩
theorem cb_sortedS {S : Int → Bool} {n : Nat} {L : List Int} (hn : n < 64) (hL : L.Pairwise (· < ·)) (hm : ∀ k, k ∈ L ↔ S k = true) : CbD K (rSortedSet w) [.set w S n] (.lst (L.map D.int)) := fun G H vs e dl Q q => by
  cases dl with | cons dv t =>
  cases t
  cases dv with
  | set h =>
  refine ⟨_, S, n, rfl, e _ _ h, hn, fun ns p h1 h2 h3 hp => ?_⟩
  have e2 : ns = L := ris_unique h1 hL fun k => by rw [h2, hm]
  subst e2
  exact q _ (upd G p _) _ (.new e hp) (.lst upd_same (DatL.ints _))
theorem op_inS2 {S : Int → Bool} {n : Nat} {k : Int} : OpD K (rSIn w) (.int k) (.set w S n) (.bl (S k)) := fun G H v1 v2 e d1 d2 Q q => by
  rw [d1.intV]
  cases d2 with
  | set h => exact ⟨k, _, S, n, rfl, rfl, e _ _ h, q _ G H (.refl e) (.bl _)⟩
theorem op_notInS2 {S : Int → Bool} {n : Nat} {k : Int} : OpD K (rSNotIn w) (.int k) (.set w S n) (.bl (!S k)) := fun G H v1 v2 e d1 d2 Q q => by
  rw [d1.intV]
  cases d2 with
  | set h => exact ⟨k, _, S, n, rfl, rfl, e _ _ h, q _ G H (.refl e) (.bl _)⟩
theorem cb_any {bs : List Bool} : CbD K (rAny K) [.lst (bs.map D.bl)] (.bl (bs.any id)) := fun G H vs e dl Q q => by
  cases dl with | cons dv t =>
  cases t
  obtain ⟨a, xs, rfl, ht, hd⟩ := dv.lstV
  exact ⟨a, bs, rfl, .inl (.inl (by rw [← DatL.blsV hd]; exact e _ _ ht)), q _ G H (.refl e) (.bl _)⟩
theorem cb_sum {ns : List Int} : CbD K (rSum K) [.lst (ns.map D.int)] (.int ns.sum) := fun G H vs e dl Q q => by
  cases dl with | cons dv t =>
  cases t
  obtain ⟨a, xs, rfl, ht, hd⟩ := dv.lstV
  exact ⟨a, ns, rfl, .inl (.inl (by rw [← DatL.intsV hd]; exact e _ _ ht)), q _ G H (.refl e) (.int _)⟩
theorem cb_gcd {a b : Int} : CbD K rGcd [.int a, .int b] (.int ((Nat.gcd a.natAbs b.natAbs : Nat) : Int)) := fun G H vs e dl Q q => by
  cases dl with | cons da t =>
  cases t with | cons db t =>
  cases t
  rw [da.intV, db.intV]
  exact ⟨a, b, rfl, q _ G H (.refl e) (.int _)⟩
end
end DL

set_option Elab.async false
set_option linter.all false
set_option maxRecDepth 100000
set_option maxHeartbeats 4000000
/-! set comprehensions of numbers: as the library's rule for truth values -/
namespace DL
open PySem PySem.Spec PyProof.Rows L2
section
variable {X : Cx}
theorem addI_ok {pins : List (Addr × Obj)} {σ : L2.St} {H : Hp} {s : Shared} {E : Value → Shared → Prop} {D : Addr} {S : Int → Bool} {n : Nat} {k : Int} {tk : Tok} {Q : Value → Shared → Prop} (I : L2.Inv X pins σ H s) (hD : H D = some (SetO X.w D S n)) (room : n + 1 < scanBound)
    (h : ∀ s', L2.Inv X pins σ (upd H D (SetO X.w D (fun j => S j || decide (j = k)) (if S k = true then n else n + 1))) s' → Q .none s') : wpAny (model X.prog X.w) X.A (call (.builtin "set.add") [.ref D, .int k tk]) Q E s := by
  refine setR_add (setO_get I hD) room fun h' sb new => ?_
  have he : ∃ u, h'.get? D = some u := by
    have ⟨o, _, _, _, ho, _⟩ := new
    exact ⟨o, ho⟩
  exact h _ (I.write (e := D) (t' := s.toks + 1) (by rw [hD]; trivial) (.inl rfl) (fun b u hb hu => (sb.2 b hb).trans hu) he (setO_new new))
/-- {elt for target in iter if ..}, elt a number: Dl the new set -/
def tScI (w : World) (wi : TI) (g : TG) (tt : TT) (te : TE) (vs : List Nat) : TE := fun σ H Q => wi σ H fun J H1 => ∀ Dl, H1 Dl = none → ∃ W : Nat → Nat → Hp → Prop, (∃ m, W 0 m (upd H1 Dl (SetO w Dl (fun _ => false) 0))) ∧ ∀ i m H, W i m H →
  (J.stop i H ∧ Q (.ref Dl) H) ∨ (J.go i H ∧ ∃ Nx : Hp → Prop, (∀ H', Nx H' → ∃ m', m' < m ∧ W (i + 1) m' H') ∧ ∀ x H', J.yld i H x H' → g x (L2.wipe σ vs) H' fun σ2 H2 => L2.wipe σ2 vs = L2.wipe σ vs ∧ tt σ2 H2 fun b H3 =>
    if b = true then te σ2 H3 fun y H4 => ∃ (k : Int) (S : Int → Bool) (n : Nat), y = .int k ∧ H4 Dl = some (SetO w Dl S n) ∧ n + 1 < scanBound ∧ Nx (upd H4 Dl (SetO w Dl (fun j => S j || decide (j = k)) (if S k = true then n else n + 1))) else Nx H3)
theorem pe_scI {elt tg iter : Expr} {ifs : List Expr} {scope : Scope} {own : List (PySem.Str × Nat)} {pos : Pos} {wi : TI} {g : TG} {tt : TT} {te : TE} (hc : X.calm = true) (hN : X.N.Nodup) (hi : PI X tg iter wi) (ok : BlkOk X.N X.env.scope scope own)
    (hg : ∀ (s : Shared) (H : Hp) (C : Addr) (cl : List (PySem.Str × Addr)) (fp : List Addr), PG (X.blk s H scope (compEnvC scope cl C X.env) fp) tg g) (ht : ∀ (s : Shared) (H : Hp) (C : Addr) (cl : List (PySem.Str × Addr)) (fp : List Addr), PTs (X.blk s H scope (compEnvC scope cl C X.env) fp) ifs tt)
    (he : ∀ (s : Shared) (H : Hp) (C : Addr) (cl : List (PySem.Str × Addr)) (fp : List Addr), PE (X.blk s H scope (compEnvC scope cl C X.env) fp) elt te) (hs : ∀ x, foldedSetIterable iter X.env x = pure x := by intro _; rfl) :
    PE X (.SetComp elt [⟨tg, iter, ifs, 0⟩] scope pos) (tScI X.w wi g tt te (own.map (·.2))) := by
  refine ⟨fun pins s σ H Q I h => ?_⟩
  rw [PpSet.eval_SetComp]
  have hfree : ∀ y ∈ scope.names, y.2 = .free → ∃ c, X.env.cells.lookup y.1 = some c := fun y hy e => by
    rcases ok.free y hy e with k | k
    · exact I.ok.has _ (.inl k)
    · exact I.ok.has _ (.inr k)
  refine wpAny_comprehension_free rfl hs (closure_ok hfree) ok.kind (fun y hy e => by rw [ok.uniq y hy, e])
    (thn (hi.run pins s σ H _ I h) fun xv s1 hx => thn hx fun itv s2 h2 => ?_)
  obtain ⟨it, fp, tn, J, H2, e, I2, T, st2, f2, q⟩ := h2
  subst e
  refine PpSet.newSet_ok (newEnv_comp ?_)
  generalize hD : s2.heap.objs.size = Dl
  have hDn : H2 Dl = none := I2.hok.fresh (Nat.le_of_eq hD)
  obtain ⟨W, ⟨m0, w0⟩, turn⟩ := q Dl hDn
  generalize hs3 : ({ s2 with heap := s2.heap.push (set0 X.w) } : Shared) = s3
  have I3 : L2.Inv X pins σ (upd H2 Dl (SetO X.w Dl (fun _ => false) 0)) s3 := by
    rw [← hs3]
    refine I2.laid (t' := s2.toks) (fun b o e => Heap.get?_push_of_some _ e) (Nat.le_of_eq hD) ?_
    rw [← hD]
    exact setO_new (setR_fresh X.w)
  have h3 : s3.heap = s2.heap.push (set0 X.w) := by rw [← hs3]
  have sz : ∀ b ∈ fp, b < s2.heap.objs.size := fun b hb => by
    obtain ⟨o, e, _⟩ := T.obj _ _ st2 b hb
    exact Heap.lt_size e
  have f3 : ∀ b ∈ fp, FpOk X pins (upd H2 Dl (SetO X.w Dl (fun _ => false) 0)) b ∧ b < s3.heap.objs.size := fun b hb => by
    have hlt := sz b hb
    refine ⟨⟨?_, (f2 b hb).2⟩, by rw [h3, Heap.size_push]; exact Nat.lt_succ_of_lt hlt⟩
    rw [upd_ne (by rw [← hD]; exact Nat.ne_of_lt hlt)]
    exact (f2 b hb).1
  have st3 : tn 0 s3.heap := T.keep _ _ _ st2 fun b _ o e => by rw [h3]; exact Heap.get?_push_of_some _ e
  have I4 := block_start I3 ok hN f3
  have pg := hg s3 (upd H2 Dl (SetO X.w Dl (fun _ => false) 0)) s3.heap.objs.size (cellsFrom (s3.heap.objs.size + 1) scope.names (cloFrom X.env.cells scope.names [])) fp
  have pt := ht s3 (upd H2 Dl (SetO X.w Dl (fun _ => false) 0)) s3.heap.objs.size (cellsFrom (s3.heap.objs.size + 1) scope.names (cloFrom X.env.cells scope.names [])) fp
  have pe := he s3 (upd H2 Dl (SetO X.w Dl (fun _ => false) 0)) s3.heap.objs.size (cellsFrom (s3.heap.objs.size + 1) scope.names (cloFrom X.env.cells scope.names [])) fp
  have hRR : ∀ s' m H', L2.Inv X pins σ H' s' → Q (.ref Dl) H' → s'.heap.Ns s3.heap.objs.size m → FpOk X pins H' s3.heap.objs.size → compPost (model X.prog X.w) X.A X.xe none (fun v s' => EP X pins σ Q v s') (.ref Dl) s3.heap.objs.size (.ok .next) s' := fun s' m H' I' q hn f => ⟨m, hn, fun h'' sb => by
    obtain ⟨f0, f1, f2, f3, f4, f5⟩ := f
    exact ⟨.ref Dl, H', I'.turned (t' := s'.toks) (fun b o hb e => (sb.2 b hb).trans e) f0 f1 f3 f4 f5, rfl, q⟩⟩
  show codeAny _ _ (.compStart (.SetComp elt [⟨tg, iter, ifs, 0⟩] scope pos) 0 (.ref it) (.ref Dl) (compEnvC scope (cellsFrom (s3.heap.objs.size + 1) scope.names (cloFrom X.env.cells scope.names [])) s3.heap.objs.size X.env)) (compPost (model X.prog X.w) X.A X.xe none (fun v s' => EP X pins σ Q v s') (.ref Dl) s3.heap.objs.size) { s3 with heap := pushCells (s3.heap.push { cls := .type "dict", data := .dict #[] }) scope.names }
  have nfp : ∀ b ∈ fp, (upd H2 Dl (SetO X.w Dl (fun _ => false) 0)) b = none := fun b hb => (f3 b hb).1.1
  generalize hce : compEnvC scope (cellsFrom (s3.heap.objs.size + 1) scope.names (cloFrom X.env.cells scope.names [])) s3.heap.objs.size X.env = ce at I4 pg pt pe ⊢
  have cL : ce.locals = s3.heap.objs.size := by subst hce; rfl
  generalize hH3 : upd H2 Dl (SetO X.w Dl (fun _ => false) 0) = H3 at I3 I4 pg pt pe w0 nfp f3
  generalize hs4 : ({ s3 with heap := pushCells (s3.heap.push { cls := .type "dict", data := .dict #[] }) scope.names } : Shared) = s4 at I4 ⊢
  have st4 : tn 0 s4.heap := T.keep _ _ _ st3 fun b _ o e => by rw [← hs4]; exact pushCells_keeps _ _ _ _ (Heap.get?_push_of_some _ e)
  have stat : ∀ {σ' : L2.St} {H' : Hp} {s' : Shared}, L2.Inv (X.blk s3 H3 scope ce fp) [] σ' H' s' → (∀ b ∈ fp, H' b = none) → ∀ b ∈ fp, FpOk (X.blk s3 H3 scope ce fp) [] H' b := fun {σ' H' s'} I' hn b hb =>
    ⟨hn b hb, (I'.ok.exf b hb).1, I'.ok.exfs b hb, .inl hb, fun x c e => (I'.ok.exf b hb).2 x c e, fun p hp => absurd (show p ∈ ([] : List (Addr × Obj)) ++ [] from hp) (by simp)⟩
  have loop : codeAny (model X.prog X.w) X.A (.compLoop (.SetComp elt [⟨tg, iter, ifs, 0⟩] scope pos) 0 (.ref it) (.ref Dl) ce) (compPost (model X.prog X.w) X.A X.xe none (fun v s' => EP X pins σ Q v s') (.ref Dl) s3.heap.objs.size) s4 := by
    refine PpSet.compLoopS_any (fun n s' => ∃ i H', L2.Inv (X.blk s3 H3 scope ce fp) [] (L2.wipe σ (own.map (·.2))) H' s' ∧ tn i s'.heap ∧ (∀ b ∈ fp, H' b = none) ∧ W i n H') ?_ m0 ⟨0, H3, I4, st4, nfp, w0⟩
    rintro n s5 ⟨i, H5, I5, st5, n5, w5⟩
    rcases turn i n H5 w5 with ⟨stop, qq⟩ | ⟨go, Nx, hNx, step⟩
    · refine thnF (T.done (X.blk s3 H3 scope ce fp) rfl rfl rfl hc i [] s5 _ H5 (fun _ _ => False) I5 (stat I5 n5) st5 stop) fun r s6 ⟨hr, I6⟩ => ?_
      subst hr
      have I7 : L2.Inv X pins σ H5 s6 := I3.call' (ch := fp) I6.os I6.base I6.hok I6.bare fun b hb => ⟨(f3 b hb).1.2.2.2.1, (f3 b hb).1.2.1, (f3 b hb).1.2.2.2.2.1, (f3 b hb).1.2.2.2.2.2⟩
      have nC : H5 s3.heap.objs.size = none := by
        have z : H5 ce.locals = none := I6.free
        rw [cL] at z
        exact z
      obtain ⟨m, hn, _⟩ := I6.loc
      have hn : s6.heap.Ns ce.locals m := hn
      rw [cL] at hn
      exact hRR s6 m H5 I7 qq hn (I3.fpOk (Nat.le_refl _) nC)
    · refine thnF (T.item (X.blk s3 H3 scope ce fp) rfl rfl rfl hc i [] s5 _ H5 (fun _ _ => False) I5 (stat I5 n5) st5 go) fun r s6 ⟨u, hr, h6⟩ => ?_
      subst hr
      refine thnF h6 fun _ s7 ⟨x, H7, I7, r7, y7, st7, n7⟩ => ?_
      have I7' := I7.pinned (stat I7 n7) (T.obj _ _ st7)
      refine thnF (pg.run _ s7 _ H7 x u _ I7' r7 (step x H7 y7)) fun _ s8 ⟨σ8, H8, I8, hw8, q8⟩ => ?_
      refine thnF (pt.run _ s8 σ8 H8 _ I8 q8) fun b s9 ⟨H9, I9, q9⟩ => ?_
      have fin : ∀ {s' : Shared} {H' : Hp}, L2.Inv (X.blk s3 H3 scope ce fp) ([] ++ pinsAt fp s7.heap) σ8 H' s' → Nx H' → ∃ m, m < n ∧ ∃ i H', L2.Inv (X.blk s3 H3 scope ce fp) [] (L2.wipe σ (own.map (·.2))) H' s' ∧ tn i s'.heap ∧ (∀ b ∈ fp, H' b = none) ∧ W i m H' := fun {s' H'} I' nx => by
        obtain ⟨m', hm, w'⟩ := hNx H' nx
        have pin' : ∀ b ∈ fp, ∀ o, s7.heap.get? b = some o → s'.heap.get? b = some o ∧ H' b = none := fun b hb o e =>
          let z := I'.pin (b, o) (List.mem_append_right _ (List.mem_append_right _ (mem_pinsAt hb e)))
          ⟨z.1, z.2.1⟩
        have hl : (L2.wipe σ (own.map (·.2))).length = σ8.length := by rw [← hw8, L2.wipe_length]
        refine ⟨m', hm, i + 1, H', (I'.unpinned (pins := [])).weak hl (fun j v e => ?_), T.keep _ _ _ st7 fun b hb o e => (pin' b hb o e).1, fun b hb => ?_, w'⟩
        · rw [← hw8] at e
          exact (wipe_some e).1
        · obtain ⟨o, e, _⟩ := T.obj _ _ st7 b hb
          exact (pin' b hb o e).2
      cases b with
      | false =>
        simp only [Bool.false_eq_true, if_false] at q9 ⊢
        exact fin I9 q9
      | true =>
        simp only [if_true] at q9 ⊢
        refine thnF (pe.run _ s9 σ8 H9 _ I9 q9) fun z s10 ⟨yv, H10, I10, r10, kb, S0, n0, ey, hD10, hz10, nx⟩ => ?_
        subst ey
        obtain ⟨tk, rfl⟩ := (show ∃ tk, z = Value.int kb tk from r10)
        exact addI_ok (X := X.blk s3 H3 scope ce fp) I10 hD10 hz10 fun s11 I11 => fin I11 nx
  exact PpSet.codeAny_compStart_set loop (T.self X.A 0 _ _ _ st4 loop)
theorem pe_scIK (w : World) {elt tg iter : Expr} {ifs : List Expr} {scope : Scope} {own : List (PySem.Str × Nat)} {pos : Pos} {wi : TI} {g : TG} {tt : TT} {te : TE} (hc : X.calm = true) (hN : X.N.Nodup) (hi : PI X tg iter wi) (ok : BlkOk X.N X.env.scope scope own)
    (hg : ∀ (s : Shared) (H : Hp) (C : Addr) (cl : List (PySem.Str × Addr)) (fp : List Addr), PG (X.blk s H scope (compEnvC scope cl C X.env) fp) tg g) (ht : ∀ (s : Shared) (H : Hp) (C : Addr) (cl : List (PySem.Str × Addr)) (fp : List Addr), PTs (X.blk s H scope (compEnvC scope cl C X.env) fp) ifs tt)
    (he : ∀ (s : Shared) (H : Hp) (C : Addr) (cl : List (PySem.Str × Addr)) (fp : List Addr), PE (X.blk s H scope (compEnvC scope cl C X.env) fp) elt te) (hs : ∀ x, foldedSetIterable iter X.env x = pure x := by intro _; rfl) (hw : X.w = w := by rfl) :
    PE X (.SetComp elt [⟨tg, iter, ifs, 0⟩] scope pos) (tScI w wi g tt te (own.map (·.2))) := by
  subst hw
  exact pe_scI hc hN hi ok hg ht he hs
end
theorem cr_allK {X : Cx} (K : PySem.W.Frag) (hc : X.calm = true := by rfl) (h : X.K = K := by rfl) : CallR X (.builtin "all") (rAll K) := h ▸ cr_all hc
theorem cr_anyK {X : Cx} (K : PySem.W.Frag) (hc : X.calm = true := by rfl) (h : X.K = K := by rfl) : CallR X (.builtin "any") (rAny K) := h ▸ cr_any hc
theorem cr_sumK {X : Cx} (K : PySem.W.Frag) (hc : X.calm = true := by rfl) (h : X.K = K := by rfl) : CallR X (.builtin "sum") (rSum K) := h ▸ cr_sum hc
theorem op_eqDK {X : Cx} (K : PySem.W.Frag) (hu : X.A.units + 64 < cLine) (h : X.K = K := by rfl) : OpR X (compareOp .Eq) (rEqD K) := h ▸ op_eqD hu
theorem op_neDK {X : Cx} (K : PySem.W.Frag) (hu : X.A.units + 64 < cLine) (h : X.K = K := by rfl) : OpR X (compareOp .NotEq) (rNeD K) := h ▸ op_neD hu
/-- what {e for j in .. if ..} takes -/
def keepI (f : Nat → Bool) (F : Nat → Int) (n : Nat) : List Int := ((List.range n).filter f).map F
theorem keepI_yes {f : Nat → Bool} {F : Nat → Int} {n : Nat} (h : f n = true) : keepI f F (n + 1) = keepI f F n ++ [F n] := by
  unfold keepI
  rw [List.range_succ, List.filter_append, List.map_append, List.filter_cons, if_pos h] <;> rfl
theorem keepI_no {f : Nat → Bool} {F : Nat → Int} {n : Nat} (h : f n = false) : keepI f F (n + 1) = keepI f F n := by
  unfold keepI
  rw [List.range_succ, List.filter_append, List.map_append, List.filter_cons, if_neg (by rw [h]; decide)]
  exact List.append_nil _
theorem keepI_len (f : Nat → Bool) (F : Nat → Int) (n : Nat) : (keepI f F n).length ≤ n := by
  unfold keepI
  rw [List.length_map]
  have h := List.length_filter_le f (List.range n)
  rw [List.length_range] at h
  exact h
theorem keepI_all {F : Nat → Int} {n : Nat} : keepI (fun _ => true) F n = (List.range n).map F := by
  unfold keepI
  rw [List.filter_eq_self.mpr (fun _ _ => rfl)]
theorem set_step (w : World) (p : Addr) (l : List Int) (k : Int) : SetO w p (fun j => decide (j ∈ l) || decide (j = k)) (if decide (k ∈ l) = true then dcount l else dcount l + 1) = SetO w p (fun j => decide (j ∈ l ++ [k])) (dcount (l ++ [k])) := by
  have e1 : (fun j => decide (j ∈ l) || decide (j = k)) = fun j => decide (j ∈ l ++ [k]) := by
    funext j
    rw [Bool.eq_iff_iff, Bool.or_eq_true, decide_eq_true_eq, decide_eq_true_eq, decide_eq_true_eq, List.mem_append, List.mem_singleton]
  rw [e1, dcount_snoc]
  by_cases c : k ∈ l
  · rw [decide_eq_true c, if_pos rfl, if_pos c]
  · rw [decide_eq_false c, if_neg Bool.false_ne_true, if_neg c]
section
variable {K : PySem.W.Frag} {β : Bas} {env : Env'} {ta tb te tc to : TE} {tt tu : TT} {x y z d : D} {v : V} {w : World}
theorem ev_scN {wi : TI} {j : Nat} {vs : List Nat} {ds : List D} {f : Nat → Bool} {F : Nat → Int} (hI : EVI K β wi env ds) (hn : ds.length + 1 < scanBound) (hj : j ∈ vs)
    (hs : ∀ i v d, ds[i]? = some d → EVT K β tt ((wipeE env vs).set j (.val v d)) (f i) ∧ (f i = true → EV K β te ((wipeE env vs).set j (.val v d)) (.int (F i)))) :
    EV K β (tScI w wi (gName j) tt te vs) env (setW w (keepI f F ds.length)) := fun σ G H g0 Q q =>
  hI σ G H g0 _ fun J us G1 H1 t1 hd hJ Dl hD => by
    have e0 : SetO w Dl (fun _ => false) 0 = SetO w Dl (fun j => decide (j ∈ keepI f F 0)) (dcount (keepI f F 0)) := by
      have : (fun _ : Int => false) = fun j => decide (j ∈ keepI f F 0) := funext fun j => (decide_eq_false (fun h => nomatch h)).symm
      rw [this]
      rfl
    refine ⟨fun i m H' => m = us.length - i ∧ i ≤ us.length ∧ ∃ G', Stp G1 H1 G' H' ∧ G' Dl = none ∧ H' Dl = some (SetO w Dl (fun j => decide (j ∈ keepI f F i)) (dcount (keepI f F i))),
      ⟨us.length, by simp, Nat.zero_le _, G1, (Stp.refl t1.gh).side hD (t1.gh.back hD), t1.gh.back hD, by rw [e0]; exact upd_same⟩, ?_⟩
    rintro i m H' ⟨rfl, hi, G', t2, hG, hacc⟩
    by_cases hlt : i < us.length
    · have hx : us[i]? = some us[i] := List.getElem?_eq_getElem hlt
      obtain ⟨d, hdi, dx⟩ := hd.getV hx
      obtain ⟨hT, hE⟩ := hs i us[i] d hdi
      obtain ⟨hgo, hyl⟩ := (hJ i H' (t2.gg.trans t2.gh)).2 _ hx
      refine .inr ⟨hgo, fun H'' => ∃ G', Stp G1 H1 G' H'' ∧ G' Dl = none ∧ H'' Dl = some (SetO w Dl (fun j => decide (j ∈ keepI f F (i + 1))) (dcount (keepI f F (i + 1)))), fun H'' z => ⟨us.length - (i + 1), by omega, rfl, hlt, z⟩, fun x H'' hy => ?_⟩
      obtain ⟨rfl, rfl⟩ := hyl _ _ hy
      refine ⟨wipe_set σ vs j _ hj, ?_⟩
      have gB := (((g0.up t1).up t2).wipe vs).set j (dx.up t2.gg)
      refine hT _ _ _ gB _ fun G3 H3 t3 => ?_
      have a3 : G3 Dl = none := t3.ow _ hG (by rw [hacc]; exact (fun e => nomatch e))
      cases hf : f i with
      | false =>
        rw [if_neg Bool.false_ne_true]
        exact ⟨G3, t2.trans t3, a3, by rw [keepI_no hf]; exact t3.hh _ _ hacc⟩
      | true =>
        rw [if_pos rfl]
        refine hE hf _ _ _ (gB.up t3) _ fun y G4 H4 t4 dy => ?_
        have a4 : G4 Dl = none := t4.ow _ a3 (by rw [t3.hh _ _ hacc]; exact (fun e => nomatch e))
        refine ⟨F i, _, _, dy.intV, t4.hh _ _ (t3.hh _ _ hacc), ?_, G4, ((t2.trans t3).trans t4).side hD a4, a4, ?_⟩
        · have := dcount_le (keepI f F i)
          have := keepI_len f F i
          have := hd.length
          omega
        · rw [keepI_yes hf, upd_same, set_step]
    · have hil : i = us.length := by omega
      refine .inl ⟨(hJ i H' (t2.gg.trans t2.gh)).1 hil, ?_⟩
      rw [hil, hd.length] at hacc
      exact q _ (upd G' Dl _) H' (t1.trans (t2.take hD hG hacc)) (.set upd_same)
end
end DL

set_option Elab.async false
set_option linter.all false
set_option maxRecDepth 100000
set_option maxHeartbeats 2000000
/-! comprehensions over the numbers below n -/
namespace DL
open PySem PySem.Spec PyProof.Rows L2
def fltN (n : Nat) (p : Nat → Bool) : List Nat := (List.range n).filter p
def allN (n : Nat) (p : Nat → Bool) : Bool := (List.range n).all p
def anyN (n : Nat) (p : Nat → Bool) : Bool := (List.range n).any p
theorem fltN_mem {n x : Nat} {p : Nat → Bool} : x ∈ fltN n p ↔ x < n ∧ p x = true := by
  unfold fltN
  rw [List.mem_filter, List.mem_range]
theorem allN_iff {n : Nat} {p : Nat → Bool} : allN n p = true ↔ ∀ x, x < n → p x = true := by
  unfold allN
  rw [List.all_eq_true]
  exact ⟨fun h x hx => h x (List.mem_range.mpr hx), fun h x hx => h x (List.mem_range.mp hx)⟩
theorem anyN_iff {n : Nat} {p : Nat → Bool} : anyN n p = true ↔ ∃ x, x < n ∧ p x = true := by
  unfold anyN
  rw [List.any_eq_true]
  exact ⟨fun ⟨x, hx, h⟩ => ⟨x, List.mem_range.mp hx, h⟩, fun ⟨x, hx, h⟩ => ⟨x, List.mem_range.mpr hx, h⟩⟩
theorem fltN_congr {n : Nat} {p q : Nat → Bool} (h : ∀ x, x < n → p x = q x) : fltN n p = fltN n q := List.filter_congr fun x hx => h x (List.mem_range.mp hx)
theorem fltN_len {n : Nat} {p : Nat → Bool} : (fltN n p).length ≤ n := by
  have := List.length_filter_le p (List.range n)
  rw [List.length_range] at this
  exact this
theorem fltN_nodup {n : Nat} {p : Nat → Bool} : (fltN n p).Nodup := List.nodup_range.filter _
theorem bool_congr {a b : Bool} (h : a = true ↔ b = true) : a = b := by
  cases a <;> cases b <;> simp_all
theorem allN_congr {n : Nat} {p q : Nat → Bool} (h : ∀ x, x < n → p x = q x) : allN n p = allN n q := bool_congr (by
  rw [allN_iff, allN_iff]
  exact ⟨fun z x hx => by rw [← h x hx]; exact z x hx, fun z x hx => by rw [h x hx]; exact z x hx⟩)
theorem anyN_congr {n : Nat} {p q : Nat → Bool} (h : ∀ x, x < n → p x = q x) : anyN n p = anyN n q := bool_congr (by
  rw [anyN_iff, anyN_iff]
  exact ⟨fun ⟨x, hx, z⟩ => ⟨x, hx, by rw [← h x hx]; exact z⟩, fun ⟨x, hx, z⟩ => ⟨x, hx, by rw [h x hx]; exact z⟩⟩)
theorem rgD_rng (n : Nat) : rgD 0 n = lstN (List.range n) := by
  unfold rgD lstN
  refine List.map_congr_left fun i _ => ?_
  show D.int (0 + (i : Nat)) = _
  rw [Int.zero_add]
theorem lstR_get {n i : Nat} {d : D} (h : (lstN (List.range n))[i]? = some d) : i < n ∧ d = .int (i : Nat) := by
  unfold lstN at h
  rw [List.getElem?_map] at h
  by_cases hi : i < n
  · rw [List.getElem?_range hi] at h
    exact ⟨hi, (Option.some.inj h).symm⟩
  · rw [List.getElem?_eq_none (by rw [List.length_range]; omega)] at h
    cases h
theorem lstR_len (n : Nat) : (lstN (List.range n)).length = n := by rw [lstN_len, List.length_range]
/-- the first of a list, or None -/
def hdD : List Nat → D
  | [] => .non
  | a :: _ => .int (a : Nat)
section
variable {K : PySem.W.Frag} {β : Bas} {env : Env'} {ta tb te tc to tl : TE} {tt tu : TT} {x y z d : D} {v : V} {w : World} {wi : TI} {n j : Nat} {vs : List Nat}
theorem ei_rngN (h : EV K β tl env (.rng 0 (n : Nat))) (hl : n < 1000000) : EVI K β (iRngO tl) env (lstN (List.range n)) := by
  have h1 := ei_rngO h (by omega)
  rw [show ((n : Nat) : Int) - 0 = (n : Int) by omega, Int.toNat_natCast, rgD_rng] at h1
  exact h1
theorem ei_rng1N (h : EV K β te env (.int (n : Nat))) (hl : n < 1000000) : EVI K β (iRng1 (tCons te tNil)) env (lstN (List.range n)) := by
  have h1 := ei_rng1 (ea_cons h ea_nil) (by omega) (by omega)
  rw [Int.toNat_natCast, rgD_rng] at h1
  exact h1
theorem ev_lcI {f : Nat → Bool} {F : Nat → D} (hI : EVI K β wi env (lstN (List.range n))) (hl : n < 1000000) (hj : j ∈ vs)
    (hs : ∀ (x : Nat) v, x < n → EVT K β tt ((wipeE env vs).set j (.val v (.int (x : Nat)))) (f x) ∧ (f x = true → EV K β te ((wipeE env vs).set j (.val v (.int (x : Nat)))) (F x))) :
    EV K β (tLc wi (gName j) tt te vs) env (.lst (keep f F n)) := by
  have h := ev_lcN (K := K) (β := β) (te := te) (tt := tt) (F := F) (f := f) hI (by rw [lstR_len, sizeLine_eq]; omega) hj (fun i v d hd => by
    obtain ⟨hi, rfl⟩ := lstR_get hd
    exact hs i v hi)
  rw [lstR_len] at h
  exact h
theorem ev_fltI {p : Nat → Bool} (hI : EVI K β wi env (lstN (List.range n))) (hl : n < 1000000) (hj : j ∈ vs)
    (hs : ∀ (x : Nat) v, x < n → EVT K β tt ((wipeE env vs).set j (.val v (.int (x : Nat)))) (p x)) (he : ∀ (x : Nat) v, x < n → EV K β te ((wipeE env vs).set j (.val v (.int (x : Nat)))) (.int (x : Nat))) :
    EV K β (tLc wi (gName j) tt te vs) env (.lst (lstN (fltN n p))) :=
  ev_lcI (F := fun x => .int (x : Nat)) hI hl hj fun x v hx => ⟨hs x v hx, fun _ => he x v hx⟩
theorem ev_mapI {F : Nat → D} (hI : EVI K β wi env (lstN (List.range n))) (hl : n < 1000000) (hj : j ∈ vs)
    (hs : ∀ (x : Nat) v, x < n → EV K β te ((wipeE env vs).set j (.val v (.int (x : Nat)))) (F x)) :
    EV K β (tLc wi (gName j) tYes te vs) env (.lst ((List.range n).map F)) := by
  rw [← keep_all]
  exact ev_lcI hI hl hj fun x v hx => ⟨et_yes, fun _ => hs x v hx⟩
theorem ev_allI {q : Nat → Bool} (hI : EVI K β wi env (lstN (List.range n))) (hl : n < 1000000) (hj : j ∈ vs)
    (hs : ∀ (x : Nat) v, x < n → EV K β te ((wipeE env vs).set j (.val v (.int (x : Nat)))) (.bl (q x))) :
    EV K β (tCB (rAll K) (tCons (tLc wi (gName j) tYes te vs) tNil)) env (.bl (allN n q)) := by
  have h := ev_mapI (F := fun x => .bl (q x)) hI hl hj hs
  rw [show ((List.range n).map fun x => D.bl (q x)) = ((List.range n).map q).map D.bl by rw [List.map_map]; rfl] at h
  refine ev_is (ev_cb (ea_cons h ea_nil) cb_all) ?_
  unfold allN
  rw [List.all_map]
  rfl
theorem ev_anyI {q : Nat → Bool} (hI : EVI K β wi env (lstN (List.range n))) (hl : n < 1000000) (hj : j ∈ vs)
    (hs : ∀ (x : Nat) v, x < n → EV K β te ((wipeE env vs).set j (.val v (.int (x : Nat)))) (.bl (q x))) :
    EV K β (tCB (rAny K) (tCons (tLc wi (gName j) tYes te vs) tNil)) env (.bl (anyN n q)) := by
  have h := ev_mapI (F := fun x => .bl (q x)) hI hl hj hs
  rw [show ((List.range n).map fun x => D.bl (q x)) = ((List.range n).map q).map D.bl by rw [List.map_map]; rfl] at h
  refine ev_is (ev_cb (ea_cons h ea_nil) cb_any) ?_
  unfold anyN
  rw [List.any_map]
  rfl
theorem op_eqN {a b : Nat} : OpD K rEq (.int (a : Nat)) (.int (b : Nat)) (.bl (decide (a = b))) := by
  have h := op_eqI (K := K) (i := (a : Nat)) (j := (b : Nat))
  rw [decide_eq_decide.mpr (show ((a : Nat) : Int) = ((b : Nat) : Int) ↔ a = b by omega)] at h
  exact h
theorem op_neLN {l : List Nat} : OpD K (rNeD K) (.lst (lstN l)) (.lst []) (.bl (!decide (l = []))) := op_neLL (b := [])
theorem op_neTN {l : List Nat} : OpD K (rNeD K) (tupN l) (.tup []) (.bl (!decide (l = []))) := op_neTT (b := [])
theorem ev_hdI {l : List Nat} (h : EV K β te env (.lst (lstN l))) (ht : EVT K β tt env (!decide (l = []))) : EV K β (tIf tt (tOp (rIx K) te (tC (.int 0))) (tC .non)) env (hdD l) := by
  cases l with
  | nil => exact ev_if (b := false) ht (fun h => nomatch h) fun _ => ev_non
  | cons a l => exact ev_if (b := true) ht (fun _ => ev_op h (ev_int (i := 0)) (op_ix (.inr rfl) (atI_natD (j := 0) rfl))) fun h => nomatch h
theorem un_tupN {l : List Nat} : UnD K (kTup K) (.lst (lstN l)) (tupN l) := un_tupL
/-- the rows of a table as numbers -/
theorem cb_setRow {f : Nat → Nat} (hl : n ≤ 4000) : CbD K (rSetOf K w) [rowD n f] (setW w ((List.range n).map fun y => ((f y : Nat) : Int))) :=
  cb_setOf (.inl (by unfold rowD; rw [List.map_map]; rfl)) (by simp; omega)
end
end DL

set_option Elab.async false
set_option linter.all false
set_option maxRecDepth 100000
set_option maxHeartbeats 2000000
/-! dicts: as data, and as a thing of one's own -/
namespace DL
open PySem PySem.Spec PyProof.Rows L2
def valD (kds : List (Key × D)) (k : Key) : Option D := (kds.find? fun kv => decide (kv.1 = k)).map (·.2)
def putD (kds : List (Key × D)) (k : Key) (d : D) : List (Key × D) :=
  if (kds.any fun kv => decide (kv.1 = k)) = true then kds.map (fun kv => if kv.1 = k then (kv.1, d) else kv) else kds ++ [(k, d)]
section
variable {K : PySem.W.Frag} {G : Hp} {k : Key} {v : V} {d : D}
theorem DatK.anyK : ∀ {kvs : List (Key × V)} {kds : List (Key × D)}, DatK K G kvs kds → (kvs.any fun kv => decide (kv.1 = k)) = (kds.any fun kv => decide (kv.1 = k))
  | _, _, .nil => rfl
  | _, _, .cons _ t => by rw [List.any_cons, List.any_cons, DatK.anyK t]
theorem DatK.repl (hv : Dat K G v d) : ∀ {kvs : List (Key × V)} {kds : List (Key × D)}, DatK K G kvs kds → DatK K G (kvs.map fun kv => if kv.1 = k then (kv.1, v) else kv) (kds.map fun kv => if kv.1 = k then (kv.1, d) else kv)
  | _, _, .nil => .nil
  | _, _, .cons (k := j) a t => by
    rw [List.map_cons, List.map_cons]
    by_cases c : j = k
    · rw [if_pos c, if_pos c]; exact .cons hv (DatK.repl hv t)
    · rw [if_neg c, if_neg c]; exact .cons a (DatK.repl hv t)
theorem DatK.snoc (hv : Dat K G v d) : ∀ {kvs : List (Key × V)} {kds : List (Key × D)}, DatK K G kvs kds → DatK K G (kvs ++ [(k, v)]) (kds ++ [(k, d)])
  | _, _, .nil => .cons hv .nil
  | _, _, .cons a t => .cons a (DatK.snoc hv t)
theorem DatK.put {kvs : List (Key × V)} {kds : List (Key × D)} (h : DatK K G kvs kds) (hv : Dat K G v d) : DatK K G (putK kvs k v) (putD kds k d) := by
  unfold putK putD
  rw [h.anyK]
  split
  · exact h.repl hv
  · exact h.snoc hv
theorem DatK.keys : ∀ {kvs : List (Key × V)} {kds : List (Key × D)}, DatK K G kvs kds → kvs.map (·.1) = kds.map (·.1)
  | _, _, .nil => rfl
  | _, _, .cons _ t => by rw [List.map_cons, List.map_cons, DatK.keys t]
theorem DatK.length : ∀ {kvs : List (Key × V)} {kds : List (Key × D)}, DatK K G kvs kds → kvs.length = kds.length
  | _, _, .nil => rfl
  | _, _, .cons _ t => by rw [List.length_cons, List.length_cons, DatK.length t]
theorem valD_pos {j : Key} {r : List (Key × D)} (e : j = k) : valD ((j, d) :: r) k = some d := by simp [valD, List.find?_cons, e]
theorem valD_neg {j : Key} {r : List (Key × D)} (e : ¬ j = k) : valD ((j, d) :: r) k = valD r k := by simp [valD, List.find?_cons, e]
theorem DatK.val : ∀ {kvs : List (Key × V)} {kds : List (Key × D)}, DatK K G kvs kds → (valD kds k = none ∧ valV kvs k = none) ∨ ∃ v d, valD kds k = some d ∧ valV kvs k = some v ∧ Dat K G v d
  | _, _, .nil => .inl ⟨rfl, rfl⟩
  | _, _, .cons (k := j) (v := v0) (d := d0) a t => by
    by_cases c : j = k
    · exact .inr ⟨v0, d0, valD_pos c, valV_pos (p := (j, v0)) c, a⟩
    · rw [valD_neg c, valV_neg (p := (j, v0)) c]
      exact DatK.val t
end
theorem valD_any (k : Key) : ∀ kds : List (Key × D), (kds.any fun kv => decide (kv.1 = k)) = (valD kds k).isSome
  | [] => rfl
  | (j, d) :: r => by
    rw [List.any_cons]
    by_cases c : j = k
    · rw [valD_pos c, decide_eq_true (show (j, d).1 = k from c)]; rfl
    · rw [valD_neg c, decide_eq_false (show ¬ (j, d).1 = k from c), Bool.false_or]; exact valD_any k r
/-! things of one's own -/
section
variable {K : PySem.W.Frag} {β : Bas} {env : Env'} {ta tb te tc to td ty tk : TE} {tt tu : TT} {x y z d : D} {v w : V} {P : Post} {W : WX} {ts tr : TS} {σ : Sg} {G H G' H' : Hp} {a p : Addr} {s s' : Sl} {i : Nat}
theorem nd_out (hs : ownA s = some a) : ∀ {env : Env'} {i : Nat}, env[i]? = some s → (env.filterMap ownA).Nodup → a ∉ (env.set i .un).filterMap ownA
  | [], _, e, _ => by simp at e
  | t :: env, 0, e, nd => by
    simp at e; subst e
    rw [List.filterMap_cons, hs] at nd
    exact (List.nodup_cons.mp nd).1
  | t :: env, i + 1, e, nd => by
    have e' : env[i]? = some s := by simpa using e
    have hm : a ∈ env.filterMap ownA := List.mem_filterMap.mpr ⟨_, List.mem_of_getElem? e', hs⟩
    rw [List.set_cons_succ, List.filterMap_cons]
    rw [List.filterMap_cons] at nd
    cases q : ownA t with
    | none => rw [q] at nd; exact nd_out hs e' nd
    | some b =>
      rw [q] at nd
      intro m
      rcases List.mem_cons.mp m with z | z
      · exact (List.nodup_cons.mp nd).1 (z ▸ hm)
      · exact nd_out hs e' (List.nodup_cons.mp nd).2 z
theorem nd_same (hs : ownA s' = ownA s) : ∀ {env : Env'} {i : Nat}, env[i]? = some s → (env.set i s').filterMap ownA = env.filterMap ownA
  | [], _, e => by simp at e
  | t :: env, 0, e => by
    simp at e; subst e
    rw [List.set_cons_zero, List.filterMap_cons, List.filterMap_cons, hs]
  | t :: env, i + 1, e => by
    rw [List.set_cons_succ, List.filterMap_cons, List.filterMap_cons, nd_same hs (env := env) (i := i) (by simpa using e)]
theorem SlsOk.putS {o : Option V} (h : SlOk K β G H o s) : ∀ {σ : Sg} {env : Env'} {i : Nat}, SlsOk K β G H σ env → σ[i]? = some o → SlsOk K β G H σ (env.set i s)
  | _, _, _, .nil, e => by simp at e
  | _, _, 0, .cons _ r, e => by simp at e; subst e; exact .cons h r
  | _, _, i + 1, .cons x r, e => .cons x (SlsOk.putS h r (by simpa using e))
/-- a thing of one's own is written -/
theorem Good.writeAny {u : HO} (g : Good K β σ env G H) (e : env[i]? = some s) (hs : ownA s = some a) (hs' : ownA s' = some a) (hb : β.H a = none ∨ β.bx = some a) (hG : G a = none) (hσ : σ[i]? = some (some (V.ref a))) (ho : SlOk K β G (upd H a u) (some (V.ref a)) s') :
    Good K β σ (env.set i s') G (upd H a u) := by
  refine ⟨g.gg, fun b o hb' h => ?_, fun b o h => ?_, g.ow, fun b h => ?_, ?_, by rw [nd_same (by rw [hs, hs']) e]; exact g.nd⟩
  · have : b ≠ a := fun z => by
      subst z
      rcases hb with z | z
      · rw [z] at h; cases h
      · exact hb' z
    rw [upd_ne this]; exact g.hh b o hb' h
  · have : b ≠ a := fun z => by subst z; rw [hG] at h; cases h
    rw [upd_ne this]; exact g.gh b o h
  · by_cases z : b = a
    · subst z; rw [upd_same]; exact (fun e => nomatch e)
    · rw [upd_ne z]; exact g.bh b h
  · have h1 := SlsOk.putS ho ((g.forget i).sl.wr (a := a) (ho := u) (nd_out hs e g.nd)) hσ
    rw [List.set_set] at h1
    exact h1
/-- a new thing of one's own -/
theorem Good.newAny {u : HO} (g : Good K β σ env G H) (hi : i < env.length) (hn : H a = none) (hs : ownA s = some a) (ho : SlOk K β G (upd H a u) (some (V.ref a)) s) : Good K β (σ.set i (some (V.ref a))) (env.set i s) G (upd H a u) := by
  have g1 := g.newOwn (a := a) (ds := []) (xs := []) i hn .nil
  have e1 : (env.set i (.own a []))[i]? = some (.own a []) := List.getElem?_set_self hi
  obtain ⟨h1, h2, h3, _⟩ := g1.own e1
  have eu : upd (upd H a (.lst [])) a u = upd H a u := by
    funext b
    by_cases hb : b = a
    · rw [hb, upd_same, upd_same]
    · rw [upd_ne hb, upd_ne hb, upd_ne hb]
  have g2 := g1.writeAny (s' := s) (u := u) e1 rfl hs h2 h3 h1 (by rw [eu]; exact ho)
  rw [eu, List.set_set] at g2
  exact g2
/-- one that a step has made -/
theorem Good.takeAny {u : HO} (g : Good K β σ env G H) (t : Stp G H G' H') (hi : i < env.length) (hn : H p = none) (hG : G' p = none) (hp : H' p = some u) (hs : ownA s = some p) (ho : SlOk K β G' H' (some (V.ref p)) s) :
    Good K β (σ.set i (some (V.ref p))) (env.set i s) G' H' := by
  have t2 : Stp G H G' (fun b => if b = p then none else H' b) := ⟨t.gg, fun a o e => by
      have : a ≠ p := fun z => by rw [z, hn] at e; cases e
      show (if a = p then none else H' a) = some o
      rw [if_neg this]; exact t.hh a o e, fun a o e => by
      have : a ≠ p := fun z => by rw [z, hG] at e; cases e
      show (if a = p then none else H' a) = some o
      rw [if_neg this]; exact t.gh a o e, t.ow⟩
  have e : upd (fun b => if b = p then none else H' b) p u = H' := by
    funext b
    by_cases hb : b = p
    · rw [hb, upd_same, hp]
    · rw [upd_ne hb]; exact if_neg hb
  have g2 := (g.up t2).newAny (i := i) (a := p) (s := s) (u := u) hi (if_pos rfl) hs (by rw [e]; exact ho)
  rw [e] at g2
  exact g2
/-- one's own thing becomes data -/
theorem Good.commitAny {u : HO} (g : Good K β σ env G H) (e : env[i]? = some s) (hs : ownA s = some a) (hβ : β.H a = none) (hG : G a = none) (hu : H a = some u) (hσ : σ[i]? = some (some (V.ref a))) (hd : Dat K (upd G a u) (.ref a) d) : Good K β σ (env.set i (.val (.ref a) d)) (upd G a u) H := by
  have g1 := (g.forget i).gain hG (nd_out hs e g.nd) hβ hu
  have h1 := SlsOk.putS (s := .val (.ref a) d) ⟨rfl, hd⟩ g1.sl hσ
  rw [List.set_set] at h1
  refine ⟨g1.gg, g1.hh, g1.gh, g1.ow, g1.bh, h1, ?_⟩
  have := (nd_set (s := .val (.ref a) d) rfl i (env := env) g.nd).1
  exact this
variable (K β) in
/-- an expression that gives a new dict, which is in no view -/
def EVN (te : TE) (env : Env') (kds : List (Key × D)) : Prop := ∀ σ G H, Good K β σ env G H → ∀ Q : VK, (∀ p kvs G' H', Stp G H G' H' → H p = none → G' p = none → H' p = some (.dK kvs) → DatK K G' kvs kds → Q (.ref p) H') → te σ H Q
theorem EVN.ev {kds : List (Key × D)} (h : EVN K β te env kds) : EV K β te env (.dct kds) := fun σ G H g Q q => h σ G H g Q fun p kvs G' H' t hn hG hp hd => q (.ref p) (upd G' p (.dK kvs)) H' (t.take hn hG hp) (.dct upd_same (hd.up (.new hG)))
theorem evn_new : EVN K β tDNewK env [] := fun σ G H g Q q p hp => q p [] G _ ((Stp.refl g.gh).side hp (g.gh.back hp)) hp (g.gh.back hp) upd_same .nil
/-- x = a new dict, one's own -/
theorem ex_newD {kds : List (Key × D)} (he : EVN K β te env kds) (hi : i < env.length) (h : ∀ a, P.nx (env.set i (.odi a kds))) : EX K β W (tAsg te (gName i)) env P := fun σ G H g Dn c x =>
  he σ G H g _ fun p kvs G1 H1 t1 hn hG hp hd => by
    have hβ : β.H p = none := by
      cases q : β.H p with
      | none => rfl
      | some o => exact absurd hn (g.hn (by rw [q]; exact (fun e => nomatch e)))
    exact c.nx _ _ G1 H1 (g.takeAny (s := .odi p kds) t1 hi hn hG hp rfl ⟨rfl, .inl hβ, hG, kvs, hp, hd⟩) t1.gg (h p)
theorem ex_newDS {kds : List (Key × D)} (he : EVN K β te env kds) (hi : i < env.length) (h : ∀ a, EX K β W tr (env.set i (.odi a kds)) P) : EX K β W (tSeq (tAsg te (gName i)) tr) env P :=
  ex_seq (N := fun e => ∃ a, e = env.set i (.odi a kds)) (ex_newD he hi fun a => ⟨a, rfl⟩) fun e ⟨a, q⟩ => q ▸ h a
/-- x[k] = e -/
theorem ex_dput {kds : List (Key × D)} {k : Int} (hi : env[i]? = some (.odi a kds)) (he : EV K β te env d) (hk : EV K β ty env (.int k)) (hl : kds.length < sizeLine) (h : P.nx (env.set i (.odi a (putD kds (.inl k) d)))) :
    EX K β W (sDPut (tVar i) ty te) env P := fun σ G H g Dn c x =>
  he σ G H g _ fun v G1 H1 t1 dv => by
    have g1 := g.up t1
    obtain ⟨h1, _⟩ := g1.odi hi
    refine ⟨.ref a, h1, hk σ G1 H1 g1 _ fun u G2 H2 t2 du => ?_⟩
    have g2 := g1.up t2
    obtain ⟨h1, h2, h3, kvs, h4, h5⟩ := g2.odi hi
    rw [du.intV]
    refine ⟨a, _, rfl, DPut.k (k := .inl k) h4 (by rw [h5.length]; exact hl), ?_⟩
    exact c.nx _ _ G2 _ (g2.writeAny (s' := .odi a (putD kds (.inl k) d)) hi rfl rfl h2 h3 h1 ⟨rfl, h2, h3, _, upd_same, h5.put (dv.up t2.gg)⟩) (t1.gg.trans t2.gg) h
/-- k in x, k not in x: x one's own -/
theorem ev_dinO {kds : List (Key × D)} {k : Int} (hi : env[i]? = some (.odi a kds)) (hk : EV K β ty env (.int k)) : EV K β (tDIn ty (tVar i)) env (.bl (valD kds (.inl k)).isSome) := fun σ G H g Q q =>
  hk σ G H g _ fun u G1 H1 t1 du => by
    obtain ⟨h1, h2, h3, kvs, h4, h5⟩ := (g.up t1).odi hi
    refine ⟨.ref a, h1, a, valV kvs (.inl k), rfl, by rw [du.intV]; exact DGet.k (k := .inl k) h4, ?_⟩
    have e : (valV kvs (.inl k)).isSome = (valD kds (.inl k)).isSome := by rcases h5.val (k := .inl k) with ⟨e1, e2⟩ | ⟨v, d, e1, e2, _⟩ <;> rw [e1, e2] <;> rfl
    rw [e]
    exact q _ G1 H1 t1 (.bl _)
theorem ev_dnotinO {kds : List (Key × D)} {k : Int} (hi : env[i]? = some (.odi a kds)) (hk : EV K β ty env (.int k)) : EV K β (tDNotIn ty (tVar i)) env (.bl (!(valD kds (.inl k)).isSome)) := fun σ G H g Q q =>
  hk σ G H g _ fun u G1 H1 t1 du => by
    obtain ⟨h1, h2, h3, kvs, h4, h5⟩ := (g.up t1).odi hi
    refine ⟨.ref a, h1, a, valV kvs (.inl k), rfl, by rw [du.intV]; exact DGet.k (k := .inl k) h4, ?_⟩
    have e : (valV kvs (.inl k)).isSome = (valD kds (.inl k)).isSome := by rcases h5.val (k := .inl k) with ⟨e1, e2⟩ | ⟨v, d, e1, e2, _⟩ <;> rw [e1, e2] <;> rfl
    rw [e]
    exact q _ G1 H1 t1 (.bl _)
/-- x[k], x one's own -/
theorem ev_dgetO {kds : List (Key × D)} {k : Int} (hi : env[i]? = some (.odi a kds)) (hk : EV K β ty env (.int k)) (hd : valD kds (.inl k) = some d) : EV K β (tDGet (tVar i) ty) env d := fun σ G H g Q q => by
  obtain ⟨h1, _⟩ := g.odi hi
  refine ⟨.ref a, h1, hk σ G H g _ fun u G1 H1 t1 du => ?_⟩
  obtain ⟨_, h2, h3, kvs, h4, h5⟩ := (g.up t1).odi hi
  rcases h5.val (k := .inl k) with ⟨e1, _⟩ | ⟨v, d', e1, e2, dv⟩
  · rw [e1] at hd; cases hd
  · rw [e1] at hd
    cases hd
    exact ⟨a, v, rfl, by rw [du.intV]; exact .inl ⟨kvs, .inl k, .inl h4, rfl, e2.symm⟩, q v G1 H1 t1 dv⟩
/-- x[k], x data -/
theorem ev_dgetD {kds : List (Key × D)} {k : Int} (h : EV K β td env (.dct kds)) (hk : EV K β ty env (.int k)) (hd : valD kds (.inl k) = some d) : EV K β (tDGet td ty) env d := fun σ G H g Q q =>
  h σ G H g _ fun v0 G0 H0 t0 d0 => by
    refine hk σ G0 H0 (g.up t0) _ fun u G1 H1 t1 du => ?_
    cases d0 with
    | @dct a kvs _ h4 h5 =>
    rcases h5.val (k := .inl k) with ⟨e1, _⟩ | ⟨v, d', e1, e2, dv⟩
    · rw [e1] at hd; cases hd
    · rw [e1] at hd
      cases hd
      exact ⟨a, v, rfl, by rw [du.intV]; exact .inl ⟨kvs, .inl k, .inl (t1.gh _ _ (t1.gg _ _ h4)), rfl, e2.symm⟩, q v G1 H1 (t0.trans t1) (dv.up t1.gg)⟩
/-- return x: the dict is handed over -/
theorem ex_commitD {kds : List (Key × D)} (hi : env[i]? = some (.odi a kds)) (hb : ∀ σ G H, Good K β σ env G H → β.bx ≠ some a) (h : EX K β W ts (env.set i (.val (.ref a) (.dct kds))) P) : EX K β W ts env P := fun σ G H g Dn c x => by
  obtain ⟨h1, h2, h3, kvs, h4, h5⟩ := g.odi hi
  have g2 := g.commitAny hi rfl (h2.resolve_right (hb σ G H g)) h3 h4 h1 (.dct upd_same (h5.up (.new h3)))
  exact h σ _ H g2 Dn (c.up (.new h3)) (x.up (.new h3))
/-- {key: value for x in ..} -/
def keepD (f : Nat → Bool) (Fk : Nat → Int) (Fv : Nat → D) : Nat → List (Key × D)
  | 0 => []
  | n + 1 => if f n = true then putD (keepD f Fk Fv n) (.inl (Fk n)) (Fv n) else keepD f Fk Fv n
theorem putD_len (kds : List (Key × D)) (k : Key) (d : D) : (putD kds k d).length ≤ kds.length + 1 := by
  unfold putD
  split
  · rw [List.length_map]; omega
  · rw [List.length_append]; exact Nat.le_refl _
theorem keepD_len (f : Nat → Bool) (Fk : Nat → Int) (Fv : Nat → D) : ∀ n, (keepD f Fk Fv n).length ≤ n
  | 0 => Nat.le_refl _
  | n + 1 => by
    have := keepD_len f Fk Fv n
    unfold keepD
    split
    · have := putD_len (keepD f Fk Fv n) (.inl (Fk n)) (Fv n); omega
    · omega
theorem evn_dc {wi : TI} {j : Nat} {vs : List Nat} {ds : List D} {f : Nat → Bool} {Fk : Nat → Int} {Fv : Nat → D} (hI : EVI K β wi env ds) (hn : ds.length < 10000) (hj : j ∈ vs)
    (hs : ∀ i v d, ds[i]? = some d → EVT K β tt ((wipeE env vs).set j (.val v d)) (f i) ∧ (f i = true → EV K β tk ((wipeE env vs).set j (.val v d)) (.int (Fk i)) ∧ EV K β te ((wipeE env vs).set j (.val v d)) (Fv i))) :
    EVN K β (tDc wi (gName j) tt tk te vs) env (keepD f Fk Fv ds.length) := fun σ G H g0 Q q =>
  hI σ G H g0 _ fun J us G1 H1 t1 hd hJ Dl hD => by
    have hDH : H Dl = none := by
      cases z : H Dl with
      | none => rfl
      | some o => rw [t1.hh _ o z] at hD; cases hD
    refine ⟨fun i m H' => m = us.length - i ∧ i ≤ us.length ∧ ∃ G' kvs, Stp G1 H1 G' H' ∧ G' Dl = none ∧ H' Dl = some (.dK kvs) ∧ DatK K G' kvs (keepD f Fk Fv i),
      ⟨us.length, by simp, Nat.zero_le _, G1, [], (Stp.refl t1.gh).side hD (t1.gh.back hD), t1.gh.back hD, upd_same, .nil⟩, ?_⟩
    rintro i m H' ⟨rfl, hi, G', kvs, t2, hG, hacc, hda⟩
    by_cases hlt : i < us.length
    · have hx : us[i]? = some us[i] := List.getElem?_eq_getElem hlt
      obtain ⟨d, hdi, dx⟩ := hd.getV hx
      obtain ⟨hT, hE⟩ := hs i us[i] d hdi
      obtain ⟨hgo, hyl⟩ := (hJ i H' (t2.gg.trans t2.gh)).2 _ hx
      refine .inr ⟨hgo, fun H'' => ∃ G' kvs, Stp G1 H1 G' H'' ∧ G' Dl = none ∧ H'' Dl = some (.dK kvs) ∧ DatK K G' kvs (keepD f Fk Fv (i + 1)), fun H'' z => ⟨us.length - (i + 1), by omega, rfl, hlt, z⟩, fun x H'' hy => ?_⟩
      obtain ⟨rfl, rfl⟩ := hyl _ _ hy
      refine ⟨wipe_set σ vs j _ hj, ?_⟩
      have gB := (((g0.up t1).up t2).wipe vs).set j (dx.up t2.gg)
      refine hT _ _ _ gB _ fun G3 H3 t3 => ?_
      have a3 : G3 Dl = none := t3.ow _ hG (by rw [hacc]; exact (fun e => nomatch e))
      cases hf : f i with
      | false =>
        rw [if_neg Bool.false_ne_true]
        exact ⟨G3, kvs, t2.trans t3, a3, t3.hh _ _ hacc, by unfold keepD; rw [if_neg (by rw [hf]; exact Bool.false_ne_true)]; exact hda.up t3.gg⟩
      | true =>
        rw [if_pos rfl]
        obtain ⟨hk, hv⟩ := hE hf
        refine hk _ _ _ (gB.up t3) _ fun y G4 H4 t4 dy => hv _ _ _ ((gB.up t3).up t4) _ fun z G5 H5 t5 dz => ?_
        have a4 : G4 Dl = none := t4.ow _ a3 (by rw [t3.hh _ _ hacc]; exact (fun e => nomatch e))
        have h4 : H4 Dl = some (.dK kvs) := t4.hh _ _ (t3.hh _ _ hacc)
        have a5 : G5 Dl = none := t5.ow _ a4 (by rw [h4]; exact (fun e => nomatch e))
        refine ⟨kvs, .inl (Fk i), dy.intV, t5.hh _ _ h4, ?_, G5, _, (((t2.trans t3).trans t4).trans t5).side hD a5, a5, upd_same, ?_⟩
        · rw [hda.length, sizeLine_eq]
          have := keepD_len f Fk Fv i
          have := hd.length
          omega
        · unfold keepD
          rw [if_pos hf]
          exact (hda.up ((t3.gg.trans t4.gg).trans t5.gg)).put dz
    · have hil : i = us.length := by omega
      refine .inl ⟨(hJ i H' (t2.gg.trans t2.gh)).1 hil, ?_⟩
      rw [hil, hd.length] at hda
      exact q Dl kvs G' H' (t1.trans t2) hDH hG hacc hda
/-! sorted(d), the keys numbers -/
def rSortDI : List V → Hp → VK → Prop := fun xs H Q => ∃ (a : Addr) (kvs : List (Key × V)) (ks : List Int), xs = [.ref a] ∧ Rd H a (.dK kvs) ∧ kvs.map (·.1) = ks.map Sum.inl ∧ ks.length < 64 ∧
  ∀ (ys : List Int) (p : Addr), ys.Perm ks → ys.Pairwise (· ≤ ·) → H p = none → Q (.ref p) (upd H p (.lst (ys.map V.int)))
theorem call_sortDI {X : Cx} (hc : X.calm = true := by rfl) : CallR X (.builtin "sorted") rSortDI := call_sortedDI hc
theorem le_unique : ∀ {a b : List Int}, a.Perm b → a.Pairwise (· ≤ ·) → b.Pairwise (· ≤ ·) → a = b := fun {a b} h ha hb => h.eq_of_pairwise (fun x y _ _ h1 h2 => Int.le_antisymm h1 h2) ha hb
theorem cb_sortDI {kds : List (Key × D)} {ks L : List Int} (hk : kds.map (·.1) = ks.map Sum.inl) (h64 : ks.length < 64) (hp : L.Perm ks) (hL : L.Pairwise (· ≤ ·)) : CbD K rSortDI [.dct kds] (.lst (L.map D.int)) := fun G H vs e dl Q q => by
  cases dl with | cons dv t =>
  cases t
  cases dv with
  | @dct a kvs _ h1 h2 =>
  refine ⟨a, kvs, ks, rfl, .inl (e _ _ h1), by rw [h2.keys, hk], h64, fun ys p h3 h4 hn => ?_⟩
  have e2 : ys = L := le_unique (h3.trans hp.symm) h4 hL
  subst e2
  exact q _ (upd G p _) _ (.new e hn) (.lst upd_same (DatL.ints _))
/-! a starred item -/
theorem ea_star {ds es : List D} {t : TA} (h : EV K β te env (.tup ds)) (hr : EVA K β t env es) : EVA K β (StX.tStar K te t) env (ds ++ es) := fun σ G H g Q q =>
  h σ G H g _ fun v G1 H1 t1 d1 => by
    obtain ⟨a, xs, rfl, ht, hd⟩ := d1.tupV
    exact ⟨a, xs, rfl, .inl (ex_t t1.gh ht), hr σ G1 H1 (g.up t1) _ fun ys G2 H2 t2 d2 => q _ G2 H2 (t1.trans t2) ((hd.up t2.gg).append d2)⟩
end
theorem pa_starK (K : PySem.W.Frag) {X : Cx} {e : Expr} {es : List Expr} {te : TE} {t : TA} {p : Pos} (he : PE X e te) (hr : PA X es t) (hs : starEach (.Starred e p :: es) X.env = (true, eval e X.env) :: starEach es X.env := by rfl) (h : X.K = K := by rfl) : PA X (.Starred e p :: es) (StX.tStar K te t) := h ▸ StX.pa_star he hr hs
end DL

set_option Elab.async false
set_option linter.all false
set_option maxRecDepth 100000
set_option maxHeartbeats 2000000
/-! expressions that give a new list; dicts of words -/
namespace DL
open PySem PySem.Spec PyProof.Rows L2
section
variable {K : PySem.W.Frag} {β : Bas} {env : Env'} {ta tb te tc to td ty tk : TE} {tt tu : TT} {x y z d d2 : D} {v : V} {P : Post} {W : WX} {ts tr : TS} {i j k : Nat} {ds : List D}
variable (K β) in
/-- an expression that gives a new list, which is in no view -/
def EVL (te : TE) (env : Env') (ds : List D) : Prop := ∀ σ G H, Good K β σ env G H → ∀ Q : VK, (∀ p xs G' H', Stp G H G' H' → H p = none → G' p = none → H' p = some (.lst xs) → DatL K G' xs ds → Q (.ref p) H') → te σ H Q
theorem EVL.evf (h : EVL K β te env ds) : EVf K β te env (.lst ds) := fun σ G H g Q q => h σ G H g Q fun p xs G' H' t hn hG hp hd => q (.ref p) (upd G' p (.lst xs)) H' (t.take hn hG hp) (.lst upd_same (hd.up (.new hG))) fun _ _ => ⟨p, rfl, hn⟩
theorem EVL.ev (h : EVL K β te env ds) : EV K β te env (.lst ds) := h.evf.ev
theorem el_is {es : List D} (h : EVL K β te env ds) (q : ds = es) : EVL K β te env es := q ▸ h
theorem el_listOf (h : EV K β te env (.lst ds)) : EVL K β (tCB (rListOf K) (tCons te tNil)) env ds := fun σ G H g Q q =>
  h σ G H g _ fun v G1 H1 t1 d1 => by
    obtain ⟨a, xs, rfl, ha, hx⟩ := d1.lstV
    refine ⟨a, xs, rfl, .inl (.inl (.inl (t1.gh _ _ ha))), fun p hp => ?_⟩
    have hG : G1 p = none := t1.gh.back hp
    have hn : H p = none := by
      cases z : H p with
      | none => rfl
      | some o => rw [t1.hh _ o z] at hp; cases hp
    exact q p xs G1 _ (t1.side hn hG) hn hG upd_same hx
theorem el_sortedS {w : World} {S : Int → Bool} {n : Nat} {L : List Int} (h : EV K β te env (.set w S n)) (hn : n < 64) (hL : L.Pairwise (· < ·)) (hm : ∀ k, k ∈ L ↔ S k = true) : EVL K β (tCB (rSortedSet w) (tCons te tNil)) env (L.map D.int) := fun σ G H g Q q =>
  h σ G H g _ fun v G1 H1 t1 d1 => by
    cases d1 with
    | set ha =>
    refine ⟨_, S, n, rfl, t1.gh _ _ ha, hn, fun ns p h1 h2 h3 hp => ?_⟩
    have e2 : ns = L := ris_unique h1 hL fun k => by rw [h2, hm]
    subst e2
    have hG : G1 p = none := t1.gh.back hp
    have hn : H p = none := by
      cases z : H p with
      | none => rfl
      | some o => rw [t1.hh _ o z] at hp; cases hp
    exact q p _ G1 _ (t1.side hn hG) hn hG upd_same (DatL.ints _)
theorem el_lc {wi : TI} {j : Nat} {vs : List Nat} {ds : List D} {f : Nat → Bool} {F : Nat → D} (hI : EVI K β wi env ds) (hn : ds.length < sizeLine) (hj : j ∈ vs)
    (hs : ∀ i v d, ds[i]? = some d → EVT K β tt ((wipeE env vs).set j (.val v d)) (f i) ∧ (f i = true → EV K β te ((wipeE env vs).set j (.val v d)) (F i))) :
    EVL K β (tLc wi (gName j) tt te vs) env (keep f F ds.length) := fun σ G H g0 Q q =>
  hI σ G H g0 _ fun J us G1 H1 t1 hd hJ Dl hD => by
    have hDH : H Dl = none := by
      cases z : H Dl with
      | none => rfl
      | some o => rw [t1.hh _ o z] at hD; cases hD
    refine ⟨fun i m H' => m = us.length - i ∧ i ≤ us.length ∧ ∃ G' acc, Stp G1 H1 G' H' ∧ G' Dl = none ∧ H' Dl = some (.lst acc) ∧ DatL K G' acc (keep f F i),
      ⟨us.length, by simp, Nat.zero_le _, G1, [], (Stp.refl t1.gh).side hD (t1.gh.back hD), t1.gh.back hD, upd_same, .nil⟩, ?_⟩
    rintro i m H' ⟨rfl, hi, G', acc, t2, hG, hacc, hda⟩
    by_cases hlt : i < us.length
    · have hx : us[i]? = some us[i] := List.getElem?_eq_getElem hlt
      obtain ⟨d, hdi, dx⟩ := hd.getV hx
      obtain ⟨hT, hE⟩ := hs i us[i] d hdi
      obtain ⟨hgo, hyl⟩ := (hJ i H' (t2.gg.trans t2.gh)).2 _ hx
      refine .inr ⟨hgo, fun H'' => ∃ G' acc, Stp G1 H1 G' H'' ∧ G' Dl = none ∧ H'' Dl = some (.lst acc) ∧ DatL K G' acc (keep f F (i + 1)), fun H'' z => ⟨us.length - (i + 1), by omega, rfl, hlt, z⟩, fun x H'' hy => ?_⟩
      obtain ⟨rfl, rfl⟩ := hyl _ _ hy
      refine ⟨wipe_set σ vs j _ hj, ?_⟩
      have gB := (((g0.up t1).up t2).wipe vs).set j (dx.up t2.gg)
      refine hT _ _ _ gB _ fun G3 H3 t3 => ?_
      have a3 : G3 Dl = none := t3.ow _ hG (by rw [hacc]; exact (fun e => nomatch e))
      cases hf : f i with
      | false =>
        rw [if_neg Bool.false_ne_true]
        exact ⟨G3, acc, t2.trans t3, a3, t3.hh _ _ hacc, by rw [keep_no hf]; exact hda.up t3.gg⟩
      | true =>
        rw [if_pos rfl]
        refine hE hf _ _ _ (gB.up t3) _ fun y G4 H4 t4 dy => ?_
        have a4 : G4 Dl = none := t4.ow _ a3 (by rw [t3.hh _ _ hacc]; exact (fun e => nomatch e))
        refine ⟨acc, t4.hh _ _ (t3.hh _ _ hacc), ?_, G4, acc ++ [y], ((t2.trans t3).trans t4).side hD a4, a4, upd_same, ?_⟩
        · rw [hda.length]
          have := keep_len f F i
          have := hd.length
          omega
        · rw [keep_yes hf]
          exact (hda.up (t3.gg.trans t4.gg)).append (.one dy)
    · have hil : i = us.length := by omega
      refine .inl ⟨(hJ i H' (t2.gg.trans t2.gh)).1 hil, ?_⟩
      rw [hil, hd.length] at hda
      exact q Dl acc G' H' (t1.trans t2) hDH hG hacc hda
/-- x = a new list, one's own -/
theorem ex_newL (he : EVL K β te env ds) (h : ∀ a, P.nx (env.set i (.own a ds))) : EX K β W (tAsg te (gName i)) env P :=
  fun σ G H g Dn c x => he σ G H g _ fun p xs G1 H1 t1 hn hG hp hd => c.nx _ _ G1 H1 (g.takeOwn t1 i hn hG hp hd) t1.gg (h p)
theorem ex_newLS (he : EVL K β te env ds) (h : ∀ a, EX K β W tr (env.set i (.own a ds)) P) : EX K β W (tSeq (tAsg te (gName i)) tr) env P :=
  ex_seq (N := fun e => ∃ a, e = env.set i (.own a ds)) (ex_newL he fun a => ⟨a, rfl⟩) fun e ⟨a, q⟩ => q ▸ h a
/-- x, y = a new list, e: x one's own -/
theorem ex_parNewL (he : EVL K β te env ds) (h2 : EV K β tb env d) (h : ∀ a v, P.nx ((env.set i (.own a ds)).set j (.val v d))) : EX K β W (tPar i j (tCons te (tCons tb tNil))) env P :=
  fun σ G H g Dn c x => he σ G H g _ fun p xs G1 H1 t1 hn hG hp hd => h2 σ G1 H1 (g.up t1) _ fun v G3 H3 t3 dv => by
    have hG3 : G3 p = none := t3.ow _ hG (by rw [hp]; exact (fun e => nomatch e))
    exact ⟨_, _, rfl, c.nx _ _ G3 H3 ((g.takeOwn (t1.trans t3) i hn hG3 (t3.hh _ _ hp) (hd.up t3.gg)).set j dv) (t1.trans t3).gg (h p v)⟩
theorem ex_parNewLS (he : EVL K β te env ds) (h2 : EV K β tb env d) (h : ∀ a v, EX K β W tr ((env.set i (.own a ds)).set j (.val v d)) P) : EX K β W (tSeq (tPar i j (tCons te (tCons tb tNil))) tr) env P :=
  ex_seq (N := fun e => ∃ a v, e = (env.set i (.own a ds)).set j (.val v d)) (ex_parNewL he h2 fun a v => ⟨a, v, rfl⟩) fun e ⟨a, v, q⟩ => q ▸ h a v
/-- x, y, z = a new dict, e, e': x one's own -/
theorem ex_par3D {kds : List (Key × D)} (he : EVN K β te env kds) (hi : i < env.length) (h1 : EV K β tb env d) (h2 : EV K β tc env d2)
    (h : ∀ a v u, EX K β W tr (((env.set i (.odi a kds)).set j (.val v d)).set k (.val u d2)) P) :
    EX K β W (tSeq (tAsg (tTup (tCons te (tCons tb (tCons tc tNil)))) (gTup K 3 (gCons (gName i) (gCons (gName j) (gCons (gName k) gNil))))) tr) env P :=
  ex_seq (N := fun e => ∃ a v u, e = ((env.set i (.odi a kds)).set j (.val v d)).set k (.val u d2)) (fun σ G H g Dn c x =>
    he σ G H g _ fun p kvs G1 H1 t1 hn hG hp hd => h1 σ G1 H1 (g.up t1) _ fun v G2 H2 t2 dv => h2 σ G2 H2 ((g.up t1).up t2) _ fun u G3 H3 t3 du => ⟨sz 3, fun q hq => by
      have hG2 : G2 p = none := t2.ow _ hG (by rw [hp]; exact (fun e => nomatch e))
      have hp2 := t2.hh _ _ hp
      have hG3 : G3 p = none := t3.ow _ hG2 (by rw [hp2]; exact (fun e => nomatch e))
      have hp3 := t3.hh _ _ hp2
      have hβ : β.H p = none := by
        cases q : β.H p with
        | none => rfl
        | some o => exact absurd hn (g.hn (by rw [q]; exact (fun e => nomatch e)))
      have t := (t1.trans t2).trans t3
      have g4 := ((g.takeAny (s := .odi p kds) t hi hn hG3 hp3 rfl ⟨rfl, .inl hβ, hG3, kvs, hp3, hd.up (t2.gg.trans t3.gg)⟩).set j (dv.up t3.gg)).set k du
      exact ⟨q, _, rfl, .of upd_same, rfl, _, _, rfl, _, _, rfl, _, _, rfl, rfl, c.nx _ _ G3 _ (g4.up ((Stp.refl g4.gh).side hq (g4.gh.back hq))) t.gg ⟨p, v, u, rfl⟩⟩⟩)
    fun e ⟨a, v, u, q⟩ => q ▸ h a v u
end
/-! the words of members -/
def kdsW (L : List (Nat × List Nat)) : List (Key × D) := L.map fun p => (.inl ((p.1 : Nat) : Int), tupN p.2)
theorem kdsW_len (L : List (Nat × List Nat)) : (kdsW L).length = L.length := by unfold kdsW; rw [List.length_map]
theorem kdsW_in (x : Nat) : ∀ L : List (Nat × List Nat), (valD (kdsW L) (.inl ((x : Nat) : Int))).isSome = decide (x ∈ L.map (·.1))
  | [] => rfl
  | p :: L => by
    show (valD ((.inl ((p.1 : Nat) : Int), tupN p.2) :: kdsW L) (.inl ((x : Nat) : Int))).isSome = _
    by_cases c : p.1 = x
    · rw [valD_pos (by rw [c])]
      exact (decide_eq_true (by rw [← c]; exact List.mem_cons_self)).symm
    · rw [valD_neg (fun e => c (by injection e with e; omega)), kdsW_in x L]
      refine decide_eq_decide.mpr ⟨fun h => List.mem_cons_of_mem _ h, fun h => ?_⟩
      rcases List.mem_cons.mp h with e | h
      · exact absurd e.symm c
      · exact h
theorem kdsW_get : ∀ {L : List (Nat × List Nat)} {p : Nat × List Nat}, (L.map (·.1)).Nodup → p ∈ L → valD (kdsW L) (.inl ((p.1 : Nat) : Int)) = some (tupN p.2)
  | q :: L, p, hn, hp => by
    show valD ((.inl ((q.1 : Nat) : Int), tupN q.2) :: kdsW L) (.inl ((p.1 : Nat) : Int)) = _
    obtain ⟨h1, h2⟩ := List.nodup_cons.mp hn
    rcases List.mem_cons.mp hp with e | hp
    · subst e
      exact valD_pos rfl
    · have c : q.1 ≠ p.1 := fun e => h1 (List.mem_map.mpr ⟨p, hp, e.symm⟩)
      rw [valD_neg (fun e => c (by injection e with e; omega))]
      exact kdsW_get h2 hp
theorem kdsW_put {L : List (Nat × List Nat)} {x : Nat} {w : List Nat} (h : x ∉ L.map (·.1)) : putD (kdsW L) (.inl ((x : Nat) : Int)) (tupN w) = kdsW (L ++ [(x, w)]) := by
  unfold putD
  rw [valD_any, kdsW_in, decide_eq_false h, if_neg Bool.false_ne_true]
  unfold kdsW
  rw [List.map_append]
  rfl
theorem kdsW_keys (L : List (Nat × List Nat)) : (kdsW L).map (·.1) = ((L.map (·.1)).map fun x => ((x : Nat) : Int)).map Sum.inl := by
  unfold kdsW
  rw [List.map_map, List.map_map, List.map_map]
  rfl
/-- what a comprehension over different numbers gives -/
theorem keepD_words {gs : List Nat} {F : Nat → List Nat} (hn : gs.Nodup) : ∀ m, m ≤ gs.length → keepD (fun _ => true) (fun i => ((gs.getD i 0 : Nat) : Int)) (fun i => tupN (F (gs.getD i 0))) m = kdsW ((gs.take m).map fun x => (x, F x))
  | 0, _ => rfl
  | m + 1, h => by
    have hm : m < gs.length := h
    have e : gs.getD m 0 = gs[m] := by rw [List.getD_eq_getElem?_getD, List.getElem?_eq_getElem hm]; rfl
    have et : gs.take (m + 1) = gs.take m ++ [gs[m]] := by rw [List.take_add_one, List.getElem?_eq_getElem hm]; rfl
    have hnew : gs[m] ∉ ((gs.take m).map fun x => (x, F x)).map (·.1) := fun z => by
      rw [List.map_map] at z
      obtain ⟨y, hy, ey⟩ := List.mem_map.mp z
      have ey : y = gs[m] := ey
      have := List.nodup_append.mp ((List.take_append_drop m gs).symm ▸ hn)
      refine this.2.2 y hy gs[m] ?_ ey
      rw [List.drop_eq_getElem_cons hm]
      exact List.mem_cons_self
    unfold keepD
    rw [if_pos rfl, keepD_words hn m (Nat.le_of_lt hm), e, kdsW_put hnew, et, List.map_append]
    rfl
/-- the members, each once, in order -/
def gensN (n : Nat) (ms : List Nat) : List Nat := fltN n fun x => decide (x ∈ ms)
theorem gensN_mem {n : Nat} {ms : List Nat} (h : ∀ x ∈ ms, x < n) (x : Nat) : x ∈ gensN n ms ↔ x ∈ ms := by
  unfold gensN fltN
  rw [List.mem_filter, List.mem_range, decide_eq_true_iff]
  exact ⟨fun z => z.2, fun z => ⟨h x z, z⟩⟩
theorem fltN_pw {n : Nat} {p : Nat → Bool} : (fltN n p).Pairwise (· < ·) := by
  unfold fltN
  exact List.Pairwise.filter _ List.pairwise_lt_range
theorem fltN_nd {n : Nat} {p : Nat → Bool} : (fltN n p).Nodup := by
  unfold fltN
  exact List.nodup_range.sublist List.filter_sublist
theorem fltN_le {n : Nat} {p : Nat → Bool} : (fltN n p).length ≤ n := by
  have := List.length_filter_le p (List.range n)
  rw [List.length_range] at this
  exact this
theorem fltN_ipw {n : Nat} {p : Nat → Bool} : ((fltN n p).map fun x => ((x : Nat) : Int)).Pairwise (· < ·) := by
  rw [List.pairwise_map]
  exact fltN_pw.imp fun h => by omega
end DL

set_option Elab.async false
set_option linter.all false
set_option maxRecDepth 100000
set_option maxHeartbeats 2000000
/-! name = {..} on one line (modelled on the library's rule for lists) -/
namespace DL
open PySem PySem.Sem PySem.Spec PyProof.Rows L2
section
variable {X : Cx}
theorem ps_setDc {i : Nat} {y : Str} {py : Pos} {kx vx tg iter : Expr} {ifs : List Expr} {scope : Scope} {own : List (Str × Nat)} {pos spos : Pos} {wi : TI} {g : TG} {tt : TT} {tk tv : TE} (hc : X.calm = true) (hN : X.N.Nodup) (hy : X.N[i]? = some y) (hyl : X.env.scope.names.lookup y = some .local)
    (hsw : swapsWith (.DictComp kx vx [⟨tg, iter, ifs, 0⟩] scope pos) (some (.Name y py)) spos.line X.env = pure true) (hi : PI X tg iter wi) (ok : BlkOk X.N X.env.scope scope own)
    (hg : ∀ (s : Shared) (H : Hp) (C : Addr) (cl : List (Str × Addr)) (fp : List Addr), PG (X.blk s H scope (compEnvC scope cl C X.env) fp) tg g) (ht : ∀ (s : Shared) (H : Hp) (C : Addr) (cl : List (Str × Addr)) (fp : List Addr), PTs (X.blk s H scope (compEnvC scope cl C X.env) fp) ifs tt)
    (hk : ∀ (s : Shared) (H : Hp) (C : Addr) (cl : List (Str × Addr)) (fp : List Addr), PE (X.blk s H scope (compEnvC scope cl C X.env) fp) kx tk)
    (he : ∀ (s : Shared) (H : Hp) (C : Addr) (cl : List (Str × Addr)) (fp : List Addr), PE (X.blk s H scope (compEnvC scope cl C X.env) fp) vx tv) (hs : ∀ x, foldedSetIterable iter X.env x = pure x := by intro _; rfl) :
    PS X (.Assign [.Name y py] (.DictComp kx vx [⟨tg, iter, ifs, 0⟩] scope pos) spos) (tAsg (tDc wi g tt tk tv (own.map (·.2))) (gName i)) := by
  refine ⟨fun pins s σ H D I h => ?_⟩
  rw [exec_Assign_Name_used _ _ _ _ hsw]
  refine wpAny_bind (wpAny_standAt (wpAny_bind ?_))
  show wpAny _ X.A (do let _ ← comprehension (.DictComp kx vx [⟨tg, iter, ifs, 0⟩] scope pos) scope X.env (firstIterPos [⟨tg, iter, ifs, 0⟩] pos) newDict false (eval iter X.env) (some (assign (.Name y py) X.env))) _ _ s
  have h : tDc wi g tt tk tv (own.map (·.2)) σ H (fun x H1 => gName i x σ H1 D.nx) := h
  refine wpAny_bind (thn (dc_core (Qf := fun _ s' => SP X pins D .next s') hc hN I hi ok hg ht hk he hs h fun L C s' m H' I' q hn f => ?_) fun _ s' hq => wpAny_pure (wpAny_pure hq))
  show wpAny _ _ (assign (.Name y py) X.env (.ref L)) _ _ _
  refine wpAny_assign_Name (store_ok2 (v := V.ref L) I' hN hy (.inl hyl) rfl (fun s2 I2 ⟨a, sb, ha⟩ => ?_) (.inr hyl))
  obtain ⟨f0, f1, f2, f3, f4, f5⟩ := f
  have haC : C ≠ a := by
    rcases ha with z | z
    · rw [z]; exact f1
    · exact fun e => f4 y a z e.symm
  refine ⟨m, hn.sameBut sb haC, fun h3 sb3 => ?_⟩
  exact ⟨_, H', I2.turned (t' := s2.toks) (fun b o hb e => (sb3.2 b hb).trans e) f0 f1 f3 f4 f5, q⟩
theorem sw_trueD {kx vx : Expr} {gs : List Comprehension} {scope : Scope} {pos py : Pos} {y : Str} {l : Nat} {env : Env} (hk : env.scope.kind = .function) (hy : env.scope.names.lookup y = some .local) (hl : (py.line == pos.line) = true)
    (ha : (scope.names.any fun (n, k) => n == y && (k == .local || k == .cell)) = false) : swapsWith (.DictComp kx vx gs scope pos) (some (.Name y py)) l env = pure true := by
  have ky : env.kindOf y = some .local := hy
  have hb : env.blockKind = .function := by unfold Env.blockKind; rw [hk]; rfl
  unfold swapsWith
  simp only [hb, ky, ha, Expr.pos, hl]
  rfl
end
end DL

set_option Elab.async false
set_option linter.all false
set_option maxRecDepth 100000
set_option maxHeartbeats 2000000
/-! list(x) of one's own; sorted(xs) of numbers -/
namespace DL
open PySem PySem.Spec PyProof.Rows L2
section
variable {K : PySem.W.Frag} {β : Bas} {env : Env'} {ta tb te tc to td ty tk : TE} {tt tu : TT} {x y z d d2 : D} {v : V} {P : Post} {W : WX} {ts tr : TS} {i j k : Nat} {ds : List D}
theorem el_listOwn {a : Addr} (hi : env[i]? = some (.own a ds)) : EVL K β (tCB (rListOf K) (tCons (tVar i) tNil)) env ds := fun σ G H g Q q => by
  obtain ⟨h1, h2, h3, xs, h4, h5⟩ := g.own hi
  exact ⟨.ref a, h1, a, xs, rfl, .inl (.inl (.inl h4)), fun p hp => q p xs G _ ((Stp.refl g.gh).side hp (g.gh.back hp)) hp (g.gh.back hp) upd_same h5⟩
theorem call_sortK {X : Cx} (K : PySem.W.Frag) (h : X.K = K := by rfl) : CallR X (.builtin "sorted") (rSorted K) := by subst h; exact cr_sorted
theorem cb_sortI {ns L : List Int} (h64 : ns.length < 64) (hp : L.Perm ns) (hL : L.Pairwise (· ≤ ·)) : CbD K (rSorted K) [.lst (ns.map D.int)] (.lst (L.map D.int)) := fun G H vs e dl Q q => by
  cases dl with | cons dv t =>
  cases t
  obtain ⟨a, xs, rfl, ht, hd⟩ := dv.lstV
  rw [DatL.intsV hd] at ht
  refine ⟨a, ns, rfl, .inl (.inl (e _ _ ht)), h64, fun ys p h3 h4 hn => ?_⟩
  have e2 : ys = L := le_unique (h3.trans hp.symm) h4 hL
  subst e2
  exact q _ (upd G p _) _ (.new e hn) (.lst upd_same (DatL.ints _))
theorem cb_sortN {ns L : List Nat} (h64 : ns.length < 64) (hp : L.Perm ns) (hL : L.Pairwise (· ≤ ·)) : CbD K (rSorted K) [.lst (lstN ns)] (.lst (lstN L)) := by
  have h := cb_sortI (K := K) (ns := ns.map fun x => ((x : Nat) : Int)) (L := L.map fun x => ((x : Nat) : Int)) (by rw [List.length_map]; exact h64) (hp.map _) (by rw [List.pairwise_map]; exact hL.imp fun h => by omega)
  rw [List.map_map, List.map_map] at h
  exact h
/-- how many keys the dict in a slot has -/
def slotKds (e : Env') (i : Nat) : Nat := match (e[i]? : Option Sl) with
  | some (.odi _ kds) => kds.length
  | _ => 0
/-- how long the list is that a slot holds as data -/
def slotDl (e : Env') (i : Nat) : Nat := match (e[i]? : Option Sl) with
  | some (.val _ (.lst ds)) => ds.length
  | _ => 0
/-- numbers by numbers -/
def kdsL (L : List (Nat × Nat)) : List (Key × D) := L.map fun p => (.inl ((p.1 : Nat) : Int), .int ((p.2 : Nat) : Int))
theorem kdsL_len (L : List (Nat × Nat)) : (kdsL L).length = L.length := by unfold kdsL; rw [List.length_map]
theorem kdsL_keys (L : List (Nat × Nat)) : (kdsL L).map (·.1) = ((L.map (·.1)).map fun x => ((x : Nat) : Int)).map Sum.inl := by
  unfold kdsL
  rw [List.map_map, List.map_map, List.map_map]
  rfl
theorem kdsL_in (x : Nat) : ∀ L : List (Nat × Nat), (valD (kdsL L) (.inl ((x : Nat) : Int))).isSome = decide (x ∈ L.map (·.1))
  | [] => rfl
  | p :: L => by
    show (valD ((.inl ((p.1 : Nat) : Int), .int ((p.2 : Nat) : Int)) :: kdsL L) (.inl ((x : Nat) : Int))).isSome = _
    by_cases c : p.1 = x
    · rw [valD_pos (by rw [c])]
      exact (decide_eq_true (by rw [← c]; exact List.mem_cons_self)).symm
    · rw [valD_neg (fun e => c (by injection e with e; omega)), kdsL_in x L]
      refine decide_eq_decide.mpr ⟨fun h => List.mem_cons_of_mem _ h, fun h => ?_⟩
      rcases List.mem_cons.mp h with e | h
      · exact absurd e.symm c
      · exact h
theorem kdsL_get : ∀ {L : List (Nat × Nat)} {p : Nat × Nat}, (L.map (·.1)).Nodup → p ∈ L → valD (kdsL L) (.inl ((p.1 : Nat) : Int)) = some (.int ((p.2 : Nat) : Int))
  | q :: L, p, hn, hp => by
    show valD ((.inl ((q.1 : Nat) : Int), .int ((q.2 : Nat) : Int)) :: kdsL L) (.inl ((p.1 : Nat) : Int)) = _
    obtain ⟨h1, h2⟩ := List.nodup_cons.mp hn
    rcases List.mem_cons.mp hp with e | hp
    · subst e
      exact valD_pos rfl
    · have c : q.1 ≠ p.1 := fun e => h1 (List.mem_map.mpr ⟨p, hp, e.symm⟩)
      rw [valD_neg (fun e => c (by injection e with e; omega))]
      exact kdsL_get h2 hp
theorem kdsL_put {L : List (Nat × Nat)} {x s : Nat} (h : x ∉ L.map (·.1)) : putD (kdsL L) (.inl ((x : Nat) : Int)) (.int ((s : Nat) : Int)) = kdsL (L ++ [(x, s)]) := by
  unfold putD
  rw [valD_any, kdsL_in, decide_eq_false h, if_neg Bool.false_ne_true]
  unfold kdsL
  rw [List.map_append]
  rfl
end
end DL

set_option Elab.async false
set_option linter.all false
set_option maxRecDepth 100000
set_option maxHeartbeats 2000000
/-! zip of any two sequences (modelled on the library's rules for two of a kind): the iterators by what they do -/
namespace DL
open PySem PySem.Spec PyProof.Rows L2 RZ
open PySem.Sem (wp)
/-- an iterator over a thing that stands, by what its next does -/
structure SIt (prog : Program) (w : World) where
  st : Heap → Addr → Addr → Nat → Prop
  sq : Heap → Addr → Array Value → Prop
  stAt : ∀ {h h' : Heap} {it l : Addr} {k : Nat}, st h it l k → (∀ o, h.get? it = some o → h'.get? it = some o) → st h' it l k
  sqAt : ∀ {h h' : Heap} {z l : Addr} {xs : Array Value}, sq h l xs → Heap.ExtBut z h h' → l ≠ z → sq h' l xs
  item : ∀ {A : Around} {E : Value → Shared → Prop} {s : Shared} {it l : Addr} {i : Nat} {items : Array Value} {x : Value} {Q : Value → Shared → Prop}, st s.heap it l i → sq s.heap l items → items[i]? = some x →
    (∀ h', st h' it l (i + 1) → Heap.SameBut it s.heap h' → Q x { s with heap := h' }) → wpAny (model prog w) A (Builtin.SmallTypes.nextOf (.ref it)) Q E s
  fin : ∀ {A : Around} {E : Value → Shared → Prop} {s : Shared} {it l : Addr} {i : Nat} {items : Array Value} {Q : Value → Shared → Prop}, A.handled = none → st s.heap it l i → sq s.heap l items → items[i]? = none →
    (∀ h' e, Heap.ExtBut it s.heap h' → (∃ o, h'.get? e = some o ∧ o.cls = .type "StopIteration") → E (.ref e) { s with heap := h' }) → wpAny (model prog w) A (Builtin.SmallTypes.nextOf (.ref it)) Q E s
  obj : ∀ {h : Heap} {it l : Addr} {k : Nat}, st h it l k → ∃ o, h.get? it = some o ∧ ∀ v, o.data ≠ .cell v
def sitT (prog : Program) (w : World) : SIt prog w where
  st := fun h it l k => h.IsTupleIter it l k
  sq := fun h l xs => h.IsTuple l xs
  stAt := fun h k => h.at k
  sqAt := fun h e n => h.extBut e n
  item := fun a b c q => nextOf_tuple_item a b c q
  fin := fun h a b c q => nextOf_tuple_end h a b c q
  obj := fun ⟨o, e, _, d⟩ => ⟨o, e, fun v q => by rw [d] at q; cases q⟩
def sitL (prog : Program) (w : World) : SIt prog w where
  st := fun h it l k => h.IsListIter it l k
  sq := fun h l xs => h.IsList l xs
  stAt := fun h k => h.at k
  sqAt := fun h e n => h.extBut e n
  item := fun a b c q => wpAny_nextOf_list_item a b c q
  fin := fun h a b c q => wpAny_nextOf_list_end h a b c q
  obj := fun ⟨o, e, _, d⟩ => ⟨o, e, fun v q => by rw [d] at q; cases q⟩
section
variable {prog : Program} {w : World} {A : Around} {E : Value → Shared → Prop} {s : Shared} {S1 S2 : SIt prog w}
theorem SIt.ex {S : SIt prog w} {h h' : Heap} {z it l : Addr} {k : Nat} (a : S.st h it l k) (e : Heap.ExtBut z h h') (n : it ≠ z) : S.st h' it l k := S.stAt a fun o q => e _ _ n q
/-- a turn's pair -/
theorem zipS_item {z TI TO i1 i2 l1 l2 : Addr} {k1 k2 : Nat} {xs ys : Array Value} {x y a b : Value} {Q : Value → Shared → Prop} (D : ZipApart z TI TO i1 i2 l1 l2)
    (hz : IsZip s.heap z TI TO .none) (hTI : IsPair s.heap TI (.ref i1) (.ref i2)) (hTO : IsPair s.heap TO a b)
    (h1 : S1.st s.heap i1 l1 k1) (h2 : S2.st s.heap i2 l2 k2) (hl1 : S1.sq s.heap l1 xs) (hl2 : S2.sq s.heap l2 ys) (hx : xs[k1]? = some x) (hy : ys[k2]? = some y)
    (hQ : ∀ h', IsZip h' z TI TO (rawInt s.heap.objs.size) → IsPair h' TO x y → S1.st h' i1 l1 (k1 + 1) → S2.st h' i2 l2 (k2 + 1) → IsPair h' s.heap.objs.size x y → h'.objs.size = s.heap.objs.size + 1 →
      (∀ c o, c ≠ z → c ≠ TO → c ≠ i1 → c ≠ i2 → s.heap.get? c = some o → h'.get? c = some o) → Q (.ref s.heap.objs.size) { s with heap := h' }) :
    wpAny (model prog w) A (Builtin.«zip.__next__» ⟨[.ref z], []⟩) (fun fin s' => ∃ v, fin = .done (.ret v) ∧ Q v s') E s := by
  show wpAny _ _ (field (.ref z) 2 >>= _) _ _ _
  refine wpAny_bind (wpAny_field hz rfl (x := .bool false) rfl ?_)
  show wpAny _ _ (field (.ref z) 3 >>= _) _ _ _
  refine wpAny_bind (wpAny_field hz rfl (x := .ref TI) rfl (wpAny_bind (wpAny_seqItems hTI rfl ?_)))
  show wpAny _ _ (Builtin.SmallTypes.ownedTupleIsFree (.ref z) >>= _) _ _ _
  refine wpAny_bind ?_
  unfold Builtin.SmallTypes.ownedTupleIsFree
  refine wpAny_bind (wpAny_field hz rfl (x := .none) rfl (wpAny_pure ?_))
  simp only [if_true]
  refine wpAny_bind (wpAny_rule (wpAny_bind (wpAny_field hz rfl (x := .ref TO) rfl (wpAny_bind (wpAny_setField_rec hz (by simp) fun g1 z1 e1 => ?_)))))
  replace z1 : IsZip g1 z TI TO .ellipsis := z1
  refine wpAny_bind ?_
  simp only [List.zipIdx_cons, List.zipIdx_nil, List.forIn_cons, List.forIn_nil]
  refine wpAny_bind (wpAny_bind (wpAny_onRaise ?_))
  show wpAny _ _ (Builtin.SmallTypes.nextOf (.ref i1) >>= _) _ _ _
  refine wpAny_bind (S1.item (SIt.ex h1 e1.extBut D.i1z) (S1.sqAt hl1 e1.extBut D.l1z) hx fun g2 a2 e2 => wpAny_pure ?_)
  have o2 : IsPair g2 TO a b := e2.extBut _ _ D.TOi1 (e1.extBut _ _ D.TOz hTO)
  refine wpAny_bind (wpAny_seqItems o2 rfl (wpAny_bind (wpAny_updateSeq_pair o2 fun g3 o3 e3 => wpAny_bind (wpAny_letGo (wpAny_pure ?_)))))
  replace o3 : IsPair g3 TO x b := o3
  refine wpAny_bind (wpAny_bind (wpAny_onRaise ?_))
  show wpAny _ _ (Builtin.SmallTypes.nextOf (.ref i2) >>= _) _ _ _
  refine wpAny_bind (S2.item (SIt.ex (SIt.ex (SIt.ex h2 e1.extBut D.i2z) e2.extBut D.i12.symm) e3.extBut D.TOi2.symm) (S2.sqAt (S2.sqAt (S2.sqAt hl2 e1.extBut D.l2z) e2.extBut D.l2i1) e3.extBut D.l2TO) hy fun g4 b4 e4 => wpAny_pure ?_)
  have o4 : IsPair g4 TO x b := e4.extBut _ _ D.TOi2 o3
  refine wpAny_bind (wpAny_seqItems o4 rfl (wpAny_bind (wpAny_updateSeq_pair o4 fun g5 o5 e5 => wpAny_bind (wpAny_letGo (wpAny_pure (wpAny_pure ?_))))))
  replace o5 : IsPair g5 TO x y := o5
  refine wpAny_bind (wpAny_seqItems o5 rfl (wpAny_bind (wpAny_newTuple ?_)))
  have hn : g5.objs.size = s.heap.objs.size := by rw [e5.1, e4.1, e3.1, e2.1, e1.1]
  have z5 : IsZip g5 z TI TO .ellipsis := e5.extBut _ _ D.TOz.symm (e4.extBut _ _ D.i2z.symm (e3.extBut _ _ D.TOz.symm (e2.extBut _ _ D.i1z.symm z1)))
  have up5 : ∀ c o, c ≠ z → c ≠ TO → c ≠ i1 → c ≠ i2 → s.heap.get? c = some o → g5.get? c = some o := fun c o c1 c2 c3 c4 e =>
    e5.extBut _ _ c2 (e4.extBut _ _ c4 (e3.extBut _ _ c2 (e2.extBut _ _ c3 (e1.extBut _ _ c1 e))))
  have p1 : S1.st g5 i1 l1 (k1 + 1) := SIt.ex (SIt.ex (SIt.ex a2 e3.extBut D.TOi1.symm) e4.extBut D.i12) e5.extBut D.TOi1.symm
  have p2 : S2.st g5 i2 l2 (k2 + 1) := SIt.ex b4 e5.extBut D.TOi2.symm
  have hzl : z < g5.objs.size := Heap.lt_size z5
  show wpAny _ _ (Builtin.SmallTypes.ownedTupleHandOut (.ref z) (.ref g5.objs.size) >>= _) _ _ _
  refine wpAny_bind ?_
  unfold Builtin.SmallTypes.ownedTupleHandOut
  have z6 : IsZip (g5.push { cls := .type "tuple", data := .seq #[x, y] }) z TI TO .ellipsis := Heap.get?_push_of_some _ z5
  refine wpAny_bind (wpAny_setField_rec z6 (by simp) fun g7 z7 e7 => ?_)
  replace z7 : IsZip g7 z TI TO (rawInt g5.objs.size) := z7
  refine wpAny_setField_rec z7 (by simp) fun g8 z8 e8 => ?_
  replace z8 : IsZip g8 z TI TO (rawInt g5.objs.size) := z8
  have up8 : ∀ c o, c ≠ z → g5.get? c = some o → g8.get? c = some o := fun c o c1 e => e8.extBut _ _ c1 (e7.extBut _ _ c1 (Heap.get?_push_of_some _ e))
  have t8 : IsPair g8 g5.objs.size x y := e8.extBut _ _ (Nat.ne_of_gt hzl) (e7.extBut _ _ (Nat.ne_of_gt hzl) (Heap.get?_push_size _ rfl))
  have n8 : g8.objs.size = g5.objs.size + 1 := by rw [e8.1, e7.1, Heap.size_push]
  rw [hn] at z8 t8 n8
  refine wpAny_pure ⟨_, rfl, ?_⟩
  show Q (.ref g5.objs.size) _
  rw [hn]
  exact hQ g8 z8 (up8 _ _ D.TOz o5) (S1.stAt p1 fun o e => up8 _ o D.i1z e) (S2.stAt p2 fun o e => up8 _ o D.i2z e) t8 n8 fun c o c1 c2 c3 c4 e => up8 c o c1 (up5 c o c1 c2 c3 c4 e)
/-- the end -/
theorem zipS_end {z TI TO i1 i2 l1 l2 : Addr} {k1 k2 : Nat} {xs ys : Array Value} {a b : Value} {Q : Fin → Shared → Prop} (hh : A.handled = none) (D : ZipApart z TI TO i1 i2 l1 l2)
    (hz : IsZip s.heap z TI TO .none) (hTI : IsPair s.heap TI (.ref i1) (.ref i2)) (hTO : IsPair s.heap TO a b)
    (h1 : S1.st s.heap i1 l1 k1) (h2 : S2.st s.heap i2 l2 k2) (hl1 : S1.sq s.heap l1 xs) (hl2 : S2.sq s.heap l2 ys) (hend : xs[k1]? = none ∨ ys[k2]? = none)
    (hE : ∀ h' e, (∀ c o, c ≠ z → c ≠ TO → c ≠ i1 → c ≠ i2 → s.heap.get? c = some o → h'.get? c = some o) → (∃ o, h'.get? e = some o ∧ o.cls = .type "StopIteration") → E (.ref e) { s with heap := h' }) :
    wpAny (model prog w) A (Builtin.«zip.__next__» ⟨[.ref z], []⟩) Q E s := by
  show wpAny _ _ (field (.ref z) 2 >>= _) _ _ _
  refine wpAny_bind (wpAny_field hz rfl (x := .bool false) rfl ?_)
  show wpAny _ _ (field (.ref z) 3 >>= _) _ _ _
  refine wpAny_bind (wpAny_field hz rfl (x := .ref TI) rfl (wpAny_bind (wpAny_seqItems hTI rfl ?_)))
  show wpAny _ _ (Builtin.SmallTypes.ownedTupleIsFree (.ref z) >>= _) _ _ _
  refine wpAny_bind ?_
  unfold Builtin.SmallTypes.ownedTupleIsFree
  refine wpAny_bind (wpAny_field hz rfl (x := .none) rfl (wpAny_pure ?_))
  simp only [if_true]
  refine wpAny_bind (wpAny_rule (wpAny_bind (wpAny_field hz rfl (x := .ref TO) rfl (wpAny_bind (wpAny_setField_rec hz (by simp) fun g1 z1 e1 => ?_)))))
  replace z1 : IsZip g1 z TI TO .ellipsis := z1
  refine wpAny_bind ?_
  simp only [List.zipIdx_cons, List.zipIdx_nil, List.forIn_cons, List.forIn_nil]
  refine wpAny_bind (wpAny_bind (wpAny_onRaise ?_))
  show wpAny _ _ (Builtin.SmallTypes.nextOf (.ref i1) >>= _) _ _ _
  -- how the end is told
  have tell : ∀ {g : Heap} {e : Addr}, IsZip g z TI TO .ellipsis → (∃ o, g.get? e = some o ∧ o.cls = .type "StopIteration") → e ≠ z := fun {g e} q ⟨o, ho, hc⟩ x => by
    subst x; rw [q] at ho; cases ho; simp at hc
  cases hx : xs[k1]? with
  | none =>
    refine wpAny_bind (S1.fin hh (SIt.ex h1 e1.extBut D.i1z) (S1.sqAt hl1 e1.extBut D.l1z) hx fun g2 e b2 he => ?_)
    have z2 : IsZip g2 z TI TO .ellipsis := b2 _ _ D.i1z.symm z1
    have ne := tell z2 he
    obtain ⟨oe, hoe, hce⟩ := he
    exact wpAny_setField_rec z2 (by simp) fun g3 _ e3 => hE g3 e (fun c o c1 _ c3 _ x => e3.extBut _ _ c1 (b2 _ _ c3 (e1.extBut _ _ c1 x))) ⟨oe, e3.extBut _ _ ne hoe, hce⟩
  | some x =>
    have hy : ys[k2]? = none := hend.resolve_left (by rw [hx]; exact fun q => nomatch q)
    refine wpAny_bind (S1.item (SIt.ex h1 e1.extBut D.i1z) (S1.sqAt hl1 e1.extBut D.l1z) hx fun g2 a2 e2 => wpAny_pure ?_)
    have o2 : IsPair g2 TO a b := e2.extBut _ _ D.TOi1 (e1.extBut _ _ D.TOz hTO)
    refine wpAny_bind (wpAny_seqItems o2 rfl (wpAny_bind (wpAny_updateSeq_pair o2 fun g3 o3 e3 => wpAny_bind (wpAny_letGo (wpAny_pure ?_)))))
    refine wpAny_bind (wpAny_bind (wpAny_onRaise ?_))
    show wpAny _ _ (Builtin.SmallTypes.nextOf (.ref i2) >>= _) _ _ _
    refine wpAny_bind (S2.fin hh (SIt.ex (SIt.ex (SIt.ex h2 e1.extBut D.i2z) e2.extBut D.i12.symm) e3.extBut D.TOi2.symm) (S2.sqAt (S2.sqAt (S2.sqAt hl2 e1.extBut D.l2z) e2.extBut D.l2i1) e3.extBut D.l2TO) hy fun g4 e b4 he => ?_)
    have z4 : IsZip g4 z TI TO .ellipsis := b4 _ _ D.i2z.symm (e3.extBut _ _ D.TOz.symm (e2.extBut _ _ D.i1z.symm z1))
    have ne := tell z4 he
    obtain ⟨oe, hoe, hce⟩ := he
    exact wpAny_setField_rec z4 (by simp) fun g5 _ e5 => hE g5 e (fun c o c1 c2 c3 c4 x => e5.extBut _ _ c1 (b4 _ _ c4 (e3.extBut _ _ c2 (e2.extBut _ _ c3 (e1.extBut _ _ c1 x))))) ⟨oe, e5.extBut _ _ ne hoe, hce⟩
theorem zipS_pyItem {z TI TO i1 i2 l1 l2 : Addr} {k1 k2 : Nat} {xs ys : Array Value} {x y a b : Value} {Q : Option Value → Shared → Prop} (D : ZipApart z TI TO i1 i2 l1 l2)
    (hz : IsZip s.heap z TI TO .none) (hTI : IsPair s.heap TI (.ref i1) (.ref i2)) (hTO : IsPair s.heap TO a b)
    (h1 : S1.st s.heap i1 l1 k1) (h2 : S2.st s.heap i2 l2 k2) (hl1 : S1.sq s.heap l1 xs) (hl2 : S2.sq s.heap l2 ys) (hx : xs[k1]? = some x) (hy : ys[k2]? = some y)
    (hQ : ∀ h', IsZip h' z TI TO (rawInt s.heap.objs.size) → IsPair h' TO x y → S1.st h' i1 l1 (k1 + 1) → S2.st h' i2 l2 (k2 + 1) → IsPair h' s.heap.objs.size x y → h'.objs.size = s.heap.objs.size + 1 →
      (∀ c o, c ≠ z → c ≠ TO → c ≠ i1 → c ≠ i2 → s.heap.get? c = some o → h'.get? c = some o) → Q (some (.ref s.heap.objs.size)) { s with heap := h' }) :
    wpAny (model prog w) A (pyNext (.ref z)) Q E s := by
  have hT : s.TypeIs (.ref z) "zip" := ⟨_, hz, rfl⟩
  unfold pyNext
  refine wpAny_bind (wpAny_attempt (wpAny_callSpecial?_slot (name := Str.ofString "__next__") hT F.slot_zip_next (wpAny_call_entry F.slot_zip_next hT F.entry_zip_next ?_ (F.args_zip_next_1 _))))
  exact zipS_item D hz hTI hTO h1 h2 hl1 hl2 hx hy fun h' q1 q2 q3 q4 q5 q6 q7 => wpAny_pure (hQ h' q1 q2 q3 q4 q5 q6 q7)
theorem zipS_pyEnd {z TI TO i1 i2 l1 l2 : Addr} {k1 k2 : Nat} {xs ys : Array Value} {a b : Value} {Q : Option Value → Shared → Prop} (hh : A.handled = none) (D : ZipApart z TI TO i1 i2 l1 l2)
    (hz : IsZip s.heap z TI TO .none) (hTI : IsPair s.heap TI (.ref i1) (.ref i2)) (hTO : IsPair s.heap TO a b)
    (h1 : S1.st s.heap i1 l1 k1) (h2 : S2.st s.heap i2 l2 k2) (hl1 : S1.sq s.heap l1 xs) (hl2 : S2.sq s.heap l2 ys) (hend : xs[k1]? = none ∨ ys[k2]? = none)
    (hQ : ∀ h', (∀ c o, c ≠ z → c ≠ TO → c ≠ i1 → c ≠ i2 → s.heap.get? c = some o → h'.get? c = some o) → Q none { s with heap := h' }) : wpAny (model prog w) A (pyNext (.ref z)) Q E s := by
  have hT : s.TypeIs (.ref z) "zip" := ⟨_, hz, rfl⟩
  unfold pyNext
  refine wpAny_bind (wpAny_attempt (wpAny_callSpecial?_slot (name := Str.ofString "__next__") hT F.slot_zip_next (wpAny_call_entry F.slot_zip_next hT F.entry_zip_next ?_ (F.args_zip_next_1 _))))
  refine zipS_end hh D hz hTI hTO h1 h2 hl1 hl2 hend fun h' e hk ⟨o, ho, hc⟩ => ?_
  exact wpAny_bind (wpAny_isInstance (T := "StopIteration") (b := true) ⟨o, ho, hc⟩ isSubtype_stop (wpAny_pure (hQ _ hk)))
end
/-! zip(t, l): a tuple and a list -/
abbrev zm1 (h : Heap) (l1 : Addr) : Heap := h.push { cls := .type "tuple_iterator", data := .fields #[.ref l1, .int 0 0] }
abbrev zm2 (h : Heap) (l1 l2 : Addr) : Heap := (zm1 h l1).push { cls := .type "list_iterator", data := .fields #[.ref l2, .int 0 0] }
abbrev zm3 (h : Heap) (l1 l2 : Addr) : Heap := (zm2 h l1 l2).push { cls := .type "tuple", data := .seq #[.ref h.objs.size, .ref (zm1 h l1).objs.size] }
abbrev zm4 (h : Heap) (l1 l2 : Addr) : Heap := (zm3 h l1 l2).push { cls := .type "tuple", data := .seq #[.none, .none] }
abbrev zm5 (h : Heap) (l1 l2 : Addr) : Heap := (zm4 h l1 l2).push { cls := .type "zip", data := .fields #[.none, .bool false, .bool false, .ref (zm2 h l1 l2).objs.size, .ref (zm3 h l1 l2).objs.size] }
theorem meets_zipM (l1 l2 : Addr) (xs ys : Array Value) :
    Meets (Builtin.«zip.__new__» ⟨[.type "zip", .ref l1, .ref l2], []⟩) (fun _ R s => s.heap.IsTuple l1 xs ∧ s.heap.IsList l2 ys ∧
      R (.ok (.ret (.ref (zm4 s.heap l1 l2).objs.size))) { s with heap := zm5 s.heap l1 l2 }) :=
  .of_wp fun prog w A R s h => by
    obtain ⟨hp, g, d, tk, os⟩ := s; obtain ⟨hl1, hl2, h⟩ := h
    have hsub := sub_zip
    have hL1 : Heap.IsTuple (Shared.heap ⟨hp, g, d, tk, os⟩) l1 xs := hl1
    have hL2 : Heap.IsList (Shared.heap ⟨hp.push { cls := .type "tuple_iterator", data := .fields #[.ref l1, .int 0 0] }, g, d, tk, os⟩) l2 ys := Heap.IsList.push hl2 _
    wp_walk using wpAny_pyIter_tuple hL1, wpAny_pyIter_list hL2
    exact ⟨_, rfl, h⟩
section
variable {prog : Program} {w : World} {A : Around} {E : Value → Shared → Prop} {s : Shared}
theorem call_zipM {l1 l2 : Addr} {xs ys : Array Value} {Q : Value → Shared → Prop} (hl1 : s.heap.IsTuple l1 xs) (hl2 : s.heap.IsList l2 ys)
    (h : ∀ h', IsZip h' (s.heap.objs.size + 4) (s.heap.objs.size + 2) (s.heap.objs.size + 3) .none → IsPair h' (s.heap.objs.size + 2) (.ref s.heap.objs.size) (.ref (s.heap.objs.size + 1)) →
      IsPair h' (s.heap.objs.size + 3) .none .none → h'.IsTupleIter s.heap.objs.size l1 0 → h'.IsListIter (s.heap.objs.size + 1) l2 0 →
      (∀ c o, s.heap.get? c = some o → h'.get? c = some o) → Q (.ref (s.heap.objs.size + 4)) { s with heap := h' }) :
    wpAny (model prog w) A (call (.type "zip") [.ref l1, .ref l2]) Q E s := by
  refine callType_new F.called_zip (by decide) (F.typeCall_zip_2 _ _) (F.newCall_zip_2 _ _) (fun obj => F.args_object_init_3 obj _ _) F.entry_zip_new (meets_zipM l1 l2 xs ys) ⟨hl1, hl2, ?_⟩
  have n1 : (zm1 s.heap l1).objs.size = s.heap.objs.size + 1 := Heap.size_push ..
  have n2 : (zm2 s.heap l1 l2).objs.size = s.heap.objs.size + 2 := by rw [Heap.size_push, n1]
  have n3 : (zm3 s.heap l1 l2).objs.size = s.heap.objs.size + 3 := by rw [Heap.size_push, n2]
  have n4 : (zm4 s.heap l1 l2).objs.size = s.heap.objs.size + 4 := by rw [Heap.size_push, n3]
  have up : ∀ {h : Heap} {a : Addr} {o p : Obj}, h.get? a = some o → (h.push p).get? a = some o := fun e => Heap.get?_push_of_some _ e
  have q5 : (zm5 s.heap l1 l2).get? (zm4 s.heap l1 l2).objs.size = some _ := Heap.get?_push_size _ rfl
  have q4 : (zm5 s.heap l1 l2).get? (zm3 s.heap l1 l2).objs.size = some _ := up (Heap.get?_push_size _ rfl)
  have q3 : (zm5 s.heap l1 l2).get? (zm2 s.heap l1 l2).objs.size = some _ := up (up (Heap.get?_push_size _ rfl))
  have q2 : (zm5 s.heap l1 l2).get? (zm1 s.heap l1).objs.size = some _ := up (up (up (Heap.get?_push_size _ rfl)))
  have q1 : (zm5 s.heap l1 l2).get? s.heap.objs.size = some _ := up (up (up (up (Heap.get?_push_size _ rfl))))
  show _ ∧ _
  rw [n2, n3, n4] at q5
  rw [n1, n2] at q3
  rw [n3] at q4
  rw [n1] at q2
  rw [n4]
  exact ⟨⟨_, q5, rfl⟩, h _ q5 q3 q4 ⟨_, q1, rfl, rfl⟩ ⟨_, q2, rfl, rfl⟩ fun c o x => up (up (up (up (up x))))⟩
end
/-- the tuple at a and the list at b as they stand at each turn -/
def ItzM (K : PySem.W.Frag) (a b : Addr) : It :=
  ⟨fun i H => ∃ (xs ys : List V) (x y : V), SqT K H a xs ∧ SqL K H b ys ∧ xs[i]? = some x ∧ ys[i]? = some y,
    fun i H v H' => ∃ T x y, v = .ref T ∧ H T = none ∧ H' = upd H T (.tup [x, y]) ∧ (∀ xs, SqT K H a xs → xs[i]? = some x) ∧ ∀ ys, SqL K H b ys → ys[i]? = some y,
    fun i H => ∃ xs ys : List V, SqT K H a xs ∧ SqL K H b ys ∧ (xs.length ≤ i ∨ ys.length ≤ i)⟩
theorem turn_zipM {P : Program} {w : World} {K : PySem.W.Frag} {elts : List Expr} {kk : Nat} {tpos : Pos} {a b z TI TO i1 i2 : Addr} (D : ZipApart z TI TO i1 i2 a b) :
    Turn P w K (.Tuple elts kk tpos) (ItzM K a b) [z, TI, TO, i1, i2] z (fun i h => IsZip h z TI TO .none ∧ IsPair h TI (.ref i1) (.ref i2) ∧ (∃ x y, IsPair h TO x y) ∧ h.IsTupleIter i1 a i ∧ h.IsListIter i2 b i) where
  mem := List.mem_cons_self
  obj := fun i h st c hc => by
    obtain ⟨hz, hTI, ⟨x, y, hTO⟩, ⟨o1, e1, _, d1⟩, ⟨o2, e2, _, d2⟩⟩ := st
    simp only [List.mem_cons, List.not_mem_nil, or_false] at hc
    rcases hc with rfl | rfl | rfl | rfl | rfl
    · exact ⟨_, hz, fun v q => nomatch q⟩
    · exact ⟨_, hTI, fun v q => nomatch q⟩
    · exact ⟨_, hTO, fun v q => nomatch q⟩
    · exact ⟨o1, e1, fun v q => by rw [d1] at q; cases q⟩
    · exact ⟨o2, e2, fun v q => by rw [d2] at q; cases q⟩
  keep := fun i h h' ⟨hz, hTI, ⟨x, y, hTO⟩, h1, h2⟩ k => ⟨k z (by simp) _ hz, k TI (by simp) _ hTI, ⟨x, y, k TO (by simp) _ hTO⟩, h1.at fun o q => k i1 (by simp) o q, h2.at fun o q => k i2 (by simp) o q⟩
  item := by
    intro X hP hw hK hc i pins s σ H E I hf st hg
    subst hP hw hK
    obtain ⟨hz, hTI, ⟨x0, y0, hTO⟩, h1, h2⟩ := st
    obtain ⟨xs, ys, x, y, hqx, hqy, hx, hy⟩ := hg
    obtain ⟨its, rv, p, _⟩ := I.tuple hqx
    obtain ⟨its2, rv2, p2, _⟩ := I.list hqy
    obtain ⟨u, hu, ru⟩ := rv.get hx
    obtain ⟨u2, hu2, ru2⟩ := rv2.get hy
    have hzl : z < s.heap.objs.size := Heap.lt_size hz
    refine zipS_pyItem (S1 := sitT _ _) (S2 := sitL _ _) D hz hTI hTO h1 h2 p p2.isList (x := u) (y := u2) (by simpa using hu) (by simpa using hu2) fun h' z' TO' h1' h2' hT hsz hk => ?_
    have un : ∀ {c : Addr}, c ∉ [z, TI, TO, i1, i2] → c ≠ z ∧ c ≠ TO ∧ c ≠ i1 ∧ c ≠ i2 := fun {c} n => ⟨fun q => n (by simp [q]), fun q => n (by simp [q]), fun q => n (by simp [q]), fun q => n (by simp [q])⟩
    refine ⟨_, rfl, wpAny_letOwnedTupleGo_zip (s := { s with heap := h' }) z' fun h'' z'' sb => ?_⟩
    have new : ObjOk X.prog X.w (upd H s.heap.objs.size (.tup [x, y])) h'' s.heap.objs.size (.tup [x, y]) :=
      ⟨by show 2 ≤ sizeLine; decide, [u, u2], .cons ru (.cons ru2 .nil), ⟨_, (sb.2 _ (Nat.ne_of_gt hzl)).trans hT, rfl, _, rfl⟩⟩
    have I1 : Inv X pins σ (upd H s.heap.objs.size (.tup [x, y])) { s with heap := h'' } :=
      I.turnedNew (t' := s.toks) (ch := [z, TI, TO, i1, i2]) (fun c o hb q => (sb.2 c (un hb).1).trans (hk c o (un hb).1 (un hb).2.1 (un hb).2.2.1 (un hb).2.2.2 q)) hf (Nat.le_refl _) new
    refine ⟨.ref s.heap.objs.size, _, I1, rfl, ⟨_, x, y, rfl, I.hok.fresh (Nat.le_refl _), rfl, fun l hl => by rw [I.tuple_inj hl hqx]; exact hx, fun l hl => by rw [I.list_inj hl hqy]; exact hy⟩, ⟨z'', (sb.2 _ D.TIz).trans (hk _ _ D.TIz D.TITO D.TIi1 D.TIi2 hTI), ⟨u, u2, (sb.2 _ D.TOz).trans TO'⟩, h1'.at fun o q => (sb.2 _ D.i1z).trans q, h2'.at fun o q => (sb.2 _ D.i2z).trans q⟩, fun c hcm => ?_⟩
    have hlt : c < s.heap.objs.size := by
      have hm := hcm
      simp only [List.mem_cons, List.not_mem_nil, or_false] at hm
      rcases hm with q | q | q | q | q
      · rw [q]; exact hzl
      · rw [q]; exact Heap.lt_size hTI
      · rw [q]; exact Heap.lt_size hTO
      · rw [q]; obtain ⟨_, e1, _⟩ := h1; exact Heap.lt_size e1
      · rw [q]; obtain ⟨_, e2, _⟩ := h2; exact Heap.lt_size e2
    rw [upd_ne (Nat.ne_of_lt hlt)]
    exact (hf c hcm).1
  done := by
    intro X hP hw hK hc i pins s σ H E I hf st hg
    subst hP hw hK
    obtain ⟨hz, hTI, ⟨x0, y0, hTO⟩, h1, h2⟩ := st
    obtain ⟨xs, ys, hqx, hqy, hend⟩ := hg
    obtain ⟨its, rv, p, _⟩ := I.tuple hqx
    obtain ⟨its2, rv2, p2, _⟩ := I.list hqy
    have l1 := rv.length
    have l2 := rv2.length
    have he : its.toArray[i]? = none ∨ its2.toArray[i]? = none := by
      rcases hend with q | q
      · exact .inl (by simp; omega)
      · exact .inr (by simp; omega)
    refine zipS_pyEnd (S1 := sitT _ _) (S2 := sitL _ _) (I.ok.hd hc) D hz hTI hTO h1 h2 p p2.isList he fun h' hk => ⟨rfl, I.turnedL (t' := s.toks) (ch := [z, TI, TO, i1, i2]) (fun c o hb q => ?_) hf⟩
    exact hk c o (fun q' => hb (by simp [q'])) (fun q' => hb (by simp [q'])) (fun q' => hb (by simp [q'])) (fun q' => hb (by simp [q'])) q
  self := fun A i s Q E st h => wpAny_pyIter_zip st.1 h
def iZipM (K : PySem.W.Frag) (ta : TA) : TI := fun σ H R => ta σ H fun vs H1 => ∃ a b xs ys, vs = [.ref a, .ref b] ∧ SqT K H1 a xs ∧ SqL K H1 b ys ∧ R (ItzM K a b) H1
theorem pi_zipM (K : PySem.W.Frag) {X : Cx} {e e2 : Expr} {ta : TA} {p pos tpos : Pos} {elts : List Expr} {kk : Nat} (hg : Gl X "zip") (hm : X.mg "zip" = none) (ha : PA X [e, e2] ta)
    (hs : starEach [e, e2] X.env = (false, eval e X.env) :: starEach [e2] X.env := by rfl) (hpl : (backTo pos (starEach [e2] X.env)).any (·.1) = false := by rfl) (hK : X.K = K := by rfl) :
    PI X (.Tuple elts kk tpos) (.Call (.Name "zip" p) [e, e2] [] pos) (iZipM K ta) := by
  subst hK
  refine ⟨fun pins s σ H R I h => ?_⟩
  refine Call_ (ld_blt I hg hm PyProof.Rows.boot_zip (PyProof.Rows.callWith_type1 (thn (ha.run pos pins s σ H _ I h) fun us s1 ⟨vs, H1, I1, r1, q1⟩ => ?_) hs hpl))
  obtain ⟨a, b, xs, ys, ex, hqx, hqy, q⟩ := q1
  subst ex
  cases r1 with
  | cons r rr =>
    cases rr with
    | cons r' rr =>
      cases rr
      cases r
      cases r'
      obtain ⟨its, rv, p1, _⟩ := I1.tuple hqx
      obtain ⟨its2, rv2, p2, _⟩ := I1.list hqy
      obtain ⟨o1, ho1, _⟩ := id p1
      refine call_zipM p1 p2.isList fun h' hz hTI hTO h1 h2 hk => wpAny_pyIter_zip hz ?_
      refine ⟨s1.heap.objs.size + 4, [s1.heap.objs.size + 4, s1.heap.objs.size + 2, s1.heap.objs.size + 3, s1.heap.objs.size, s1.heap.objs.size + 1], _, _, H1, rfl, I1.kept (t' := s1.toks) hk, turn_zipM (PySem.W.ktu_apart s1.heap.objs.size a b (Heap.lt_size ho1) p2.lt), ⟨hz, hTI, ⟨_, _, hTO⟩, h1, h2⟩, fun c hcm => ?_, q⟩
      have hle : s1.heap.objs.size ≤ c := by
        simp only [List.mem_cons, List.not_mem_nil, or_false] at hcm
        rcases hcm with q | q | q | q | q <;> rw [q]
        · exact Nat.le_add_right _ _
        · exact Nat.le_add_right _ _
        · exact Nat.le_add_right _ _
        · exact Nat.le_refl _
        · exact Nat.le_add_right _ _
      exact I1.fpOk hle (I1.hok.fresh hle)
end DL

set_option Elab.async false
set_option linter.all false
set_option maxRecDepth 100000
set_option maxHeartbeats 2000000
/-! loops over zip of a tuple and a list; a told list that is written to -/
namespace DL
open PySem PySem.Spec PyProof.Rows L2
section
variable {K : PySem.W.Frag} {β : Bas} {env : Env'} {ta : TA} {tb te tc to td ty tk : TE} {tt tu : TT} {x y z d d2 : D} {v : V} {P : Post} {W : WX} {ts tr : TS} {i j k : Nat} {ds es : List D}
theorem ex_forZ (I : Nat → Env' → Prop) (ha : EVA K β ta env [.tup ds, .lst es]) (hl : ds.length = es.length) (h0 : I 0 env)
    (hs : ∀ k env' v d w e, ds[k]? = some d → es[k]? = some e → I k env' → EX K β W ts ((env'.set i (.val v d)).set j (.val w e)) { P with nx := I (k + 1), ct := I (k + 1), bk := P.nx })
    (hd : ∀ env', I ds.length env' → P.nx env') : EX K β W (tFor (iZipM K ta) (gTup K 2 (gCons (gName i) (gCons (gName j) gNil))) ts) env P := fun σ G H g0 Dn c x =>
  ha σ G H g0 _ fun vs G1 H1 t1 dl => by
    cases dl with | cons d1 t => cases t with | cons d2 t =>
    cases t
    obtain ⟨a, xs, rfl, hta, hx⟩ := d1.tupV
    obtain ⟨b, ys, rfl, htb, hy⟩ := d2.lstV
    have lx := hx.length
    have ly := hy.length
    have sT : ∀ {H : Hp}, Ex G1 H → SqT K H a xs := fun e => ex_t e hta
    have sL : ∀ {H : Hp}, Ex G1 H → SqL K H b ys := fun e => .inl (.inl (e _ _ htb))
    refine ⟨a, b, xs, ys, rfl, sT t1.gh, sL t1.gh, fun i m σ' H' => m = xs.length - i ∧ i ≤ xs.length ∧ ∃ env' G', Good K β σ' env' G' H' ∧ Ex G1 G' ∧ I i env', ⟨xs.length, by simp, Nat.zero_le _, env, G1, g0.up t1, .refl _, h0⟩, ?_⟩
    rintro q m σ' H' ⟨rfl, hq, env', G', g', e', hI⟩
    by_cases hlt : q < xs.length
    · have hxi : xs[q]? = some xs[q] := List.getElem?_eq_getElem hlt
      have hlt2 : q < ys.length := by omega
      have hyi : ys[q]? = some ys[q] := List.getElem?_eq_getElem hlt2
      obtain ⟨dx, hdx, vx⟩ := hx.getV hxi
      obtain ⟨dy, hdy, vy⟩ := hy.getV hyi
      refine .inr ⟨⟨xs, ys, _, _, sT (e'.trans g'.gh), sL (e'.trans g'.gh), hxi, hyi⟩, fun σ2 H2 => ∃ env2 G2, Good K β σ2 env2 G2 H2 ∧ Ex G1 G2 ∧ I (q + 1) env2, fun σ2 H2 z => ⟨xs.length - (q + 1), by omega, rfl, hlt, z⟩, fun x0 H'' hyl => ?_⟩
      obtain ⟨T, x', y', rfl, hT, rfl, f1, f2⟩ := hyl
      have ex1 := f1 xs (sT (e'.trans g'.gh))
      have ex2 := f2 ys (sL (e'.trans g'.gh))
      rw [hxi] at ex1
      rw [hyi] at ex2
      cases ex1
      cases ex2
      have g2 := ((g'.up ((Stp.refl g'.gh).side (o := .tup [xs[q], ys[q]]) hT (g'.gh.back hT))).set i (vx.up e')).set j (vy.up e')
      refine ⟨T, _, rfl, .of upd_same, rfl, _, _, rfl, _, _, rfl, rfl, ?_⟩
      exact hs q env' _ dx _ dy hdx hdy hI _ G' _ g2 _ ⟨fun σ3 env3 G3 H3 g3 e3 n => ⟨env3, G3, g3, e'.trans e3, n⟩, fun σ3 env3 G3 H3 v d g3 e3 => c.rt σ3 env3 G3 H3 v d g3 (t1.gg.trans (e'.trans e3)), fun σ3 env3 G3 H3 g3 e3 => c.nx σ3 env3 G3 H3 g3 (t1.gg.trans (e'.trans e3)),
        fun σ3 env3 G3 H3 g3 e3 n => ⟨env3, G3, g3, e'.trans e3, n⟩⟩ (x.up (t1.gg.trans e'))
    · have hil : q = xs.length := by omega
      refine .inl ⟨⟨xs, ys, sT (e'.trans g'.gh), sL (e'.trans g'.gh), .inl (by omega)⟩, c.nx σ' env' G' H' g' (t1.gg.trans e') (hd env' ?_)⟩
      rw [hil, lx] at hI
      exact hI
theorem ex_forZS (I : Nat → Env' → Prop) (ha : EVA K β ta env [.tup ds, .lst es]) (hl : ds.length = es.length) (h0 : I 0 env)
    (hs : ∀ k env' v d w e, ds[k]? = some d → es[k]? = some e → I k env' → EX K β W ts ((env'.set i (.val v d)).set j (.val w e)) { P with nx := I (k + 1), ct := I (k + 1), bk := fun _ => False })
    (hd : ∀ env', I ds.length env' → EX K β W tr env' P) : EX K β W (tSeq (tFor (iZipM K ta) (gTup K 2 (gCons (gName i) (gCons (gName j) gNil))) ts) tr) env P :=
  ex_seq (N := I ds.length) (ex_forZ I ha hl h0 (fun k env' v d w e h1 h2 hi => (hs k env' v d w e h1 h2 hi).imp (fun _ h => h) (fun _ _ _ h => h) (fun _ h => h.elim) (fun _ h => h) fun _ _ _ _ h => h) fun env' h => h) hd
/-! calls of a door in a slot, its answer new -/
theorem ef_callVF {R : List D → D → Prop} {E' : List V → List D → Value → Str → V → Prop} {E : Sg → XK} {f : Addr} {df : D} (hi : env[i]? = some (.val (.ref f) df)) (he : EVA K β ta env ds) (h : R ds d) : EVf K β (tCallVS i f (spXF K R E') E ta) env d := fun σ G H g Q q =>
  ⟨slot_val g hi, he σ G H g _ fun vs G1 H1 t1 d1 => ⟨G1, ds, t1.gh, d1, .inl ⟨d, h, fun v G2 H2 t2 d2 f => q v G2 H2 (t1.trans t2) d2 (f.back t1.hh)⟩⟩⟩
theorem ef_callVKF {R : List D → D → Prop} {E' : List V → List D → Value → Str → V → Prop} {ds' : List D} {gV : List V → List V → List V} {E : Sg → XK} {f : Addr} {df : D} (hi : env[i]? = some (.val (.ref f) df)) (he : EVA K β ta env ds) (hg : ∀ G vs, DatL K G vs ds → DatL K G (gV [] vs) ds') (h : R ds' d) :
    EVf K β (tCallVK i f (spXF K R E') gV E ta) env d := fun σ G H g Q q =>
  ⟨slot_val g hi, he σ G H g _ fun vs G1 H1 t1 d1 => ⟨G1, ds', t1.gh, hg _ _ d1, .inl ⟨d, h, fun v G2 H2 t2 d2 f => q v G2 H2 (t1.trans t2) d2 (f.back t1.hh)⟩⟩⟩
theorem rs_callVF {R : List D → D → Prop} {E' : List V → List D → Value → Str → V → Prop} {vs : List V} {f : Addr} {df : D} {f' : Str} {cls : Value} (hi : env[i]? = some (.val (.ref f) df)) (he : EVAv K β ta env vs ds) (h : E' vs ds cls f' v) : Raises' K β W (tCallVS i f (spXF K R E') (WE W) ta) env cls f' v := fun σ G H g Q q =>
  ⟨slot_val g hi, he σ G H g _ fun G1 H1 t1 d1 => ⟨G1, ds, t1.gh, d1, .inr ⟨cls, f', v, h, fun G2 H2 dx t2 => q G2 H2 dx (t1.trans t2)⟩⟩⟩
theorem rs_callVKF {R : List D → D → Prop} {E' : List V → List D → Value → Str → V → Prop} {ds' : List D} {vs vs' : List V} {gV : List V → List V → List V} {f : Addr} {df : D} {f' : Str} {cls : Value} (hi : env[i]? = some (.val (.ref f) df)) (he : EVAv K β ta env vs ds) (hg : ∀ G, DatL K G vs ds → DatL K G vs' ds') (hv : gV [] vs = vs') (h : E' vs' ds' cls f' v) :
    Raises' K β W (tCallVK i f (spXF K R E') gV (WE W) ta) env cls f' v := fun σ G H g Q q =>
  ⟨slot_val g hi, he σ G H g _ fun G1 H1 t1 d1 => by
    show spXF K R E' (gV [] vs) H1 Q (WE W σ)
    rw [hv]
    exact ⟨G1, ds', t1.gh, hg _ d1, .inr ⟨cls, f', v, h, fun G2 H2 dx t2 => q G2 H2 dx (t1.trans t2)⟩⟩⟩
end
end DL

set_option Elab.async false
set_option linter.all false
set_option maxRecDepth 100000
set_option maxHeartbeats 2000000
/-! told = ask(..); ..; kept = list(told[1]); told[1].append(None) -/
namespace DL
open PySem PySem.Spec PyProof.Rows L2
/-- the view without one address -/
def cutH (G : Hp) (p : Addr) : Hp := fun a => if a = p then none else G a
section
variable {K : PySem.W.Frag} {β : Bas} {env : Env'} {G H G' H' : Hp} {p : Addr} {xs : List V} {s : Sl} {o : Option V} {σ : Sg}
theorem cut_ex : Ex (cutH G p) G := fun a o e => by
  unfold cutH at e
  split at e
  · cases e
  · exact e
theorem cut_noL (hp : G p = some (.lst xs)) : Ex (noL G) (cutH G p) := fun a o e => by
  unfold cutH
  by_cases c : a = p
  · subst c
    have := noL_ex _ _ e
    rw [hp] at this
    cases this
    exact (noL_no e).elim
  · rw [if_neg c]; exact noL_ex _ _ e
/-- a slot that holds what does not stand at p -/
def Clr (p : Addr) : Sl → Prop
  | .un => True
  | .val v d => plainD d = true ∨ ∃ a es, v = .ref a ∧ d = .lst es ∧ a ≠ p ∧ plainDs es = true
  | .own _ _ => False
  | .odi _ _ => False
  | .obj _ _ => False
theorem clr_ok (hp : G p = some (.lst xs)) (hc : Clr p s) (h : SlOk K β G H o s) : SlOk K β (cutH G p) H' o s := by
  cases s with
  | un => trivial
  | val v d =>
    refine ⟨h.1, ?_⟩
    rcases hc with hc | ⟨a, es, rfl, rfl, ha, he⟩
    · exact (Dat.noL d v hc h.2).up (cut_noL hp)
    · cases h.2 with
      | lst b1 b2 => exact .lst (by unfold cutH; rw [if_neg ha]; exact b1) ((DatL.noL es _ he b2).up (cut_noL hp))
  | own _ _ => exact hc.elim
  | odi _ _ => exact hc.elim
  | obj _ _ => exact hc.elim
theorem clrs_ok (hp : G p = some (.lst xs)) : ∀ {σ : Sg} {env : Env'}, (∀ s ∈ env, Clr p s) → SlsOk K β G H σ env → SlsOk K β (cutH G p) H' σ env
  | _, _, _, .nil => .nil
  | _, _, hc, .cons a t => .cons (clr_ok hp (hc _ List.mem_cons_self) a) (clrs_ok hp (fun s hs => hc s (List.mem_cons_of_mem _ hs)) t)
theorem clr_none : ∀ {env : Env'}, (∀ s ∈ env, Clr p s) → env.filterMap ownA = []
  | [], _ => rfl
  | s :: env, h => by
    have h1 := h s List.mem_cons_self
    have ih := clr_none fun t ht => h t (List.mem_cons_of_mem s ht)
    cases s with
    | un => rw [List.filterMap_cons]; exact ih
    | val v d => rw [List.filterMap_cons]; exact ih
    | own _ _ => exact h1.elim
    | odi _ _ => exact h1.elim
    | obj _ _ => exact h1.elim
theorem Good.cut {u : HO} (g : Good K β σ env G H) (hβ : β.H p = none) (hβG : β.G p = none) (hp : G p = some (.lst xs)) (hc : ∀ s ∈ env, Clr p s) : Good K β σ env (cutH G p) (upd H p u) :=
  ⟨fun a o e => by
      unfold cutH
      rw [if_neg (fun z => by rw [z, hβG] at e; cases e)]
      exact g.gg a o e,
    fun a o hb e => by rw [upd_ne (fun z => by rw [z, hβ] at e; cases e)]; exact g.hh a o hb e,
    fun a o e => by
      have e1 := cut_ex _ _ e
      rw [upd_ne (fun z => by subst z; unfold cutH at e; rw [if_pos rfl] at e; cases e)]
      exact g.gh a o e1,
    fun a h1 h2 => by
      unfold cutH
      split
      · rfl
      · exact g.ow a h1 h2,
    fun a h => by
      by_cases z : a = p
      · subst z; rw [upd_same]; exact (fun e => nomatch e)
      · rw [upd_ne z]; exact g.bh a h,
    clrs_ok hp hc g.sl, by rw [clr_none hc]; exact .nil⟩
end
section
variable {K : PySem.W.Frag} {β : Bas} {env : Env'} {te : TE} {P : Post} {W : WX} {s1 s2 tr : TS} {i j m l : Nat} {s : Str} {rds es : List D} {w : V} {F : Hp → D → Prop}
abbrev tTold (K : PySem.W.Frag) (i : Nat) : TE := tOp (rIx K) (tVar i) (tC (.int 1))
theorem ev_told {env : Env'} {v : V} {p : Addr} (hi : env[i]? = some (.val v (.lst [.str s, .idn (.ref p) (.lst rds)]))) : EV K β (tTold K i) env (.idn (.ref p) (.lst rds)) :=
  ev_op (ev_var hi) (ev_int (i := 1)) (op_ix (.inr rfl) (atI_natD (j := 1) rfl))
theorem ex_told {N : V → Addr → Env' → Prop} (hb : ∀ a, β.H a = none → β.G a = none) (he : EVR K β te env F) (hF : ∀ H d, F H d → ∃ u, d = .lst [.str s, .idn u (.lst rds)] ∧ Fr H u (.lst rds)) (hj : env[j]? = some (.val w (.lst es)))
    (hmid : ∀ v p, EX K β W (tSeq s1 s2) (env.set i (.val v (.lst [.str s, .idn (.ref p) (.lst rds)]))) { P with nx := N v p }) (hm : m ≠ i) (hl : rds.length < sizeLine)
    (hN : ∀ v p e, N v p e → e[i]? = some (.val v (.lst [.str s, .idn (.ref p) (.lst rds)])) ∧ ∀ am, w = .ref am → am ≠ p → ∀ vk, (∀ q, vk = .ref q → q ≠ p) → (∃ q, vk = .ref q) → ∀ s ∈ ((e.set m (.val vk (.lst rds))).set i .un).set l .un, Clr p s)
    (hr : ∀ v p e vk, N v p e → EX K β W tr (((e.set m (.val vk (.lst rds))).set i .un).set l .un) P) :
    EX K β W (tSeq (tAsg te (gName i)) (tSeq s1 (tSeq s2 (tSeq (tAsg (tCB (rListOf K) (tCons (tTold K i) tNil)) (gName m)) (tSeq (tDrop (tBM K "list" rAppend (tTold K i) (tCons (tC .non) tNil))) tr))))) env P := fun σ G H g Dn c x =>
  he σ G H g _ fun v d G1 H1 t1 d1 f => by
    obtain ⟨u, rfl, fu⟩ := hF _ _ f
    obtain ⟨p, rfl, hp⟩ := fu rds rfl
    have hβ : β.H p = none := by
      cases q : β.H p with
      | none => rfl
      | some o => exact absurd hp (g.hn (by rw [q]; exact (fun e => nomatch e)))
    obtain ⟨am, hwm, ham⟩ : ∃ am, w = .ref am ∧ am ≠ p := by
      obtain ⟨o, _, rfl, dv⟩ := g.sl.get hj
      obtain ⟨am, ys, rfl, ha, _⟩ := dv.lstV
      exact ⟨am, rfl, fun z => by rw [z] at ha; rw [g.gh _ _ ha] at hp; cases hp⟩
    have hGp : G p = none := g.gh.back hp
    have gT := (g.up t1).set i d1
    show tSeq s1 s2 { Dn with nx := fun σ H => tSeq (tAsg (tCB (rListOf K) (tCons (tTold K i) tNil)) (gName m)) (tSeq (tDrop (tBM K "list" rAppend (tTold K i) (tCons (tC .non) tNil))) tr) Dn σ H } _ H1
    refine hmid v p _ G1 H1 gT _ ⟨fun σ2 e2 G2 H2 g2 x2 n2 => ?_, fun σ2 e2 G2 H2 v2 d2 g2 x2 dv n => c.rt σ2 e2 G2 H2 v2 d2 g2 (t1.gg.trans x2) dv n, fun σ2 e2 G2 H2 g2 x2 n => c.bk σ2 e2 G2 H2 g2 (t1.gg.trans x2) n, fun σ2 e2 G2 H2 g2 x2 n => c.ct σ2 e2 G2 H2 g2 (t1.gg.trans x2) n⟩ (x.up t1.gg)
    obtain ⟨hi, hclr⟩ := hN v p e2 n2
    -- kept
    refine ev_told hi σ2 G2 H2 g2 _ fun v3 G3 H3 t3 d3 => ?_
    obtain ⟨hv3, e3⟩ := d3.idnV
    subst hv3
    obtain ⟨p', xs, hpp, hq3, hx3⟩ := e3.lstV
    cases hpp
    refine ⟨p, xs, rfl, .inl (.inl (.inl ((g2.up t3).gh _ _ hq3))), fun q hq => ?_⟩
    have g3 := g2.up t3
    have hqG : G3 q = none := g3.gh.back hq
    have hqp : q ≠ p := fun z => by rw [z, hq3] at hqG; cases hqG
    have g4 := (g3.up (.new g3.gh hq)).set m (v := .ref q) (d := .lst rds) (.lst upd_same (hx3.up (.new hqG)))
    have hi4 : (e2.set m (.val (.ref q) (.lst rds)))[i]? = some (.val v (.lst [.str s, .idn (.ref p) (.lst rds)])) := by rw [List.getElem?_set_ne hm]; exact hi
    -- append
    refine ev_told hi4 _ _ _ g4 _ fun v5 G5 H5 t5 d5 => ?_
    obtain ⟨hv5, e5⟩ := d5.idnV
    subst hv5
    have g5 := g4.up t5
    have hp5 : G5 p = some (.lst xs) := t5.gg _ _ (by rw [upd_ne (Ne.symm hqp)]; exact hq3)
    have hp5H := g5.gh _ _ hp5
    refine ⟨.inl ⟨rfl, xs, .of hp5H⟩, p, xs, .non, rfl, rfl, hp5H, by rw [hx3.length]; exact hl, ?_⟩
    have hx5 : Ex G (cutH G5 p) := fun a o e => by
      unfold cutH
      rw [if_neg (fun z => by rw [z, hGp] at e; cases e)]
      exact t5.gg _ _ ((Ex.new hqG : Ex G3 (upd G3 q (.lst xs))) _ _ (t3.gg _ _ (x2 _ _ (t1.gg _ _ e))))
    have g6 := ((g5.forget i).forget l).cut (p := p) (u := .lst (xs ++ [.non])) hβ (hb p hβ) hp5 (hclr am hwm ham (.ref q) (fun q' z => by cases z; exact hqp) ⟨q, rfl⟩)
    exact hr v p e2 (.ref q) n2 _ _ _ g6 Dn (c.up hx5) (x.up hx5)
/-- an answer by its data alone -/
theorem ev_ofR {r : D} (he : EVR K β te env F) (hF : ∀ H d, F H d → ∃ u, d = .lst [.str s, .idn u r]) : EV K β te env (.lst [.str s, r]) := fun σ G H g Q q =>
  he σ G H g _ fun v d G1 H1 t1 d1 f => by
    obtain ⟨u, rfl⟩ := hF _ _ f
    refine q v G1 H1 t1 ?_
    cases d1 with
    | lst a b => cases b with | cons b1 b2 => cases b2 with | cons b2 b3 => exact .lst a (.cons b1 (.cons b2.strip b3))
theorem op_notInN {x : Nat} {ms : List Nat} : OpD K (rIn K true) (.int (x : Nat)) (.lst (lstN ms)) (.bl (!decide (x ∈ ms))) := fun G H v1 v2 e d1 d2 Q q => by
  obtain ⟨a, xs, rfl, ha, hx⟩ := d2.lstV
  cases d1
  have ex := DatL.natsV hx
  subst ex
  refine ⟨a, _, rfl, .inl (.inl (.inl (e _ _ ha))), rfl, flat_ints ms, ?_⟩
  rw [inV_ints]
  exact q _ G H (.refl e) (.bl _)
end
end DL

set_option Elab.async false
set_option linter.all false
set_option maxRecDepth 100000
set_option maxHeartbeats 2000000
/-! slices of lists that are data; xs[::-1] -/
namespace DL
open PySem PySem.Spec PyProof.Rows L2
section
theorem pe_revK (K : PySem.W.Frag) {X : Cx} {e : Expr} {te : TE} {k : Nat} {p1 p2 p3 pos : Pos} (he : PE X e te) (h : X.K = K := by rfl) : PE X (.Subscript e (.Slice none none (some (.UnaryOp .USub (.Constant (.int 1) k p1) p2)) p3) pos) (tRevL K te) := h ▸ pe_revL he
variable {K : PySem.W.Frag} {β : Bas} {env : Env'} {te tb : TE} {ds : List D}
theorem DatL.rev {G : Hp} : ∀ {xs : List V} {ds : List D}, DatL K G xs ds → DatL K G xs.reverse ds.reverse
  | _, _, .nil => .nil
  | _, _, .cons a t => by rw [List.reverse_cons, List.reverse_cons]; exact (DatL.rev t).append (.one a)
theorem ev_revL (h : EV K β te env (.lst ds)) : EV K β (tRevL K te) env (.lst ds.reverse) := fun σ G H g Q q =>
  h σ G H g _ fun v G1 H1 t1 d1 => by
    obtain ⟨a, xs, rfl, ha, hx⟩ := d1.lstV
    exact ⟨a, xs, rfl, .inl (.inl (t1.gh _ _ ha)), fun p hp => q _ (upd G1 p _) _ (t1.trans (.new t1.gh hp)) (.lst upd_same (hx.rev.up (.new (t1.gh.back hp))))⟩
theorem cut_to (ds : List D) (k : Nat) : (ds.drop (HT.sIx ds.length 0 none)).take (HT.sIx ds.length ds.length (some (k : Int)) - HT.sIx ds.length 0 none) = ds.take k := by
  rw [HT.sIx_none, HT.sIx_nat, List.drop_zero, Nat.sub_zero]
  rcases Nat.le_total k ds.length with hl | hl
  · rw [Nat.min_eq_left hl]
  · rw [Nat.min_eq_right hl, List.take_of_length_le (Nat.le_refl _), List.take_of_length_le hl]
theorem xe_slToL {P2 P : V → D → Env' → Prop} (h : EV K β te env (.lst ds)) (hb : XE K β tb env P2) (hp : ∀ v d e, P2 v d e → ∃ k : Nat, d = .int (k : Nat) ∧ ∀ v, P v (.lst (ds.take k)) e) : XE K β (tSl (rSlL K) te tNoPart (tPart tb)) env P := fun σ G H g Q q =>
  h σ G H g _ fun v1 G1 H1 t1 d1 => by
    obtain ⟨a, xs, rfl, ha, hx⟩ := d1.lstV
    refine hb σ G1 H1 (g.up t1) _ fun v2 d2 e2 G2 H2 g2 t2 o2 dv2 p2 => ?_
    obtain ⟨k, rfl, hP⟩ := hp _ _ _ p2
    have hc := (hx.up t2.gg).cut none (some (k : Int))
    rw [cut_to] at hc
    exact ⟨k, dv2.intV, a, xs, rfl, .inl (.inl (g2.gh _ _ (t2.gg _ _ ha))), fun p hp => q _ _ e2 (upd G2 p _) (upd H2 p _) (g2.up (.new g2.gh hp)) (StpE.tr g2 o2 (StpE.tr (g.up t1) rfl (.of t1) t2) (.of (.new g2.gh hp))) o2 (.lst upd_same (hc.up (.new (g2.gh.back hp)))) (hP _)⟩
theorem ev_slToL {k : Nat} (h : EV K β te env (.lst ds)) (hb : EV K β tb env (.int (k : Nat))) : EV K β (tSl (rSlL K) te tNoPart (tPart tb)) env (.lst (ds.take k)) := fun σ G H g Q q =>
  h σ G H g _ fun v1 G1 H1 t1 d1 => by
    obtain ⟨a, xs, rfl, ha, hx⟩ := d1.lstV
    refine hb σ G1 H1 (g.up t1) _ fun v2 G2 H2 t2 d2 => ?_
    have hc := (hx.up t2.gg).cut none (some (k : Int))
    rw [cut_to] at hc
    exact ⟨k, d2.intV, a, xs, rfl, .inl (.inl (t2.gh _ _ (t2.gg _ _ ha))), fun p hp => q _ (upd G2 p _) _ ((t1.trans t2).trans (.new t2.gh hp)) (.lst upd_same (hc.up (.new (t2.gh.back hp))))⟩
end
end DL

set_option Elab.async false
set_option linter.all false
set_option maxRecDepth 100000
set_option maxHeartbeats 2000000
/-! powers of an element, in plain numbers -/
namespace MP
def pw (f : Nat → Nat → Nat) (x : Nat) : Nat → Nat
  | 0 => x
  | k + 1 => f (pw f x k) x
structure Shape (f : Nat → Nat → Nat) (x m r : Nat) : Prop where
  rm : r < m
  dis : ∀ i j, i < m → j < m → pw f x i = pw f x j → i = j
  rep : pw f x m = pw f x r
section
variable {f : Nat → Nat → Nat} {n x m r : Nat}
theorem pw_lt (h : ∀ a b, a < n → b < n → f a b < n) (hx : x < n) : ∀ k, pw f x k < n
  | 0 => hx
  | k + 1 => h _ _ (pw_lt h hx k) hx
theorem nodup_le : ∀ (l D : List Nat), l.Nodup → (∀ x ∈ l, x ∈ D) → l.length ≤ D.length
  | [], _, _, _ => Nat.zero_le _
  | a :: l, D, hn, hs => by
    have ha : a ∈ D := hs a List.mem_cons_self
    obtain ⟨hna, hnl⟩ := List.nodup_cons.mp hn
    have := nodup_le l (D.erase a) hnl fun x hx => (List.mem_erase_of_ne (fun e => hna (by rw [← e]; exact hx))).mpr (hs x (List.mem_cons_of_mem _ hx))
    rw [List.length_erase_of_mem ha] at this
    have h1 : 1 ≤ D.length := List.length_pos_of_mem ha
    rw [List.length_cons]
    omega
theorem range_le {g : Nat → Nat} {k : Nat} (hg : ∀ i, i < k → g i < n) (hd : ∀ i j, i < k → j < k → g i = g j → i = j) : k ≤ n := by
  have := nodup_le ((List.range k).map g) (List.range n) ?_ ?_
  · simpa using this
  · rw [List.nodup_iff_pairwise_ne, List.pairwise_map]
    refine (List.pairwise_lt_range (n := k)).imp_of_mem ?_
    intro a b ha hb hlt e
    have := hd a b (List.mem_range.mp ha) (List.mem_range.mp hb) e
    omega
  · intro y hy
    obtain ⟨i, hi, rfl⟩ := List.mem_map.mp hy
    exact List.mem_range.mpr (hg i (List.mem_range.mp hi))
theorem shape_ex (h : ∀ a b, a < n → b < n → f a b < n) (hx : x < n) : ∃ m r, Shape f x m r ∧ m ≤ n := by
  have ex : ∃ k, ∃ i, i < k ∧ pw f x k = pw f x i := by
    by_cases c : ∃ k, ∃ i, i < k ∧ pw f x k = pw f x i
    · exact c
    · exfalso
      have := range_le (n := n) (g := pw f x) (k := n + 1) (fun i _ => pw_lt h hx i) (fun i j _ _ e => by
        rcases Nat.lt_trichotomy i j with q | q | q
        · exact absurd ⟨j, i, q, e.symm⟩ c
        · exact q
        · exact absurd ⟨i, j, q, e⟩ c)
      omega
  have least : ∀ k, (∃ i, i < k ∧ pw f x k = pw f x i) → ∃ m, (∃ i, i < m ∧ pw f x m = pw f x i) ∧ ∀ m', m' < m → ¬ ∃ i, i < m' ∧ pw f x m' = pw f x i := by
    intro k
    induction k using Nat.strongRecOn with
    | _ k ih =>
      intro hk
      by_cases c : ∃ k', k' < k ∧ ∃ i, i < k' ∧ pw f x k' = pw f x i
      · obtain ⟨k', h1, h2⟩ := c
        exact ih k' h1 h2
      · exact ⟨k, hk, fun m' h1 h2 => c ⟨m', h1, h2⟩⟩
  obtain ⟨k, hk⟩ := ex
  obtain ⟨m, ⟨r, hr, he⟩, hm⟩ := least k hk
  have dis : ∀ i j, i < m → j < m → pw f x i = pw f x j → i = j := fun i j hi hj e => by
    rcases Nat.lt_trichotomy i j with q | q | q
    · exact absurd ⟨i, q, e.symm⟩ (hm j hj)
    · exact q
    · exact absurd ⟨j, q, e⟩ (hm i hi)
  exact ⟨m, r, ⟨hr, dis, he⟩, range_le (fun i _ => pw_lt h hx i) dis⟩
theorem Shape.per (S : Shape f x m r) : ∀ k, pw f x (r + k + (m - r)) = pw f x (r + k)
  | 0 => by rw [Nat.add_zero, show r + (m - r) = m by have := S.rm; omega]; exact S.rep
  | k + 1 => by
    rw [show r + (k + 1) + (m - r) = (r + k + (m - r)) + 1 by omega, show r + (k + 1) = (r + k) + 1 by omega]
    show f (pw f x (r + k + (m - r))) x = f (pw f x (r + k)) x
    rw [S.per k]
theorem Shape.mod (S : Shape f x m r) (k : Nat) : pw f x (r + k) = pw f x (r + k % (m - r)) := by
  have hp : 0 < m - r := by have := S.rm; omega
  induction k using Nat.strongRecOn with
  | _ k ih =>
    by_cases c : k < m - r
    · rw [Nat.mod_eq_of_lt c]
    · have e : r + k = r + (k - (m - r)) + (m - r) := by omega
      rw [e, S.per, ih (k - (m - r)) (by omega), Nat.mod_eq_sub_mod (by omega : k ≥ m - r)]
theorem Shape.uniq {m' r' : Nat} (S : Shape f x m r) (S' : Shape f x m' r') : m = m' ∧ r = r' := by
  have e : m = m' := by
    rcases Nat.lt_trichotomy m m' with q | q | q
    · have := S'.dis m r q (Nat.lt_trans S.rm q) S.rep
      have := S.rm; omega
    · exact q
    · have := S.dis m' r' q (Nat.lt_trans S'.rm q) S'.rep
      have := S'.rm; omega
  subst e
  exact ⟨rfl, S.dis r r' S.rm S'.rm (S.rep.symm.trans S'.rep)⟩
/-- products of powers -/
theorem pw_add (h : ∀ a b, a < n → b < n → f a b < n) (hx : x < n) (as : ∀ a b c, a < n → b < n → c < n → f (f a b) c = f a (f b c)) (a : Nat) : ∀ b, f (pw f x a) (pw f x b) = pw f x (a + b + 1)
  | 0 => rfl
  | b + 1 => by
    show f (pw f x a) (f (pw f x b) x) = f (pw f x (a + b + 1)) x
    rw [← as _ _ _ (pw_lt h hx a) (pw_lt h hx b) hx, pw_add h hx as a b]
end
end MP

set_option Elab.async false
set_option linter.all false
set_option maxRecDepth 100000
set_option maxHeartbeats 2000000
/-! transformations that come from some, in plain lists -/
namespace MP
def comp (a b : List Nat) : List Nat := a.map fun i => b.getD i 0
def Mv (p : Nat) (a : List Nat) : Prop := a.length = p ∧ ∀ i ∈ a, i < p
theorem getD_mem {b : List Nat} {i : Nat} (h : i < b.length) : b.getD i 0 ∈ b := by
  rw [List.getD_eq_getElem?_getD, List.getElem?_eq_getElem h]
  exact List.getElem_mem h
theorem Mv.comp {p : Nat} {a b : List Nat} (ha : Mv p a) (hb : Mv p b) : Mv p (comp a b) := by
  refine ⟨by unfold MP.comp; rw [List.length_map]; exact ha.1, fun i hi => ?_⟩
  unfold MP.comp at hi
  obtain ⟨j, hj, rfl⟩ := List.mem_map.mp hi
  exact hb.2 _ (getD_mem (by rw [hb.1]; exact ha.2 j hj))
theorem comp_assoc {p : Nat} {a b c : List Nat} (ha : Mv p a) (hb : Mv p b) : comp (comp a b) c = comp a (comp b c) := by
  unfold comp
  rw [List.map_map]
  refine List.map_congr_left fun i hi => ?_
  have h := ha.2 i hi
  show c.getD (b.getD i 0) 0 = (b.map fun i => c.getD i 0).getD i 0
  rw [List.getD_eq_getElem?_getD (l := b.map _), List.getElem?_map, List.getD_eq_getElem?_getD (l := b), List.getElem?_eq_getElem (by rw [hb.1]; exact h)]
  rfl
/-- one turn: what is found at a place, followed by each move -/
def addL (acc : List (List Nat)) (a : List Nat) : List (List Nat) := if a ∈ acc then acc else acc ++ [a]
def stepL (ms : List (List Nat)) (x : List Nat) (found : List (List Nat)) : List (List Nat) := ms.foldl (fun acc m => addL acc (comp x m)) found
def fmL (ms : List (List Nat)) (most : Nat) : Nat → List (List Nat) → Nat → Option (List (List Nat))
  | 0, _, _ => none
  | k + 1, found, at' => match found[at']? with
    | some x => if most < (stepL ms x found).length then none else fmL ms most k (stepL ms x found) (at' + 1)
    | none => some found
theorem addL_pre {acc : List (List Nat)} {a : List Nat} : ∃ t, addL acc a = acc ++ t := by
  unfold addL
  split
  · exact ⟨[], by rw [List.append_nil]⟩
  · exact ⟨[a], rfl⟩
theorem addL_mem {acc : List (List Nat)} {a : List Nat} : a ∈ addL acc a := by
  unfold addL
  split
  · assumption
  · exact List.mem_append.mpr (.inr List.mem_cons_self)
theorem addL_of {acc : List (List Nat)} {a y : List Nat} (h : y ∈ addL acc a) : y ∈ acc ∨ y = a := by
  unfold addL at h
  split at h
  · exact .inl h
  · rcases List.mem_append.mp h with h | h
    · exact .inl h
    · exact .inr (List.mem_singleton.mp h)
theorem stepL_pre {x : List Nat} : ∀ (ms found : List (List Nat)), ∃ t, stepL ms x found = found ++ t
  | [], found => ⟨[], by rw [List.append_nil]; rfl⟩
  | m :: ms, found => by
    obtain ⟨t1, h1⟩ := addL_pre (acc := found) (a := comp x m)
    obtain ⟨t2, h2⟩ := stepL_pre (x := x) ms (addL found (comp x m))
    refine ⟨t1 ++ t2, ?_⟩
    show stepL ms x (addL found (comp x m)) = _
    rw [h2, h1, List.append_assoc]
theorem stepL_has {x : List Nat} : ∀ (ms found : List (List Nat)) (m : List Nat), m ∈ ms → comp x m ∈ stepL ms x found
  | m' :: ms, found, m, h => by
    rcases List.mem_cons.mp h with rfl | h
    · obtain ⟨t2, h2⟩ := stepL_pre (x := x) ms (addL found (comp x m))
      show comp x m ∈ stepL ms x (addL found (comp x m))
      rw [h2]
      exact List.mem_append.mpr (.inl addL_mem)
    · exact stepL_has ms (addL found (comp x m')) m h
theorem stepL_of {x : List Nat} : ∀ (ms found : List (List Nat)) (y : List Nat), y ∈ stepL ms x found → y ∈ found ∨ ∃ m, m ∈ ms ∧ y = comp x m
  | [], found, y, h => .inl h
  | m :: ms, found, y, h => by
    rcases stepL_of (x := x) ms (addL found (comp x m)) y h with h | ⟨m', hm, e⟩
    · rcases addL_of h with h | h
      · exact .inl h
      · exact .inr ⟨m, List.mem_cons_self, h⟩
    · exact .inr ⟨m', List.mem_cons_of_mem _ hm, e⟩
inductive Gen (ms : List (List Nat)) : List Nat → Prop
  | base {m : List Nat} : m ∈ ms → Gen ms m
  | step {x m : List Nat} : Gen ms x → m ∈ ms → Gen ms (comp x m)
structure Inv (p : Nat) (ms found : List (List Nat)) (at' : Nat) : Prop where
  mv : ∀ m ∈ ms, Mv p m
  base : ∀ m ∈ ms, m ∈ found
  gen : ∀ y ∈ found, Gen ms y
  cl : ∀ i x, i < at' → found[i]? = some x → ∀ m ∈ ms, comp x m ∈ found
theorem Gen.mv {p : Nat} {ms : List (List Nat)} (h : ∀ m ∈ ms, Mv p m) {y : List Nat} (g : Gen ms y) : Mv p y := by
  induction g with
  | base hm => exact h _ hm
  | step _ hm ih => exact ih.comp (h _ hm)
theorem Inv.next {p : Nat} {ms found : List (List Nat)} {at' : Nat} {x : List Nat} (I : Inv p ms found at') (hx : found[at']? = some x) : Inv p ms (stepL ms x found) (at' + 1) := by
  obtain ⟨t, ht⟩ := stepL_pre (x := x) ms found
  have hxm : x ∈ found := List.mem_of_getElem? hx
  refine ⟨I.mv, fun m hm => by rw [ht]; exact List.mem_append.mpr (.inl (I.base m hm)), fun y hy => ?_, fun i y hi hy m hm => ?_⟩
  · rcases stepL_of ms found y hy with h | ⟨m, hm, rfl⟩
    · exact I.gen y h
    · exact .step (I.gen x hxm) hm
  · have hl : at' < found.length := (List.getElem?_eq_some_iff.mp hx).1
    have hy' : found[i]? = some y := by
      rw [ht, List.getElem?_append_left (by omega)] at hy
      exact hy
    by_cases e : i = at'
    · subst e
      rw [hx] at hy'
      cases hy'
      exact stepL_has ms found m hm
    · rw [ht]
      exact List.mem_append.mpr (.inl (I.cl i y (by omega) hy' m hm))
theorem fmL_inv {p : Nat} {ms : List (List Nat)} {most : Nat} : ∀ (k : Nat) (found : List (List Nat)) (at' : Nat) (L : List (List Nat)), Inv p ms found at' → (at' = 0 ∨ found.length ≤ most) → found ≠ [] → fmL ms most k found at' = some L → (∃ at2, L.length ≤ at2 ∧ Inv p ms L at2) ∧ L.length ≤ most ∧ L ≠ []
  | 0, _, _, _, _, _, _, h => by cases h
  | k + 1, found, at', L, I, hm, hne, h => by
    unfold fmL at h
    cases q : found[at']? with
    | some x =>
      rw [q] at h
      by_cases c : most < (stepL ms x found).length
      · simp only [if_pos c] at h
        cases h
      · simp only [if_neg c] at h
        refine fmL_inv k _ _ L (I.next q) (.inr (by omega)) ?_ h
        obtain ⟨t, ht⟩ := stepL_pre (x := x) ms found
        rw [ht]
        intro e
        exact hne (List.append_eq_nil_iff.mp e).1
    | none =>
      rw [q] at h
      cases h
      have hl := List.getElem?_eq_none_iff.mp q
      refine ⟨⟨at', hl, I⟩, ?_, hne⟩
      rcases hm with rfl | hm
      · exact absurd (List.eq_nil_of_length_eq_zero (Nat.le_zero.mp hl)) hne
      · exact hm
theorem Inv.closed {p : Nat} {ms L : List (List Nat)} {at2 : Nat} (I : Inv p ms L at2) (h : L.length ≤ at2) {x y : List Nat} (hx : x ∈ L) (hy : y ∈ L) : comp x y ∈ L := by
  have cl : ∀ x ∈ L, ∀ m ∈ ms, comp x m ∈ L := fun x hx m hm => by
    obtain ⟨i, hi⟩ := List.mem_iff_getElem?.mp hx
    exact I.cl i x (Nat.lt_of_lt_of_le (List.getElem?_eq_some_iff.mp hi).1 h) hi m hm
  have key : ∀ y, Gen ms y → ∀ x ∈ L, comp x y ∈ L := fun y g => by
    induction g with
    | base hm => exact fun x hx => cl x hx _ hm
    | @step y m gy hm ih =>
      intro x hx
      rw [← comp_assoc (p := p) ((I.gen x hx).mv I.mv) (gy.mv I.mv)]
      exact cl _ (ih x hx) m hm
  exact key y (I.gen y hy) x hx
/-- the table of such a lot -/
def idxT (L : List (List Nat)) (x y : Nat) : Nat := L.idxOf (comp (L.getD x []) (L.getD y []))
theorem getD_memL {L : List (List Nat)} {i : Nat} (h : i < L.length) : L.getD i [] ∈ L := by
  rw [List.getD_eq_getElem?_getD, List.getElem?_eq_getElem h]
  exact List.getElem_mem h
theorem idxT_lt {L : List (List Nat)} (h : ∀ x ∈ L, ∀ y ∈ L, comp x y ∈ L) {a b : Nat} (ha : a < L.length) (hb : b < L.length) : idxT L a b < L.length :=
  List.idxOf_lt_length_iff.mpr (h _ (getD_memL ha) _ (getD_memL hb))
theorem idxT_get {L : List (List Nat)} (h : ∀ x ∈ L, ∀ y ∈ L, comp x y ∈ L) {a b : Nat} (ha : a < L.length) (hb : b < L.length) : L.getD (idxT L a b) [] = comp (L.getD a []) (L.getD b []) := by
  have hl := idxT_lt h ha hb
  rw [List.getD_eq_getElem?_getD, List.getElem?_eq_getElem hl]
  exact List.getElem_idxOf hl
theorem idxT_assoc {p : Nat} {L : List (List Nat)} (hm : ∀ x ∈ L, Mv p x) (h : ∀ x ∈ L, ∀ y ∈ L, comp x y ∈ L) {a b c : Nat} (ha : a < L.length) (hb : b < L.length) (hc : c < L.length) : idxT L (idxT L a b) c = idxT L a (idxT L b c) := by
  unfold idxT
  rw [show L.getD (L.idxOf (comp (L.getD a []) (L.getD b []))) [] = _ from idxT_get h ha hb, show L.getD (L.idxOf (comp (L.getD b []) (L.getD c []))) [] = _ from idxT_get h hb hc]
  rw [comp_assoc (hm _ (getD_memL ha)) (hm _ (getD_memL hb))]
end MP

set_option Elab.async false
set_option linter.all false
set_option maxRecDepth 100000
set_option maxHeartbeats 2000000
/-! semigroups of simple kinds, relabelled ones, one element more, in plain numbers -/
namespace MP
structure Semi (n : Nat) (f : Nat → Nat → Nat) : Prop where
  cl : ∀ a b, a < n → b < n → f a b < n
  as : ∀ a b c, a < n → b < n → c < n → f (f a b) c = f a (f b c)
theorem Semi.congr {n : Nat} {f g : Nat → Nat → Nat} (h : Semi n f) (e : ∀ a b, a < n → b < n → g a b = f a b) : Semi n g :=
  ⟨fun a b ha hb => by rw [e a b ha hb]; exact h.cl a b ha hb, fun a b c ha hb hc => by
    rw [e a b ha hb, e b c hb hc, e _ _ (h.cl a b ha hb) hc, e _ _ ha (h.cl b c hb hc)]
    exact h.as a b c ha hb hc⟩
theorem semi_left (n : Nat) : Semi n (fun x _ => x) := ⟨fun _ _ h _ => h, fun _ _ _ _ _ _ => rfl⟩
theorem semi_right (n : Nat) : Semi n (fun _ y => y) := ⟨fun _ _ _ h => h, fun _ _ _ _ _ _ => rfl⟩
theorem semi_null {n : Nat} (h : 0 < n) : Semi n (fun _ _ => 0) := ⟨fun _ _ _ _ => h, fun _ _ _ _ _ _ => rfl⟩
theorem semi_min (n : Nat) : Semi n (fun x y => if y < x then y else x) :=
  ⟨fun a b ha hb => by show (if b < a then b else a) < n; split <;> assumption, fun a b c _ _ _ => by show (if c < (if b < a then b else a) then c else (if b < a then b else a)) = (if (if c < b then c else b) < a then (if c < b then c else b) else a); by_cases h1 : b < a <;> by_cases h2 : c < b <;> by_cases h3 : c < a <;> simp [h1, h2, h3] <;> omega⟩
theorem semi_clock {n : Nat} (h : 0 < n) : Semi n (fun x y => (x + y) % n) :=
  ⟨fun a b _ _ => Nat.mod_lt _ h, fun a b c _ _ _ => by
    show ((a + b) % n + c) % n = (a + (b + c) % n) % n
    rw [Nat.mod_add_mod, Nat.add_mod_mod, Nat.add_assoc]⟩
/-- the powers of one element, with the index i, m elements -/
def stp (i m k : Nat) : Nat := if k < m then k else i - 1 + (k + 1 - i) % (m + 1 - i)
theorem stp_eq {i m k : Nat} (h1 : 1 ≤ i) (h2 : i ≤ m) : stp i m k = if k < i - 1 then k else i - 1 + (k - (i - 1)) % (m + 1 - i) := by
  unfold stp
  by_cases a : k < i - 1
  · rw [if_pos a, if_pos (by omega)]
  · rw [if_neg a]
    by_cases b : k < m
    · rw [if_pos b, Nat.mod_eq_of_lt (by omega)]
      omega
    · rw [if_neg b, show k + 1 - i = k - (i - 1) by omega]
theorem stp_lt {i m k : Nat} (h1 : 1 ≤ i) (h2 : i ≤ m) : stp i m k < m := by
  rw [stp_eq h1 h2]
  split
  · omega
  · have := Nat.mod_lt (k - (i - 1)) (show 0 < m + 1 - i by omega)
    omega
theorem stp_add {i m k j : Nat} (h1 : 1 ≤ i) (h2 : i ≤ m) : stp i m (stp i m k + j) = stp i m (k + j) := by
  rw [stp_eq (k := k) h1 h2]
  split
  · rfl
  · rename_i a
    rw [stp_eq h1 h2, stp_eq h1 h2, if_neg (by omega), if_neg (by omega)]
    congr 1
    rw [show i - 1 + (k - (i - 1)) % (m + 1 - i) + j - (i - 1) = (k - (i - 1)) % (m + 1 - i) + j by omega, Nat.mod_add_mod, show k - (i - 1) + j = k + j - (i - 1) by omega]
theorem semi_mono {i m : Nat} (h1 : 1 ≤ i) (h2 : i ≤ m) : Semi m (fun x y => stp i m (x + y + 1)) :=
  ⟨fun a b _ _ => stp_lt h1 h2, fun a b c _ _ _ => by
    show stp i m (stp i m (a + b + 1) + c + 1) = stp i m (a + stp i m (b + c + 1) + 1)
    rw [show stp i m (a + b + 1) + c + 1 = stp i m (a + b + 1) + (c + 1) by omega, stp_add h1 h2, show a + stp i m (b + c + 1) + 1 = stp i m (b + c + 1) + (a + 1) by omega, stp_add h1 h2]
    congr 1
    omega⟩
theorem rect_lt {l r a b : Nat} (ha : a < l * r) (hr : 0 < r) : a / r * r + b % r < l * r := by
  have h1 : a / r < l := Nat.div_lt_of_lt_mul (by rw [Nat.mul_comm]; exact ha)
  have h2 := Nat.mod_lt b hr
  calc a / r * r + b % r < a / r * r + r := by omega
    _ = (a / r + 1) * r := by rw [Nat.succ_mul]
    _ ≤ l * r := Nat.mul_le_mul_right r h1
theorem semi_rect {l r : Nat} (hr : 0 < r) : Semi (l * r) (fun x y => x / r * r + y % r) :=
  ⟨fun a b ha _ => rect_lt ha hr, fun a b c _ _ _ => by
    show (a / r * r + b % r) / r * r + c % r = a / r * r + (b / r * r + c % r) % r
    rw [Nat.mul_comm (a / r) r, Nat.mul_add_div hr, Nat.div_eq_of_lt (Nat.mod_lt b hr), Nat.add_zero, Nat.mul_comm (b / r) r, Nat.mul_add_mod, Nat.mod_mod, Nat.mul_comm r (a / r)]⟩
/-- an identity more -/
def idF (n : Nat) (f : Nat → Nat → Nat) (x y : Nat) : Nat := if x < n then (if y < n then f x y else x) else y
theorem semi_id {n : Nat} {f : Nat → Nat → Nat} (h : Semi n f) : Semi (n + 1) (idF n f) := by
  refine ⟨fun a b ha hb => ?_, fun a b c ha hb hc => ?_⟩
  · unfold idF
    by_cases h1 : a < n
    · rw [if_pos h1]
      by_cases h2 : b < n
      · rw [if_pos h2]; have := h.cl a b h1 h2; omega
      · rw [if_neg h2]; exact ha
    · rw [if_neg h1]; exact hb
  · unfold idF
    by_cases h1 : a < n <;> by_cases h2 : b < n <;> by_cases h3 : c < n <;> simp only [h1, h2, h3, if_true, if_false, h.cl] 
    · exact h.as a b c h1 h2 h3
/-- a zero more -/
def zeF (n : Nat) (f : Nat → Nat → Nat) (x y : Nat) : Nat := if x < n then (if y < n then f x y else n) else n
theorem semi_ze {n : Nat} {f : Nat → Nat → Nat} (h : Semi n f) : Semi (n + 1) (zeF n f) := by
  refine ⟨fun a b ha hb => ?_, fun a b c ha hb hc => ?_⟩
  · unfold zeF
    by_cases h1 : a < n
    · rw [if_pos h1]
      by_cases h2 : b < n
      · rw [if_pos h2]; have := h.cl a b h1 h2; omega
      · rw [if_neg h2]; omega
    · rw [if_neg h1]; omega
  · unfold zeF
    by_cases h1 : a < n <;> by_cases h2 : b < n <;> by_cases h3 : c < n <;> simp [h1, h2, h3, h.cl]
    · exact h.as a b c h1 h2 h3
/-- other names -/
def relF (f : Nat → Nat → Nat) (ns : List Nat) (x y : Nat) : Nat := ns.getD (f (ns.idxOf x) (ns.idxOf y)) 0
theorem perm_facts {n : Nat} {ns : List Nat} (h : ns.Perm (List.range n)) : ns.length = n ∧ (∀ x, x < n → x ∈ ns) ∧ (∀ x ∈ ns, x < n) ∧ ns.Nodup :=
  ⟨by rw [h.length_eq, List.length_range], fun x hx => h.mem_iff.mpr (List.mem_range.mpr hx), fun x hx => List.mem_range.mp (h.mem_iff.mp hx), h.nodup_iff.mpr List.nodup_range⟩
theorem idx_lt {n : Nat} {ns : List Nat} (h : ns.Perm (List.range n)) {x : Nat} (hx : x < n) : ns.idxOf x < n := by
  obtain ⟨h1, h2, _⟩ := perm_facts h
  rw [← h1]
  exact List.idxOf_lt_length_iff.mpr (h2 x hx)
theorem get_lt {n : Nat} {ns : List Nat} (h : ns.Perm (List.range n)) {i : Nat} (hi : i < n) : ns.getD i 0 < n := by
  obtain ⟨h1, _, h3, _⟩ := perm_facts h
  rw [← h1] at hi
  rw [List.getD_eq_getElem?_getD, List.getElem?_eq_getElem hi]
  exact h3 _ (List.getElem_mem hi)
theorem idx_get {n : Nat} {ns : List Nat} (h : ns.Perm (List.range n)) {i : Nat} (hi : i < n) : ns.idxOf (ns.getD i 0) = i := by
  obtain ⟨h1, _, _, h4⟩ := perm_facts h
  rw [← h1] at hi
  rw [List.getD_eq_getElem?_getD, List.getElem?_eq_getElem hi]
  exact h4.idxOf_getElem i hi
theorem get_idx {n : Nat} {ns : List Nat} (h : ns.Perm (List.range n)) {x : Nat} (hx : x < n) : ns.getD (ns.idxOf x) 0 = x := by
  have hl : ns.idxOf x < ns.length := List.idxOf_lt_length_iff.mpr ((perm_facts h).2.1 x hx)
  rw [List.getD_eq_getElem?_getD, List.getElem?_eq_getElem hl]
  exact List.getElem_idxOf hl
theorem semi_rel {n : Nat} {f : Nat → Nat → Nat} {ns : List Nat} (h : Semi n f) (hp : ns.Perm (List.range n)) : Semi n (relF f ns) := by
  refine ⟨fun a b ha hb => get_lt hp (h.cl _ _ (idx_lt hp ha) (idx_lt hp hb)), fun a b c ha hb hc => ?_⟩
  have ia := idx_lt hp ha
  have ib := idx_lt hp hb
  have ic := idx_lt hp hc
  unfold relF
  rw [idx_get hp (h.cl _ _ ia ib), idx_get hp (h.cl _ _ ib ic), h.as _ _ _ ia ib ic]
theorem semi_idx {p : Nat} {L : List (List Nat)} (hm : ∀ x ∈ L, Mv p x) (h : ∀ x ∈ L, ∀ y ∈ L, comp x y ∈ L) : Semi L.length (idxT L) :=
  ⟨fun _ _ ha hb => idxT_lt h ha hb, fun _ _ _ ha hb hc => idxT_assoc hm h ha hb hc⟩
end MP

set_option Elab.async false
set_option linter.all false
set_option maxRecDepth 100000
set_option maxHeartbeats 2000000
/-! idempotents among powers; exponents -/
namespace MP
/-- the least of its kind -/
theorem least_of {P : Nat → Prop} (k : Nat) (h : P k) : ∃ m, m ≤ k ∧ P m ∧ ∀ j, j < m → ¬ P j := by
  induction k using Nat.strongRecOn with
  | _ k ih =>
    by_cases c : ∃ k', k' < k ∧ P k'
    · obtain ⟨k', h1, h2⟩ := c
      obtain ⟨m, h3, h4⟩ := ih k' h1 h2
      exact ⟨m, by omega, h4⟩
    · exact ⟨k, Nat.le_refl _, h, fun j h1 h2 => c ⟨j, h1, h2⟩⟩
section
variable {f : Nat → Nat → Nat} {n x m r : Nat}
def Idem (f : Nat → Nat → Nat) (y : Nat) : Prop := f y y = y
instance (f : Nat → Nat → Nat) (y : Nat) : Decidable (Idem f y) := inferInstanceAs (Decidable (f y y = y))
theorem Shape.nf (S : Shape f x m r) (k : Nat) : ∃ i, i < m ∧ pw f x k = pw f x i ∧ ((k < r ∧ i = k) ∨ (r ≤ k ∧ i = r + (k - r) % (m - r))) := by
  have hp : 0 < m - r := by have := S.rm; omega
  by_cases c : k < r
  · exact ⟨k, by have := S.rm; omega, rfl, .inl ⟨c, rfl⟩⟩
  · have h := S.mod (k - r)
    rw [show r + (k - r) = k by omega] at h
    exact ⟨_, by have := Nat.mod_lt (k - r) hp; omega, h, .inr ⟨by omega, rfl⟩⟩
theorem Shape.idem (S : Shape f x m r) (h : Semi n f) (hx : x < n) (k : Nat) : Idem f (pw f x k) ↔ r ≤ k ∧ (k + 1) % (m - r) = 0 := by
  have hp : 0 < m - r := by have := S.rm; omega
  have ha := pw_add h.cl hx h.as k k
  unfold Idem
  rw [ha]
  obtain ⟨i, hi, ei, ci⟩ := S.nf k
  obtain ⟨j, hj, ej, cj⟩ := S.nf (k + k + 1)
  rw [ei, ej]
  constructor
  · intro e
    have e2 := S.dis j i hj hi e
    rcases ci with ⟨c1, rfl⟩ | ⟨c1, rfl⟩
    · exfalso
      rcases cj with ⟨c2, rfl⟩ | ⟨c2, rfl⟩ <;> omega
    · rcases cj with ⟨c2, rfl⟩ | ⟨c2, rfl⟩
      · omega
      · have e3 : (k + k + 1 - r) % (m - r) = (k - r) % (m - r) := by omega
        have := Nat.sub_mod_eq_zero_of_mod_eq e3
        rw [show k + k + 1 - r - (k - r) = k + 1 by omega] at this
        exact ⟨c1, this⟩
  · rintro ⟨c1, c2⟩
    rcases ci with ⟨c3, rfl⟩ | ⟨c3, rfl⟩
    · omega
    · rcases cj with ⟨c4, rfl⟩ | ⟨c4, rfl⟩
      · omega
      · rw [show k + k + 1 - r = (k - r) + (k + 1) by omega, Nat.add_mod, c2, Nat.add_zero, Nat.mod_mod]
theorem Shape.one_idem (S : Shape f x m r) (h : Semi n f) (hx : x < n) : ∃ j, j < m ∧ Idem f (pw f x j) ∧ ∀ i, i < m → Idem f (pw f x i) → i = j := by
  have hp : 0 < m - r := by have := S.rm; omega
  have ex : ∃ j, r ≤ j ∧ j < m ∧ (j + 1) % (m - r) = 0 := by
    have ht := Nat.mod_lt (r + 1) hp
    have hd := Nat.div_add_mod (r + 1) (m - r)
    by_cases c : (r + 1) % (m - r) = 0
    · exact ⟨r, Nat.le_refl _, S.rm, c⟩
    · refine ⟨r + (m - r - (r + 1) % (m - r)), by omega, by omega, ?_⟩
      rw [show r + (m - r - (r + 1) % (m - r)) + 1 = (m - r) * ((r + 1) / (m - r)) + (m - r) by omega, ← Nat.mul_succ, Nat.mul_mod_right]
  obtain ⟨j, h1, h2, h3⟩ := ex
  refine ⟨j, h2, (S.idem h hx j).mpr ⟨h1, h3⟩, fun i hi hd => ?_⟩
  obtain ⟨h4, h5⟩ := (S.idem h hx i).mp hd
  rcases Nat.le_total i j with q | q
  · have := Nat.sub_mod_eq_zero_of_mod_eq (h3.trans h5.symm)
    rw [Nat.mod_eq_of_lt (by omega)] at this
    omega
  · have := Nat.sub_mod_eq_zero_of_mod_eq (h5.trans h3.symm)
    rw [Nat.mod_eq_of_lt (by omega)] at this
    omega
/-- all k-th powers are idempotent -/
def allId (n : Nat) (f : Nat → Nat → Nat) (k : Nat) : Bool := (List.range n).all fun x => decide (Idem f (pw f x (k - 1)))
structure IsExp (n : Nat) (f : Nat → Nat → Nat) (e : Nat) : Prop where
  e1 : 1 ≤ e
  small : e ≤ 2520
  yes : allId n f e = true
  no : ∀ k, 1 ≤ k → k < e → allId n f k = false
theorem exp_ex (h : Semi n f) (hn : n ≤ 10) : ∃ e, IsExp n f e := by
  have all : ∀ p, p < 11 → 1 ≤ p → 2520 % p = 0 := by decide
  have h0 : 1 ≤ 2520 ∧ allId n f 2520 = true := by
    refine ⟨by decide, ?_⟩
    unfold allId
    rw [List.all_eq_true]
    intro x hx
    have hx := List.mem_range.mp hx
    obtain ⟨m, r, S, hm⟩ := shape_ex h.cl hx
    refine decide_eq_true ((S.idem h hx _).mpr ⟨by have := S.rm; omega, ?_⟩)
    exact all (m - r) (by omega) (by have := S.rm; omega)
  obtain ⟨e, h1, h2, h3⟩ := least_of (P := fun k => 1 ≤ k ∧ allId n f k = true) 2520 h0
  refine ⟨e, h2.1, h1, h2.2, fun k hk hl => ?_⟩
  cases q : allId n f k with
  | false => rfl
  | true => exact absurd ⟨hk, q⟩ (h3 k hl)
end
end MP

set_option Elab.async false
set_option linter.all false
/-! plain: a finite semigroup in which all rows and columns have different members is a group -/
namespace MP
theorem inj_surj {n : Nat} {g : Nat → Nat} (hl : ∀ x, x < n → g x < n) (hi : ((List.range n).map g).Nodup) {t : Nat} (ht : t < n) : ∃ x, x < n ∧ g x = t := by
  by_cases c : t ∈ (List.range n).map g
  · obtain ⟨x, hx, e⟩ := List.mem_map.mp c
    exact ⟨x, List.mem_range.mp hx, e⟩
  · exfalso
    have h1 : (t :: (List.range n).map g).Nodup := List.nodup_cons.mpr ⟨c, hi⟩
    have h2 := nodup_le _ (List.range n) h1 fun x hx => by
      rcases List.mem_cons.mp hx with rfl | hx
      · exact List.mem_range.mpr ht
      · obtain ⟨y, hy, rfl⟩ := List.mem_map.mp hx
        exact List.mem_range.mpr (hl y (List.mem_range.mp hy))
    rw [List.length_cons, List.length_map, List.length_range] at h2
    omega
theorem inj_of {n : Nat} {g : Nat → Nat} (hi : ((List.range n).map g).Nodup) {a b : Nat} (ha : a < n) (hb : b < n) (h : g a = g b) : a = b := by
  rw [List.nodup_iff_pairwise_ne, List.pairwise_map, List.pairwise_iff_getElem] at hi
  rcases Nat.lt_trichotomy a b with c | c | c
  · have q := hi a b (by simpa using ha) (by simpa using hb) c
    rw [List.getElem_range, List.getElem_range] at q
    exact absurd h q
  · exact c
  · have q := hi b a (by simpa using hb) (by simpa using ha) c
    rw [List.getElem_range, List.getElem_range] at q
    exact absurd h.symm q
/-- an identity, and every member with an inverse -/
theorem cancel_group {n : Nat} {f : Nat → Nat → Nat} (hn : 1 ≤ n) (hc : ∀ a b, a < n → b < n → f a b < n) (ha : ∀ a b c, a < n → b < n → c < n → f (f a b) c = f a (f b c))
    (hr : ∀ x, x < n → ((List.range n).map (f x)).Nodup) (hl : ∀ x, x < n → ((List.range n).map fun y => f y x).Nodup) :
    ∃ e, e < n ∧ (∀ x, x < n → f e x = x ∧ f x e = x) ∧ ∀ x, x < n → ∃ y, y < n ∧ f x y = e ∧ f y x = e := by
  obtain ⟨e, he, h0⟩ := inj_surj (g := f 0) (fun x hx => hc 0 x hn hx) (hr 0 hn) hn
  have hL : ∀ z, z < n → f e z = z := fun z hz => inj_of (hr 0 hn) (hc e z he hz) hz (by rw [← ha 0 e z hn he hz, h0])
  have hR : ∀ z, z < n → f z e = z := fun z hz => inj_of (hl z hz) (hc z e hz he) hz (show f (f z e) z = f z z by rw [ha z e z hz he hz, hL z hz])
  refine ⟨e, he, fun x hx => ⟨hL x hx, hR x hx⟩, fun x hx => ?_⟩
  obtain ⟨y, hy, hxy⟩ := inj_surj (g := f x) (fun y hy => hc x y hx hy) (hr x hx) he
  refine ⟨y, hy, hxy, inj_of (hl y hy) (hc y x hy hx) he (show f (f y x) y = f e y from ?_)⟩
  rw [ha y x y hy hx hy, hxy, hR y hy, hL y hy]
end MP

set_option Elab.async false
set_option linter.all false
/-! plain: the words of least length that a queue finds, and the levels -/
namespace MP
abbrev Wd := Nat × List Nat
def keysW (L : List Wd) : List Nat := L.map (·.1)
def evW (f : Nat → Nat → Nat) : List Nat → Nat
  | [] => 0
  | a :: l => l.foldl f a
theorem evW_snoc {f : Nat → Nat → Nat} {w : List Nat} (h : w ≠ []) (x : Nat) : evW f (w ++ [x]) = f (evW f w) x := by
  cases w with
  | nil => exact absurd rfl h
  | cons a l =>
    show (l ++ [x]).foldl f a = f (l.foldl f a) x
    rw [List.foldl_append]
    rfl
def bStep (f : Nat → Nat → Nat) (p : Wd) (L : List Wd) (x : Nat) : List Wd := if f p.1 x ∈ keysW L then L else L ++ [(f p.1 x, p.2 ++ [x])]
def bTurn (f : Nat → Nat → Nat) (gs : List Nat) (p : Wd) (L : List Wd) : List Wd := gs.foldl (bStep f p) L
def bfs (f : Nat → Nat → Nat) (gs : List Nat) : Nat → List Wd → Nat → List Wd
  | 0, L, _ => L
  | k + 1, L, i => match L[i]? with
    | none => L
    | some p => bfs f gs k (bTurn f gs p L) (i + 1)
def startW (gs : List Nat) : List Wd := gs.map fun x => (x, [x])
def wordsL (n : Nat) (f : Nat → Nat → Nat) (gs : List Nat) : List Wd := bfs f gs (n + 1) (startW gs) 0
/-- what k + 1 letters reach -/
def Rk (f : Nat → Nat → Nat) (gs : List Nat) : Nat → Nat → Prop
  | 0, x => x ∈ gs
  | k + 1, x => ∃ z y, Rk f gs k z ∧ y ∈ gs ∧ x = f z y
structure BA (n : Nat) (f : Nat → Nat → Nat) (gs : List Nat) (L : List Wd) : Prop where
  nd : (keysW L).Nodup
  lt : ∀ p ∈ L, p.1 < n
  wd : ∀ p ∈ L, p.2 ≠ [] ∧ (∀ y ∈ p.2, y ∈ gs) ∧ evW f p.2 = p.1
  so : L.Pairwise fun p q => p.2.length ≤ q.2.length
  ge : ∀ g ∈ gs, (g, [g]) ∈ L
/-- the word of z leads on by y -/
def Next (f : Nat → Nat → Nat) (L : List Wd) (p : Wd) (y : Nat) : Prop := ∃ q ∈ L, q.1 = f p.1 y ∧ q.2.length ≤ p.2.length + 1
structure BI (n : Nat) (f : Nat → Nat → Nat) (gs : List Nat) (L : List Wd) (i : Nat) : Prop where
  ba : BA n f gs L
  bd : ∀ p, L[i]? = some p → ∀ q ∈ L, q.2.length ≤ p.2.length + 1
  cl : ∀ p ∈ L.take i, ∀ y ∈ gs, Next f L p y
  le : i ≤ L.length
section
variable {n : Nat} {f : Nat → Nat → Nat} {gs : List Nat}
theorem Next.up {L L' : List Wd} {p : Wd} {y : Nat} (h : Next f L p y) (s : ∀ q ∈ L, q ∈ L') : Next f L' p y := by
  obtain ⟨q, h1, h2, h3⟩ := h
  exact ⟨q, s q h1, h2, h3⟩
theorem bStep_sub {p : Wd} {L : List Wd} {x : Nat} : ∀ q ∈ L, q ∈ bStep f p L x := fun q hq => by
  unfold bStep
  split
  · exact hq
  · exact List.mem_append_left _ hq
theorem bStep_pre {p : Wd} {L : List Wd} {x : Nat} : L <+: bStep f p L x := by
  unfold bStep
  split
  · exact List.prefix_refl L
  · exact List.prefix_append L _
theorem bTurn_pre {p : Wd} : ∀ (ys : List Nat) (L : List Wd), L <+: ys.foldl (bStep f p) L
  | [], L => List.prefix_refl L
  | y :: ys, L => (bStep_pre (x := y)).trans (bTurn_pre ys _)
theorem step_ok (hc : ∀ a b, a < n → b < n → f a b < n) (hg : ∀ g ∈ gs, g < n) {p : Wd} {L : List Wd} {x : Nat} (hb : BA n f gs L) (hbd : ∀ q ∈ L, q.2.length ≤ p.2.length + 1) (hp : p ∈ L) (hx : x ∈ gs) :
    BA n f gs (bStep f p L x) ∧ (∀ q ∈ bStep f p L x, q.2.length ≤ p.2.length + 1) ∧ Next f (bStep f p L x) p x := by
  unfold bStep
  by_cases c : f p.1 x ∈ keysW L
  · rw [if_pos c]
    obtain ⟨q, hq, e⟩ := List.mem_map.mp c
    exact ⟨hb, hbd, q, hq, e, hbd q hq⟩
  · rw [if_neg c]
    have hnew : (f p.1 x, p.2 ++ [x]) ∈ L ++ [(f p.1 x, p.2 ++ [x])] := List.mem_append_right _ List.mem_cons_self
    refine ⟨⟨?_, fun q hq => ?_, fun q hq => ?_, ?_, fun g h => List.mem_append_left _ (hb.ge g h)⟩, fun q hq => ?_, _, hnew, rfl, by simp⟩
    · unfold keysW
      rw [List.map_append, List.nodup_append]
      refine ⟨hb.nd, by simp, fun a ha b hb' => ?_⟩
      have : b = f p.1 x := by simpa using hb'
      intro e
      exact c (by rw [← this, ← e]; exact ha)
    · rcases List.mem_append.mp hq with hq | hq
      · exact hb.lt q hq
      · rw [List.mem_singleton.mp hq]
        exact hc _ _ (hb.lt p hp) (hg x hx)
    · rcases List.mem_append.mp hq with hq | hq
      · exact hb.wd q hq
      · rw [List.mem_singleton.mp hq]
        obtain ⟨h1, h2, h3⟩ := hb.wd p hp
        refine ⟨by simp, fun y hy => ?_, by rw [evW_snoc h1, h3]⟩
        rcases List.mem_append.mp hy with hy | hy
        · exact h2 y hy
        · rw [List.mem_singleton.mp hy]; exact hx
    · rw [List.pairwise_append]
      refine ⟨hb.so, by simp, fun a ha b hb' => ?_⟩
      rw [List.mem_singleton.mp hb']
      have := hbd a ha
      simp
      omega
    · rcases List.mem_append.mp hq with hq | hq
      · exact hbd q hq
      · rw [List.mem_singleton.mp hq]; simp
theorem fold_ok (hc : ∀ a b, a < n → b < n → f a b < n) (hg : ∀ g ∈ gs, g < n) {p : Wd} : ∀ (ys : List Nat) (L : List Wd), (∀ y ∈ ys, y ∈ gs) → BA n f gs L → (∀ q ∈ L, q.2.length ≤ p.2.length + 1) → p ∈ L →
    BA n f gs (ys.foldl (bStep f p) L) ∧ (∀ q ∈ ys.foldl (bStep f p) L, q.2.length ≤ p.2.length + 1) ∧ ∀ y ∈ ys, Next f (ys.foldl (bStep f p) L) p y
  | [], L, _, hb, hd, _ => ⟨hb, hd, fun y h => nomatch h⟩
  | y :: ys, L, hy, hb, hd, hp => by
    obtain ⟨h1, h2, h3⟩ := step_ok hc hg hb hd hp (hy y List.mem_cons_self)
    obtain ⟨h4, h5, h6⟩ := fold_ok hc hg ys (bStep f p L y) (fun z hz => hy z (List.mem_cons_of_mem _ hz)) h1 h2 (bStep_sub p hp)
    refine ⟨h4, h5, fun z hz => ?_⟩
    rcases List.mem_cons.mp hz with rfl | hz
    · exact h3.up fun q hq => (bTurn_pre ys _).subset hq
    · exact h6 z hz
theorem turn_ok (hc : ∀ a b, a < n → b < n → f a b < n) (hg : ∀ g ∈ gs, g < n) {p : Wd} {L : List Wd} {i : Nat} (h : BI n f gs L i) (hp : L[i]? = some p) : BI n f gs (bTurn f gs p L) (i + 1) := by
  have hpm : p ∈ L := List.mem_of_getElem? hp
  have hi : i < L.length := (List.getElem?_eq_some_iff.mp hp).1
  obtain ⟨h1, h2, h3⟩ := fold_ok hc hg gs L (fun _ h => h) h.ba (h.bd p hp) hpm
  have pre : L <+: bTurn f gs p L := bTurn_pre gs L
  obtain ⟨T, hT⟩ := pre
  have hpi : (bTurn f gs p L)[i]? = some p := by rw [← hT, List.getElem?_append_left hi, hp]
  refine ⟨h1, fun q hq r hr => ?_, fun q hq y hy => ?_, ?_⟩
  · have hle : p.2.length ≤ q.2.length := by
      have hso : (bTurn f gs p L).Pairwise (fun p q => p.2.length ≤ q.2.length) := h1.so
      rw [List.pairwise_iff_getElem] at hso
      obtain ⟨hi1, e1⟩ := List.getElem?_eq_some_iff.mp hpi
      obtain ⟨hi2, e2⟩ := List.getElem?_eq_some_iff.mp hq
      have := hso i (i + 1) hi1 hi2 (Nat.lt_succ_self i)
      rw [e1, e2] at this
      exact this
    have := h2 r hr
    omega
  · have e : (bTurn f gs p L).take (i + 1) = L.take i ++ [p] := by
      rw [← hT, List.take_append_of_le_length (by omega), List.take_add_one, hp]
      rfl
    rw [e] at hq
    rcases List.mem_append.mp hq with hq | hq
    · exact (h.cl q hq y hy).up fun r hr => by rw [← hT]; exact List.mem_append_left _ hr
    · rw [List.mem_singleton.mp hq]
      exact h3 y hy
  · rw [← hT, List.length_append]
    omega
theorem BA.len {L : List Wd} (h : BA n f gs L) : L.length ≤ n := by
  have := nodup_le (keysW L) (List.range n) h.nd fun x hx => by
    obtain ⟨p, hp, rfl⟩ := List.mem_map.mp hx
    exact List.mem_range.mpr (h.lt p hp)
  unfold keysW at this
  rw [List.length_map, List.length_range] at this
  exact this
theorem start_ok (hg : ∀ g ∈ gs, g < n) (hn : gs.Nodup) : BI n f gs (startW gs) 0 := by
  have hm : ∀ p ∈ startW gs, p.2 = [p.1] ∧ p.1 ∈ gs := fun p hp => by
    obtain ⟨x, hx, rfl⟩ := List.mem_map.mp hp
    exact ⟨rfl, hx⟩
  refine ⟨⟨?_, fun p hp => hg _ (hm p hp).2, fun p hp => ?_, ?_, fun g h => List.mem_map.mpr ⟨g, h, rfl⟩⟩, fun p hp q hq => ?_, fun p hp => ?_, Nat.zero_le _⟩
  · unfold keysW startW
    rw [List.map_map]
    exact (List.map_id gs).symm ▸ hn
  · obtain ⟨h1, h2⟩ := hm p hp
    rw [h1]
    exact ⟨by simp, fun y hy => by rw [List.mem_singleton.mp hy]; exact h2, rfl⟩
  · unfold startW
    rw [List.pairwise_map]
    exact List.pairwise_of_forall fun _ _ => Nat.le_refl _
  · rw [(hm q hq).1]; simp
  · rw [List.take_zero] at hp; cases hp
/-- the end: all are led on -/
structure BE (n : Nat) (f : Nat → Nat → Nat) (gs : List Nat) (L : List Wd) : Prop where
  ba : BA n f gs L
  cl : ∀ p ∈ L, ∀ y ∈ gs, Next f L p y
theorem bfs_end (hc : ∀ a b, a < n → b < n → f a b < n) (hg : ∀ g ∈ gs, g < n) : ∀ (k : Nat) (L : List Wd) (i : Nat), BI n f gs L i → n + 1 ≤ i + k → BE n f gs (bfs f gs k L i)
  | 0, L, i, h, hk => absurd h.le (by have := h.ba.len; omega)
  | k + 1, L, i, h, hk => by
    unfold bfs
    cases hp : L[i]? with
    | none =>
      have hl : L.length ≤ i := List.getElem?_eq_none_iff.mp hp
      refine ⟨h.ba, fun p hp => h.cl p ?_⟩
      rw [List.take_of_length_le hl]
      exact hp
    | some p => exact bfs_end hc hg k _ _ (turn_ok hc hg h hp) (by omega)
theorem words_end (hc : ∀ a b, a < n → b < n → f a b < n) (hg : ∀ g ∈ gs, g < n) (hn : gs.Nodup) : BE n f gs (wordsL n f gs) := bfs_end hc hg _ _ _ (start_ok hg hn) (by omega)
/-- what is reached has a word, and none is shorter -/
theorem BE.reach {L : List Wd} (h : BE n f gs L) : ∀ (k x : Nat), Rk f gs k x → ∃ p ∈ L, p.1 = x ∧ p.2.length ≤ k + 1
  | 0, x, hx => ⟨_, h.ba.ge x hx, rfl, Nat.le_refl _⟩
  | k + 1, x, ⟨z, y, hz, hy, e⟩ => by
    obtain ⟨p, hp, rfl, hl⟩ := h.reach k z hz
    obtain ⟨q, hq, e2, hl2⟩ := h.cl p hp y hy
    exact ⟨q, hq, by rw [e2, e], by omega⟩
theorem word_reach : ∀ (k : Nat) (w : List Nat), w.length = k + 1 → (∀ y ∈ w, y ∈ gs) → Rk f gs k (evW f w)
  | 0, w, hl, hw => by
    match w, hl with
    | [a], _ => exact hw a List.mem_cons_self
  | k + 1, w, hl, hw => by
    have hne : w ≠ [] := fun z => by rw [z] at hl; simp at hl
    obtain ⟨v, x, rfl⟩ : ∃ v x, w = v ++ [x] := ⟨w.dropLast, w.getLast hne, (List.dropLast_concat_getLast hne).symm⟩
    have hv : v.length = k + 1 := by simp at hl; exact hl
    have hne2 : v ≠ [] := fun z => by rw [z] at hv; simp at hv
    rw [evW_snoc hne2]
    exact ⟨evW f v, x, word_reach k v hv fun y hy => hw y (List.mem_append_left _ hy), hw x (List.mem_append_right _ List.mem_cons_self), rfl⟩
/-- a member's word is as long as the least that reaches it -/
theorem BE.least {L : List Wd} (h : BE n f gs L) {p : Wd} (hp : p ∈ L) : Rk f gs (p.2.length - 1) p.1 ∧ ∀ k, Rk f gs k p.1 → p.2.length ≤ k + 1 := by
  obtain ⟨h1, h2, h3⟩ := h.ba.wd p hp
  refine ⟨?_, fun k hk => ?_⟩
  · have := word_reach (f := f) (p.2.length - 1) p.2 (by have := List.length_pos_iff.mpr h1; omega) h2
    rw [h3] at this
    exact this
  · obtain ⟨q, hq, e, hl⟩ := h.reach k _ hk
    have : q = p := by
      have hn := h.ba.nd
      unfold keysW at hn
      rw [List.nodup_iff_pairwise_ne, List.pairwise_map, List.pairwise_iff_getElem] at hn
      obtain ⟨i, hi, ei⟩ := List.getElem_of_mem hq
      obtain ⟨j, hj, ej⟩ := List.getElem_of_mem hp
      rcases Nat.lt_trichotomy i j with c | c | c
      · exact absurd e (by have := hn i j hi hj c; rw [ei, ej] at this; exact this)
      · subst c; rw [← ei, ← ej]
      · exact absurd e.symm (by have := hn j i hj hi c; rw [ei, ej] at this; exact this)
    rw [← this]
    exact hl
theorem BE.keys {L : List Wd} (h : BE n f gs L) (x : Nat) : x ∈ keysW L ↔ ∃ k, Rk f gs k x := by
  constructor
  · intro hx
    obtain ⟨p, hp, rfl⟩ := List.mem_map.mp hx
    exact ⟨_, (h.least hp).1⟩
  · rintro ⟨k, hk⟩
    obtain ⟨p, hp, e, _⟩ := h.reach k x hk
    exact List.mem_map.mpr ⟨p, hp, e⟩
/-- products of what is reached are reached -/
theorem Rk.mul (ha : ∀ a b c, a < n → b < n → c < n → f (f a b) c = f a (f b c)) (hc : ∀ a b, a < n → b < n → f a b < n) (hg : ∀ g ∈ gs, g < n) : ∀ (m k x y : Nat), Rk f gs k x → Rk f gs m y → Rk f gs (k + m + 1) (f x y) := by
  have lt : ∀ (k x : Nat), Rk f gs k x → x < n := by
    intro k
    induction k with
    | zero => exact fun x h => hg x h
    | succ k ih =>
      rintro x ⟨z, y, hz, hy, rfl⟩
      exact hc z y (ih z hz) (hg y hy)
  intro m
  induction m with
  | zero => exact fun k x y hx hy => ⟨x, y, hx, hy, rfl⟩
  | succ m ih =>
    rintro k x _ hx ⟨z, y, hz, hy, rfl⟩
    exact ⟨f x z, y, ih k x z hx hz, hy, (ha x z y (lt k x hx) (lt m z hz) (hg y hy)).symm⟩
end
end MP

set_option Elab.async false
set_option linter.all false
/-! plain: the closing from both sides, and the levels -/
namespace MP
section
variable {n : Nat} {f : Nat → Nat → Nat} {gs : List Nat}
def addZ (F : List Nat) (z : Nat) : List Nat := if z ∈ F then F else F ++ [z]
def clStep (f : Nat → Nat → Nat) (p : Nat) (F : List Nat) (x : Nat) : List Nat := addZ (addZ F (f x p)) (f p x)
theorem addZ_pre {F : List Nat} {z : Nat} : F <+: addZ F z := by
  unfold addZ
  split
  · exact List.prefix_refl F
  · exact List.prefix_append F _
theorem addZ_in {F : List Nat} {z : Nat} : z ∈ addZ F z := by
  unfold addZ
  split
  · assumption
  · exact List.mem_append_right _ List.mem_cons_self
theorem addZ_nd {F : List Nat} {z : Nat} (h : F.Nodup) : (addZ F z).Nodup := by
  unfold addZ
  split
  · exact h
  · next c =>
    rw [List.nodup_append]
    refine ⟨h, by simp, fun a ha b hb e => c ?_⟩
    have : b = z := by simpa using hb
    rw [← this, ← e]
    exact ha
theorem addZ_mem {F : List Nat} {z x : Nat} (h : x ∈ addZ F z) : x ∈ F ∨ x = z := by
  unfold addZ at h
  split at h
  · exact .inl h
  · rcases List.mem_append.mp h with h | h
    · exact .inl h
    · exact .inr (List.mem_singleton.mp h)
/-- what is reached, at all -/
def Rch (f : Nat → Nat → Nat) (gs : List Nat) (x : Nat) : Prop := ∃ k, Rk f gs k x
structure CA (n : Nat) (f : Nat → Nat → Nat) (gs : List Nat) (F : List Nat) : Prop where
  nd : F.Nodup
  rc : ∀ x ∈ F, x < n ∧ Rch f gs x
  ge : ∀ g ∈ gs, g ∈ F
theorem CA.add {F : List Nat} {z : Nat} (h : CA n f gs F) (hz : z < n ∧ Rch f gs z) : CA n f gs (addZ F z) :=
  ⟨addZ_nd h.nd, fun x hx => by rcases addZ_mem hx with hx | rfl; exact h.rc x hx; exact hz, fun g hg => addZ_pre.subset (h.ge g hg)⟩
theorem CA.len {F : List Nat} (h : CA n f gs F) : F.length ≤ n := by
  have := nodup_le F (List.range n) h.nd fun x hx => List.mem_range.mpr (h.rc x hx).1
  rw [List.length_range] at this
  exact this
structure CI (n : Nat) (f : Nat → Nat → Nat) (gs : List Nat) (F : List Nat) (i : Nat) : Prop where
  ca : CA n f gs F
  cl : ∀ j, j < i → ∀ g ∈ gs, f (F.getD j 0) g ∈ F
  le : i ≤ F.length
/-- what a table of a semigroup is -/
structure Sm (n : Nat) (f : Nat → Nat → Nat) : Prop where
  cl : ∀ a b, a < n → b < n → f a b < n
  as : ∀ a b c, a < n → b < n → c < n → f (f a b) c = f a (f b c)
theorem Sm.mul (h : Sm n f) (hg : ∀ g ∈ gs, g < n) {x y : Nat} (hx : x < n ∧ Rch f gs x) (hy : y < n ∧ Rch f gs y) : f x y < n ∧ Rch f gs (f x y) := by
  obtain ⟨k, hk⟩ := hx.2
  obtain ⟨m, hm⟩ := hy.2
  exact ⟨h.cl x y hx.1 hy.1, _, Rk.mul h.as h.cl hg m k x y hk hm⟩
theorem clFold (h : Sm n f) (hg : ∀ g ∈ gs, g < n) {p : Nat} (hp : p < n ∧ Rch f gs p) : ∀ (xs : List Nat) (F : List Nat), (∀ x ∈ xs, x < n ∧ Rch f gs x) → CA n f gs F →
    CA n f gs (xs.foldl (clStep f p) F) ∧ F <+: xs.foldl (clStep f p) F ∧ ∀ x ∈ xs, f p x ∈ xs.foldl (clStep f p) F
  | [], F, _, hF => ⟨hF, List.prefix_refl F, fun x hx => nomatch hx⟩
  | x :: xs, F, hx, hF => by
    have hxx := hx x List.mem_cons_self
    obtain ⟨h1, h2, h3⟩ := clFold h hg hp xs (clStep f p F x) (fun y hy => hx y (List.mem_cons_of_mem _ hy)) ((hF.add (h.mul hg hxx hp)).add (h.mul hg hp hxx))
    refine ⟨h1, (addZ_pre.trans addZ_pre).trans h2, fun y hy => ?_⟩
    rcases List.mem_cons.mp hy with rfl | hy
    · exact h2.subset addZ_in
    · exact h3 y hy
theorem getD_pre {F F' : List Nat} {j : Nat} (h : F <+: F') (hj : j < F.length) : F'.getD j 0 = F.getD j 0 := by
  obtain ⟨t, rfl⟩ := h
  rw [List.getD_eq_getElem?_getD, List.getD_eq_getElem?_getD, List.getElem?_append_left hj]
theorem clTurn (h : Sm n f) (hg : ∀ g ∈ gs, g < n) {F : List Nat} {i : Nat} (hI : CI n f gs F i) (hi : i < F.length) : CI n f gs (F.foldl (clStep f (F.getD i 0)) F) (i + 1) := by
  have hpm : F.getD i 0 ∈ F := by rw [List.getD_eq_getElem?_getD, List.getElem?_eq_getElem hi]; exact List.getElem_mem hi
  obtain ⟨h1, h2, h3⟩ := clFold h hg (hI.ca.rc _ hpm) F F hI.ca.rc hI.ca
  refine ⟨h1, fun j hj g hgg => ?_, ?_⟩
  · rw [getD_pre h2 (by omega)]
    by_cases e : j = i
    · subst e; exact h3 g (hI.ca.ge g hgg)
    · exact h2.subset (hI.cl j (by omega) g hgg)
  · have := h2.length_le
    omega
theorem clStart (hg : ∀ g ∈ gs, g < n) (hn : gs.Nodup) : CI n f gs gs 0 := ⟨⟨hn, fun x hx => ⟨hg x hx, 0, hx⟩, fun g h => h⟩, fun j hj => absurd hj (Nat.not_lt_zero _), Nat.zero_le _⟩
theorem clEnd {F : List Nat} {i : Nat} (hI : CI n f gs F i) (hi : F.length ≤ i) (x : Nat) : x ∈ F ↔ Rch f gs x := by
  refine ⟨fun hx => (hI.ca.rc x hx).2, ?_⟩
  rintro ⟨k, hk⟩
  induction k generalizing x with
  | zero => exact hI.ca.ge x hk
  | succ k ih =>
    obtain ⟨z, y, hz, hy, rfl⟩ := hk
    obtain ⟨j, hj⟩ := List.mem_iff_getElem?.mp (ih z hz)
    have hjl := (List.getElem?_eq_some_iff.mp hj).1
    have := hI.cl j (by omega) y hy
    rw [List.getD_eq_getElem?_getD, hj] at this
    exact this
/-! the levels -/
def lvKeys (L : List (Nat × Nat)) : List Nat := L.map (·.1)
def lvAdd (L : List (Nat × Nat)) (F : List Nat) (s : Nat) : List (Nat × Nat) := L ++ F.map fun x => (x, s)
def lvNext (n : Nat) (f : Nat → Nat → Nat) (gs : List Nat) (L : List (Nat × Nat)) (F : List Nat) : List Nat := (List.range n).filter fun z => decide (z ∉ lvKeys L ∧ ∃ x ∈ F, ∃ y ∈ gs, f x y = z)
def lvs (n : Nat) (f : Nat → Nat → Nat) (gs : List Nat) : Nat → List (Nat × Nat) → List Nat → Nat → List (Nat × Nat)
  | 0, L, _, _ => L
  | k + 1, L, F, s => if F = [] then L else lvs n f gs k (lvAdd L F s) (lvNext n f gs (lvAdd L F s) F) (s + 1)
def lensL (n : Nat) (f : Nat → Nat → Nat) (gs : List Nat) : List (Nat × Nat) := lvs n f gs (n + 1) [] gs 1
/-- reached by s + 1 letters and not by fewer -/
def Ex1 (f : Nat → Nat → Nat) (gs : List Nat) (s x : Nat) : Prop := Rk f gs s x ∧ ∀ k, k < s → ¬ Rk f gs k x
structure LI (n : Nat) (f : Nat → Nat → Nat) (gs : List Nat) (L : List (Nat × Nat)) (F : List Nat) (s : Nat) : Prop where
  nd : (lvKeys L).Nodup
  lt : ∀ p ∈ L, p.1 < n
  ks : ∀ x, x ∈ lvKeys L ↔ ∃ k, k < s ∧ Rk f gs k x
  lv : ∀ p ∈ L, ∃ d, p.2 = d + 1 ∧ Ex1 f gs d p.1
  fr : ∀ x, x ∈ F ↔ Ex1 f gs s x
  fn : F.Nodup
  fl : ∀ x ∈ F, x < n
theorem LI.new {L : List (Nat × Nat)} {F : List Nat} {s : Nat} (h : LI n f gs L F s) {x : Nat} (hx : x ∈ F) : x ∉ lvKeys L := fun z => by
  obtain ⟨k, hk, hr⟩ := (h.ks x).mp z
  exact ((h.fr x).mp hx).2 k hk hr
theorem Rk.lt (hc : ∀ a b, a < n → b < n → f a b < n) (hg : ∀ g ∈ gs, g < n) : ∀ (k x : Nat), Rk f gs k x → x < n
  | 0, x, h => hg x h
  | k + 1, _, ⟨z, y, hz, hy, e⟩ => by rw [e]; exact hc z y (Rk.lt hc hg k z hz) (hg y hy)
theorem keys_add {L : List (Nat × Nat)} {F : List Nat} {s : Nat} : lvKeys (lvAdd L F s) = lvKeys L ++ F := by
  unfold lvKeys lvAdd
  rw [List.map_append, List.map_map]
  congr 1
  exact List.map_id F
theorem LI.next (hc : ∀ a b, a < n → b < n → f a b < n) (hg : ∀ g ∈ gs, g < n) {L : List (Nat × Nat)} {F : List Nat} {s : Nat} (h : LI n f gs L F s) : LI n f gs (lvAdd L F (s + 1)) (lvNext n f gs (lvAdd L F (s + 1)) F) (s + 1) := by
  have hks : ∀ x, x ∈ lvKeys (lvAdd L F (s + 1)) ↔ ∃ k, k < s + 1 ∧ Rk f gs k x := fun x => by
    rw [keys_add, List.mem_append]
    constructor
    · rintro (hx | hx)
      · obtain ⟨k, hk, hr⟩ := (h.ks x).mp hx
        exact ⟨k, by omega, hr⟩
      · exact ⟨s, by omega, ((h.fr x).mp hx).1⟩
    · rintro ⟨k, hk, hr⟩
      by_cases c : ∃ j, j < s ∧ Rk f gs j x
      · exact .inl ((h.ks x).mpr c)
      · refine .inr ((h.fr x).mpr ⟨?_, fun j hj hr => c ⟨j, hj, hr⟩⟩)
        have : k = s := by
          by_cases e : k < s
          · exact absurd ⟨k, e, hr⟩ c
          · omega
        rw [← this]
        exact hr
  refine ⟨?_, fun p hp => ?_, hks, fun p hp => ?_, fun x => ?_, List.nodup_range.sublist List.filter_sublist, fun x hx => List.mem_range.mp (List.mem_filter.mp hx).1⟩
  · rw [keys_add, List.nodup_append]
    refine ⟨h.nd, h.fn, fun a ha b hb e => h.new (e ▸ hb) ha⟩
  · rcases List.mem_append.mp hp with hp | hp
    · exact h.lt p hp
    · obtain ⟨x, hx, rfl⟩ := List.mem_map.mp hp
      exact h.fl x hx
  · rcases List.mem_append.mp hp with hp | hp
    · exact h.lv p hp
    · obtain ⟨x, hx, rfl⟩ := List.mem_map.mp hp
      exact ⟨s, rfl, (h.fr x).mp hx⟩
  · unfold lvNext
    rw [List.mem_filter, List.mem_range, decide_eq_true_iff, hks]
    constructor
    · rintro ⟨_, h1, z, hz, y, hy, rfl⟩
      exact ⟨⟨z, y, ((h.fr z).mp hz).1, hy, rfl⟩, fun k hk hr => h1 ⟨k, hk, hr⟩⟩
    · rintro ⟨h1, h2⟩
      refine ⟨Rk.lt hc hg _ _ h1, fun ⟨k, hk, hr⟩ => h2 k hk hr, ?_⟩
      obtain ⟨z, y, hz, hy, e⟩ := h1
      refine ⟨z, (h.fr z).mpr ⟨hz, fun k hk hr => h2 (k + 1) (by omega) ⟨z, y, hr, hy, e⟩⟩, y, hy, e.symm⟩
theorem LI.start (hg : ∀ g ∈ gs, g < n) (hn : gs.Nodup) : LI n f gs [] gs 0 :=
  ⟨.nil, (fun p hp => nomatch hp), fun x => ⟨fun h => (nomatch h), fun ⟨k, hk, _⟩ => absurd hk (Nat.not_lt_zero _)⟩, (fun p hp => nomatch hp), fun x => ⟨fun h => ⟨h, fun k hk => absurd hk (Nat.not_lt_zero _)⟩, fun h => h.1⟩, hn, hg⟩
theorem LI.len {L : List (Nat × Nat)} {F : List Nat} {s : Nat} (h : LI n f gs L F s) : L.length ≤ n := by
  have := nodup_le (lvKeys L) (List.range n) h.nd fun x hx => by
    obtain ⟨p, hp, rfl⟩ := List.mem_map.mp hx
    exact List.mem_range.mpr (h.lt p hp)
  unfold lvKeys at this
  rw [List.length_map, List.length_range] at this
  exact this
/-- all is found when a level is empty -/
theorem LI.all {L : List (Nat × Nat)} {s : Nat} (h : LI n f gs L [] s) : ∀ (k x : Nat), Rk f gs k x → ∃ j, j < s ∧ Rk f gs j x := by
  have no : ∀ x, Rk f gs s x → ∃ j, j < s ∧ Rk f gs j x := fun x hx => by
    by_cases c : ∃ j, j < s ∧ Rk f gs j x
    · exact c
    · exact absurd ((h.fr x).mpr ⟨hx, fun j hj hr => c ⟨j, hj, hr⟩⟩) (by simp)
  intro k
  induction k with
  | zero =>
    intro x hx
    by_cases e : s = 0
    · subst e; exact no x hx
    · exact ⟨0, by omega, hx⟩
  | succ k ih =>
    rintro x ⟨z, y, hz, hy, e⟩
    obtain ⟨j, hj, hr⟩ := ih z hz
    by_cases c : j + 1 < s
    · exact ⟨j + 1, c, z, y, hr, hy, e⟩
    · have : s = j + 1 := by omega
      exact no x (this ▸ ⟨z, y, hr, hy, e⟩)
/-- what the levels are at the end -/
structure LE (n : Nat) (f : Nat → Nat → Nat) (gs : List Nat) (L : List (Nat × Nat)) : Prop where
  nd : (lvKeys L).Nodup
  lt : ∀ p ∈ L, p.1 < n
  ks : ∀ x, x ∈ lvKeys L ↔ Rch f gs x
  lv : ∀ p ∈ L, ∃ d, p.2 = d + 1 ∧ Ex1 f gs d p.1
theorem LI.end {L : List (Nat × Nat)} {s : Nat} (h : LI n f gs L [] s) : LE n f gs L :=
  ⟨h.nd, h.lt, fun x => (h.ks x).trans ⟨fun ⟨k, _, hr⟩ => ⟨k, hr⟩, fun ⟨k, hr⟩ => h.all k x hr⟩, h.lv⟩
theorem lvs_end (hc : ∀ a b, a < n → b < n → f a b < n) (hg : ∀ g ∈ gs, g < n) : ∀ (k : Nat) (L : List (Nat × Nat)) (F : List Nat) (s : Nat), LI n f gs L F s → n + 1 ≤ L.length + k → LE n f gs (lvs n f gs k L F (s + 1))
  | 0, L, F, s, h, hk => absurd h.len (by omega)
  | k + 1, L, F, s, h, hk => by
    unfold lvs
    by_cases c : F = []
    · rw [if_pos c]; subst c; exact h.end
    · rw [if_neg c]
      have : 1 ≤ F.length := List.length_pos_iff.mpr c
      refine lvs_end hc hg k _ _ (s + 1) (h.next hc hg) ?_
      unfold lvAdd
      rw [List.length_append, List.length_map]
      omega
theorem lens_end (hc : ∀ a b, a < n → b < n → f a b < n) (hg : ∀ g ∈ gs, g < n) (hn : gs.Nodup) : LE n f gs (lensL n f gs) := lvs_end hc hg (n + 1) [] gs 0 (.start hg hn) (by simp)
/-- words and levels agree -/
theorem word_len {W : List Wd} {L : List (Nat × Nat)} (hW : BE n f gs W) (hL : LE n f gs L) {p : Wd} {q : Nat × Nat} (hp : p ∈ W) (hq : q ∈ L) (e : p.1 = q.1) : p.2.length = q.2 := by
  obtain ⟨d, hd, h1, h2⟩ := hL.lv q hq
  obtain ⟨h3, h4⟩ := hW.least hp
  have h5 := h4 d (e ▸ h1)
  have hne := List.length_pos_iff.mpr (hW.ba.wd p hp).1
  have h6 : ¬ p.2.length - 1 < d := fun z => h2 _ z (e ▸ h3)
  omega
/-- a level is no greater than the number of members: each lower level is met -/
theorem Ex1.down : ∀ (d x : Nat), Ex1 f gs d x → ∀ e, e ≤ d → ∃ y, Ex1 f gs e y
  | 0, x, h, e, he => by
    obtain rfl : e = 0 := by omega
    exact ⟨x, h⟩
  | d + 1, x, h, e, he => by
    by_cases c : e = d + 1
    · subst c; exact ⟨x, h⟩
    · obtain ⟨z, y, hz, hy, rfl⟩ := h.1
      exact Ex1.down d z ⟨hz, fun k hk hr => h.2 (k + 1) (by omega) ⟨z, y, hr, hy, rfl⟩⟩ e (by omega)
theorem Ex1.inj {a b x : Nat} (h1 : Ex1 f gs a x) (h2 : Ex1 f gs b x) : a = b := by
  rcases Nat.lt_trichotomy a b with c | c | c
  · exact absurd h1.1 (h2.2 a c)
  · exact c
  · exact absurd h2.1 (h1.2 b c)
theorem len_le_level {L : List (Nat × Nat)} (h : LE n f gs L) {q : Nat × Nat} (hq : q ∈ L) : q.2 ≤ n := by
  obtain ⟨d, hd, hx⟩ := h.lv q hq
  have key : ∀ e, e ≤ d + 1 → ∃ ys : List Nat, ys.length = e ∧ ys.Nodup ∧ ∀ y ∈ ys, y < n ∧ ∃ k, k < e ∧ Ex1 f gs k y := by
    intro e
    induction e with
    | zero => exact fun _ => ⟨[], rfl, .nil, fun y hy => nomatch hy⟩
    | succ e ih =>
      intro he
      obtain ⟨ys, h1, h2, h3⟩ := ih (by omega)
      obtain ⟨y, hy⟩ := Ex1.down d q.1 hx e (by omega)
      obtain ⟨p, hp, ep⟩ := List.mem_map.mp ((h.ks y).mpr ⟨e, hy.1⟩)
      refine ⟨y :: ys, by rw [List.length_cons, h1], List.nodup_cons.mpr ⟨fun hm => ?_, h2⟩, fun z hz => ?_⟩
      · obtain ⟨_, k, hk, hk2⟩ := h3 y hm
        have := Ex1.inj hk2 hy
        omega
      · rcases List.mem_cons.mp hz with rfl | hz
        · exact ⟨ep ▸ h.lt p hp, e, by omega, hy⟩
        · obtain ⟨h4, k, hk, h5⟩ := h3 z hz
          exact ⟨h4, k, by omega, h5⟩
  obtain ⟨ys, h1, h2, h3⟩ := key (d + 1) (Nat.le_refl _)
  have := nodup_le ys (List.range n) h2 fun y hy => List.mem_range.mpr (h3 y hy).1
  rw [List.length_range] at this
  omega
end
end MP

set_option Elab.async false
set_option linter.all false
set_option maxRecDepth 100000
set_option maxHeartbeats 2000000
namespace Kx
open PySem PySem.Spec PyProof.Rows L2 DL
def topS (i : Nat) : Stmt := PySem.Challenge.pw_semigroupbench_k13_generated_and_words.main.body.getD i (.Pass ⟨0, 0, 0, 0⟩)
abbrev s_is_integer : Stmt := topS 5
abbrev n_is_integer : List Str := ["value"]
abbrev p_is_integer : List Str := ["value"]
theorem sc_is_integer : FnScope n_is_integer p_is_integer (defScope s_is_integer) := ⟨rfl, rfl, rfl, by decide +kernel, rfl, by decide +kernel, by decide +kernel⟩
abbrev s_is_within : Stmt := topS 6
abbrev n_is_within : List Str := ["value", "low", "high"]
abbrev p_is_within : List Str := ["value", "low", "high"]
theorem sc_is_within : FnScope n_is_within p_is_within (defScope s_is_within) := ⟨rfl, rfl, rfl, by decide +kernel, rfl, by decide +kernel, by decide +kernel⟩
abbrev s_is_index : Stmt := topS 7
abbrev n_is_index : List Str := ["value", "many"]
abbrev p_is_index : List Str := ["value", "many"]
theorem sc_is_index : FnScope n_is_index p_is_index (defScope s_is_index) := ⟨rfl, rfl, rfl, by decide +kernel, rfl, by decide +kernel, by decide +kernel⟩
abbrev s_is_list : Stmt := topS 8
abbrev n_is_list : List Str := ["value"]
abbrev p_is_list : List Str := ["value"]
theorem sc_is_list : FnScope n_is_list p_is_list (defScope s_is_list) := ⟨rfl, rfl, rfl, by decide +kernel, rfl, by decide +kernel, by decide +kernel⟩
abbrev s_is_tuple : Stmt := topS 9
abbrev n_is_tuple : List Str := ["value", "many"]
abbrev p_is_tuple : List Str := ["value", "many"]
theorem sc_is_tuple : FnScope n_is_tuple p_is_tuple (defScope s_is_tuple) := ⟨rfl, rfl, rfl, by decide +kernel, rfl, by decide +kernel, by decide +kernel⟩
abbrev s_are_elements : Stmt := topS 10
abbrev n_are_elements : List Str := ["value", "many", "item"]
abbrev p_are_elements : List Str := ["value", "many"]
theorem sc_are_elements : FnScope n_are_elements p_are_elements (defScope s_are_elements) := ⟨rfl, rfl, rfl, by decide +kernel, rfl, by decide +kernel, by decide +kernel⟩
abbrev s_is_table : Stmt := topS 13
abbrev n_is_table : List Str := ["value", "many", "line"]
abbrev p_is_table : List Str := ["value"]
theorem sc_is_table : FnScope n_is_table p_is_table (defScope s_is_table) := ⟨rfl, rfl, rfl, by decide +kernel, rfl, by decide +kernel, by decide +kernel⟩
abbrev s_is_broken : Stmt := topS 14
abbrev n_is_broken : List Str := ["table", "x", "y", "z"]
abbrev p_is_broken : List Str := ["table", "x", "y", "z"]
theorem sc_is_broken : FnScope n_is_broken p_is_broken (defScope s_is_broken) := ⟨rfl, rfl, rfl, by decide +kernel, rfl, by decide +kernel, by decide +kernel⟩
abbrev s_broken_with : Stmt := topS 15
abbrev n_broken_with : List Str := ["table", "middles", "every", "x", "y", "z"]
abbrev p_broken_with : List Str := ["table", "middles"]
theorem sc_broken_with : FnScope n_broken_with p_broken_with (defScope s_broken_with) := ⟨rfl, rfl, rfl, by decide +kernel, rfl, by decide +kernel, by decide +kernel⟩
abbrev s_is_semigroup : Stmt := topS 16
abbrev n_is_semigroup : List Str := ["value"]
abbrev p_is_semigroup : List Str := ["value"]
theorem sc_is_semigroup : FnScope n_is_semigroup p_is_semigroup (defScope s_is_semigroup) := ⟨rfl, rfl, rfl, by decide +kernel, rfl, by decide +kernel, by decide +kernel⟩
abbrev s_check_semigroup : Stmt := topS 17
abbrev n_check_semigroup : List Str := ["table"]
abbrev p_check_semigroup : List Str := ["table"]
theorem sc_check_semigroup : FnScope n_check_semigroup p_check_semigroup (defScope s_check_semigroup) := ⟨rfl, rfl, rfl, by decide +kernel, rfl, by decide +kernel, by decide +kernel⟩
abbrev s_words_of : Stmt := topS 19
abbrev n_words_of : List Str := ["table", "members", "generators", "found", "queue", "at", "here", "x", "there"]
abbrev p_words_of : List Str := ["table", "members"]
theorem sc_words_of : FnScope n_words_of p_words_of (defScope s_words_of) := ⟨rfl, rfl, rfl, by decide +kernel, rfl, by decide +kernel, by decide +kernel⟩
abbrev s_closure : Stmt := topS 20
abbrev n_closure : List Str := ["table", "members"]
abbrev p_closure : List Str := ["table", "members"]
theorem sc_closure : FnScope n_closure p_closure (defScope s_closure) := ⟨rfl, rfl, rfl, by decide +kernel, rfl, by decide +kernel, by decide +kernel⟩
abbrev s_check_elements : Stmt := topS 21
abbrev n_check_elements : List Str := ["table", "members"]
abbrev p_check_elements : List Str := ["table", "members"]
theorem sc_check_elements : FnScope n_check_elements p_check_elements (defScope s_check_elements) := ⟨rfl, rfl, rfl, by decide +kernel, rfl, by decide +kernel, by decide +kernel⟩
abbrev s_generated : Stmt := topS 22
abbrev n_generated : List Str := ["table", "members"]
abbrev p_generated : List Str := ["table", "members"]
theorem sc_generated : FnScope n_generated p_generated (defScope s_generated) := ⟨rfl, rfl, rfl, by decide +kernel, rfl, by decide +kernel, by decide +kernel⟩
abbrev s_words_for : Stmt := topS 23
abbrev n_words_for : List Str := ["table", "members", "found", "x"]
abbrev p_words_for : List Str := ["table", "members"]
theorem sc_words_for : FnScope n_words_for p_words_for (defScope s_words_for) := ⟨rfl, rfl, rfl, by decide +kernel, rfl, by decide +kernel, by decide +kernel⟩
abbrev s_law_cell : Stmt := topS 25
abbrev n_law_cell : List Str := ["script", "k"]
abbrev p_law_cell : List Str := ["script", "k"]
theorem sc_law_cell : FnScope n_law_cell p_law_cell (defScope s_law_cell) := ⟨rfl, rfl, rfl, by decide +kernel, rfl, by decide +kernel, by decide +kernel⟩
abbrev s_law_box : Stmt := topS 26
abbrev n_law_box : List Str := ["great"]
abbrev p_law_box : List Str := ["great"]
theorem sc_law_box : FnScope n_law_box p_law_box (defScope s_law_box) := ⟨rfl, rfl, rfl, by decide +kernel, rfl, by decide +kernel, by decide +kernel⟩
abbrev s_law_take : Stmt := topS 27
abbrev n_law_take : List Str := ["box", "many", "digit", "mixed"]
abbrev p_law_take : List Str := ["box", "many"]
theorem sc_law_take : FnScope n_law_take p_law_take (defScope s_law_take) := ⟨rfl, rfl, rfl, by decide +kernel, rfl, by decide +kernel, by decide +kernel⟩
abbrev s_law_mixed : Stmt := topS 28
abbrev n_law_mixed : List Str := ["box", "items", "left", "found", "turn"]
abbrev p_law_mixed : List Str := ["box", "items"]
theorem sc_law_mixed : FnScope n_law_mixed p_law_mixed (defScope s_law_mixed) := ⟨rfl, rfl, rfl, by decide +kernel, rfl, by decide +kernel, by decide +kernel⟩
abbrev s_law_same : Stmt := topS 29
abbrev n_law_same : List Str := ["given", "due", "key", "k"]
abbrev p_law_same : List Str := ["given", "due"]
theorem sc_law_same : FnScope n_law_same p_law_same (defScope s_law_same) := ⟨rfl, rfl, rfl, by decide +kernel, rfl, by decide +kernel, by decide +kernel⟩
abbrev s_law_followed : Stmt := topS 30
abbrev n_law_followed : List Str := ["one", "other", "point"]
abbrev p_law_followed : List Str := ["one", "other"]
theorem sc_law_followed : FnScope n_law_followed p_law_followed (defScope s_law_followed) := ⟨rfl, rfl, rfl, by decide +kernel, rfl, by decide +kernel, by decide +kernel⟩
abbrev s_law_from_moves : Stmt := topS 31
abbrev n_law_from_moves : List Str := ["moves", "most", "found", "at", "move", "after", "other", "one"]
abbrev p_law_from_moves : List Str := ["moves", "most"]
theorem sc_law_from_moves : FnScope n_law_from_moves p_law_from_moves (defScope s_law_from_moves) := ⟨rfl, rfl, rfl, by decide +kernel, rfl, by decide +kernel, by decide +kernel⟩
abbrev s_law_relabelled : Stmt := topS 32
abbrev n_law_relabelled : List Str := ["table", "names", "back", "k", "y", "x"]
abbrev p_law_relabelled : List Str := ["table", "names"]
theorem sc_law_relabelled : FnScope n_law_relabelled p_law_relabelled (defScope s_law_relabelled) := ⟨rfl, rfl, rfl, by decide +kernel, rfl, by decide +kernel, by decide +kernel⟩
abbrev s_law_plain : Stmt := topS 33
abbrev n_law_plain : List Str := ["box", "most", "many", "way", "index", "period", "steps", "left", "right", "x", "y", "k"]
abbrev p_law_plain : List Str := ["box", "most"]
theorem sc_law_plain : FnScope n_law_plain p_law_plain (defScope s_law_plain) := ⟨rfl, rfl, rfl, by decide +kernel, rfl, by decide +kernel, by decide +kernel⟩
abbrev s_law_drawn : Stmt := topS 34
abbrev n_law_drawn : List Str := ["box", "most", "table", "number", "turn", "points", "moves", "other", "many", "way", "k", "m", "x"]
abbrev p_law_drawn : List Str := ["box", "most"]
theorem sc_law_drawn : FnScope n_law_drawn p_law_drawn (defScope s_law_drawn) := ⟨rfl, rfl, rfl, by decide +kernel, rfl, by decide +kernel, by decide +kernel⟩
abbrev s_law_is_int : Stmt := topS 35
abbrev n_law_is_int : List Str := ["value"]
abbrev p_law_is_int : List Str := ["value"]
theorem sc_law_is_int : FnScope n_law_is_int p_law_is_int (defScope s_law_is_int) := ⟨rfl, rfl, rfl, by decide +kernel, rfl, by decide +kernel, by decide +kernel⟩
abbrev s_law_same_object : Stmt := topS 36
abbrev n_law_same_object : List Str := ["told", "value", "right"]
abbrev p_law_same_object : List Str := ["told", "value"]
theorem sc_law_same_object : FnScope n_law_same_object p_law_same_object (defScope s_law_same_object) := ⟨rfl, rfl, rfl, by decide +kernel, rfl, by decide +kernel, by decide +kernel⟩
abbrev s_law_copy : Stmt := topS 37
abbrev n_law_copy : List Str := ["value"]
abbrev p_law_copy : List Str := ["value"]
theorem sc_law_copy : FnScope n_law_copy p_law_copy (defScope s_law_copy) := ⟨rfl, rfl, rfl, by decide +kernel, rfl, by decide +kernel, by decide +kernel⟩
abbrev s_law_refusals_right : Stmt := topS 38
abbrev n_law_refusals_right : List Str := ["box", "rows", "named", "word", "good", "errors", "wrong", "at", "args", "later", "k", "told"]
abbrev p_law_refusals_right : List Str := ["box", "rows", "named"]
theorem sc_law_refusals_right : FnScope n_law_refusals_right p_law_refusals_right (defScope s_law_refusals_right) := ⟨rfl, rfl, rfl, by decide +kernel, rfl, by decide +kernel, by decide +kernel⟩
abbrev s_law_twice : Stmt := topS 39
abbrev n_law_twice : List Str := ["word", "args", "due", "named", "turn", "told"]
abbrev p_law_twice : List Str := ["word", "args", "due", "named"]
theorem sc_law_twice : FnScope n_law_twice p_law_twice (defScope s_law_twice) := ⟨rfl, rfl, rfl, by decide +kernel, rfl, by decide +kernel, by decide +kernel⟩
abbrev s_law_no_tables : Stmt := topS 40
abbrev n_law_no_tables : List Str := ["table", "many", "rows", "line", "found", "odd", "row"]
abbrev p_law_no_tables : List Str := ["table"]
theorem sc_law_no_tables : FnScope n_law_no_tables p_law_no_tables (defScope s_law_no_tables) := ⟨rfl, rfl, rfl, by decide +kernel, rfl, by decide +kernel, by decide +kernel⟩
abbrev s_law_no_semigroup : Stmt := topS 41
abbrev n_law_no_semigroup : List Str := ["many"]
abbrev p_law_no_semigroup : List Str := ["many"]
theorem sc_law_no_semigroup : FnScope n_law_no_semigroup p_law_no_semigroup (defScope s_law_no_semigroup) := ⟨rfl, rfl, rfl, by decide +kernel, rfl, by decide +kernel, by decide +kernel⟩
abbrev s_law_closing : Stmt := topS 42
abbrev n_law_closing : List Str := ["table", "members", "found", "at", "x", "z"]
abbrev p_law_closing : List Str := ["table", "members"]
theorem sc_law_closing : FnScope n_law_closing p_law_closing (defScope s_law_closing) := ⟨rfl, rfl, rfl, by decide +kernel, rfl, by decide +kernel, by decide +kernel⟩
abbrev s_law_no_lists_of : Stmt := topS 43
abbrev n_law_no_lists_of : List Str := ["many"]
abbrev p_law_no_lists_of : List Str := ["many"]
theorem sc_law_no_lists_of : FnScope n_law_no_lists_of p_law_no_lists_of (defScope s_law_no_lists_of) := ⟨rfl, rfl, rfl, by decide +kernel, rfl, by decide +kernel, by decide +kernel⟩
abbrev s_law_asked : Stmt := topS 44
abbrev n_law_asked : List Str := ["word", "args", "named", "door", "e"]
abbrev p_law_asked : List Str := ["word", "args", "named"]
theorem sc_law_asked : FnScope n_law_asked p_law_asked (defScope s_law_asked) := ⟨rfl, rfl, rfl, by decide +kernel, rfl, by decide +kernel, by decide +kernel⟩
abbrev s_law_lengths : Stmt := topS 45
abbrev n_law_lengths : List Str := ["table", "members", "found", "front", "size", "x", "later", "y"]
abbrev p_law_lengths : List Str := ["table", "members"]
theorem sc_law_lengths : FnScope n_law_lengths p_law_lengths (defScope s_law_lengths) := ⟨rfl, rfl, rfl, by decide +kernel, rfl, by decide +kernel, by decide +kernel⟩
abbrev s_law_list_right : Stmt := topS 46
abbrev n_law_list_right : List Str := ["table", "members", "named", "lot", "lengths", "told", "x", "item", "now", "y", "kept"]
abbrev p_law_list_right : List Str := ["table", "members", "named"]
theorem sc_law_list_right : FnScope n_law_list_right p_law_list_right (defScope s_law_list_right) := ⟨rfl, rfl, rfl, by decide +kernel, rfl, by decide +kernel, by decide +kernel⟩
abbrev s_law : Stmt := topS 47
abbrev n_law : List Str := ["script", "k", "box", "named", "most", "table", "many", "order", "some", "members", "wrong", "rows", "word"]
abbrev p_law : List Str := ["script"]
theorem sc_law : FnScope n_law p_law (defScope s_law) := ⟨rfl, rfl, rfl, by decide +kernel, rfl, by decide +kernel, by decide +kernel⟩
abbrev si_InvalidTable : Stmt := inClass (topS 2) 0
theorem sci_InvalidTable : FnScope ["self", "given"] ["self", "given"] (defScope si_InvalidTable) := ⟨rfl, rfl, rfl, by decide +kernel, rfl, by decide +kernel, by decide +kernel⟩
abbrev si_InvalidElements : Stmt := inClass (topS 3) 0
theorem sci_InvalidElements : FnScope ["self", "given"] ["self", "given"] (defScope si_InvalidElements) := ⟨rfl, rfl, rfl, by decide +kernel, rfl, by decide +kernel, by decide +kernel⟩
/-- what the top has left: the defs, the classes, the names -/
structure Tx (K : PySem.W.Frag) (mg : Str → Option Value) where
  f_is_integer : Addr
  d_is_integer : FuncData
  F_is_integer : Fun K "is_integer" "is_integer" s_is_integer f_is_integer d_is_integer
  g_is_integer : mg "is_integer" = some (.ref f_is_integer)
  b_is_integer : Binds K d_is_integer p_is_integer []
  f_is_within : Addr
  d_is_within : FuncData
  F_is_within : Fun K "is_within" "is_within" s_is_within f_is_within d_is_within
  g_is_within : mg "is_within" = some (.ref f_is_within)
  b_is_within : Binds K d_is_within p_is_within []
  f_is_index : Addr
  d_is_index : FuncData
  F_is_index : Fun K "is_index" "is_index" s_is_index f_is_index d_is_index
  g_is_index : mg "is_index" = some (.ref f_is_index)
  b_is_index : Binds K d_is_index p_is_index []
  f_is_list : Addr
  d_is_list : FuncData
  F_is_list : Fun K "is_list" "is_list" s_is_list f_is_list d_is_list
  g_is_list : mg "is_list" = some (.ref f_is_list)
  b_is_list : Binds K d_is_list p_is_list []
  f_is_tuple : Addr
  d_is_tuple : FuncData
  F_is_tuple : Fun K "is_tuple" "is_tuple" s_is_tuple f_is_tuple d_is_tuple
  g_is_tuple : mg "is_tuple" = some (.ref f_is_tuple)
  b_is_tuple : Binds K d_is_tuple p_is_tuple []
  f_are_elements : Addr
  d_are_elements : FuncData
  F_are_elements : Fun K "are_elements" "are_elements" s_are_elements f_are_elements d_are_elements
  g_are_elements : mg "are_elements" = some (.ref f_are_elements)
  b_are_elements : Binds K d_are_elements p_are_elements []
  f_is_table : Addr
  d_is_table : FuncData
  F_is_table : Fun K "is_table" "is_table" s_is_table f_is_table d_is_table
  g_is_table : mg "is_table" = some (.ref f_is_table)
  b_is_table : Binds K d_is_table p_is_table []
  f_is_broken : Addr
  d_is_broken : FuncData
  F_is_broken : Fun K "is_broken" "is_broken" s_is_broken f_is_broken d_is_broken
  g_is_broken : mg "is_broken" = some (.ref f_is_broken)
  b_is_broken : Binds K d_is_broken p_is_broken []
  f_broken_with : Addr
  d_broken_with : FuncData
  F_broken_with : Fun K "broken_with" "broken_with" s_broken_with f_broken_with d_broken_with
  g_broken_with : mg "broken_with" = some (.ref f_broken_with)
  b_broken_with : Binds K d_broken_with p_broken_with []
  f_is_semigroup : Addr
  d_is_semigroup : FuncData
  F_is_semigroup : Fun K "is_semigroup" "is_semigroup" s_is_semigroup f_is_semigroup d_is_semigroup
  g_is_semigroup : mg "is_semigroup" = some (.ref f_is_semigroup)
  b_is_semigroup : Binds K d_is_semigroup p_is_semigroup []
  f_check_semigroup : Addr
  d_check_semigroup : FuncData
  F_check_semigroup : Fun K "check_semigroup" "check_semigroup" s_check_semigroup f_check_semigroup d_check_semigroup
  g_check_semigroup : mg "check_semigroup" = some (.ref f_check_semigroup)
  b_check_semigroup : Binds K d_check_semigroup p_check_semigroup []
  f_words_of : Addr
  d_words_of : FuncData
  F_words_of : Fun K "words_of" "words_of" s_words_of f_words_of d_words_of
  g_words_of : mg "words_of" = some (.ref f_words_of)
  b_words_of : Binds K d_words_of p_words_of []
  f_closure : Addr
  d_closure : FuncData
  F_closure : Fun K "closure" "closure" s_closure f_closure d_closure
  g_closure : mg "closure" = some (.ref f_closure)
  b_closure : Binds K d_closure p_closure []
  f_check_elements : Addr
  d_check_elements : FuncData
  F_check_elements : Fun K "check_elements" "check_elements" s_check_elements f_check_elements d_check_elements
  g_check_elements : mg "check_elements" = some (.ref f_check_elements)
  b_check_elements : Binds K d_check_elements p_check_elements []
  f_generated : Addr
  d_generated : FuncData
  F_generated : Fun K "generated" "generated" s_generated f_generated d_generated
  g_generated : mg "generated" = some (.ref f_generated)
  b_generated : Binds K d_generated p_generated []
  kb_generated : KBinds K d_generated p_generated ["members", "table"] (fun us ws => match us, ws with | [], [a0, a1] => [a1, a0] | _, _ => []) (fun us ws => match us, ws with | [], [a0, a1] => [a1, a0] | _, _ => [])
  f_words_for : Addr
  d_words_for : FuncData
  F_words_for : Fun K "words_for" "words_for" s_words_for f_words_for d_words_for
  g_words_for : mg "words_for" = some (.ref f_words_for)
  b_words_for : Binds K d_words_for p_words_for []
  kb_words_for : KBinds K d_words_for p_words_for ["members", "table"] (fun us ws => match us, ws with | [], [a0, a1] => [a1, a0] | _, _ => []) (fun us ws => match us, ws with | [], [a0, a1] => [a1, a0] | _, _ => [])
  f_law_cell : Addr
  d_law_cell : FuncData
  F_law_cell : Fun K "_law_cell" "_law_cell" s_law_cell f_law_cell d_law_cell
  g_law_cell : mg "_law_cell" = some (.ref f_law_cell)
  b_law_cell : Binds K d_law_cell p_law_cell []
  f_law_box : Addr
  d_law_box : FuncData
  F_law_box : Fun K "_law_box" "_law_box" s_law_box f_law_box d_law_box
  g_law_box : mg "_law_box" = some (.ref f_law_box)
  b_law_box : Binds K d_law_box p_law_box []
  f_law_take : Addr
  d_law_take : FuncData
  F_law_take : Fun K "_law_take" "_law_take" s_law_take f_law_take d_law_take
  g_law_take : mg "_law_take" = some (.ref f_law_take)
  b_law_take : Binds K d_law_take p_law_take []
  f_law_mixed : Addr
  d_law_mixed : FuncData
  F_law_mixed : Fun K "_law_mixed" "_law_mixed" s_law_mixed f_law_mixed d_law_mixed
  g_law_mixed : mg "_law_mixed" = some (.ref f_law_mixed)
  b_law_mixed : Binds K d_law_mixed p_law_mixed []
  f_law_same : Addr
  d_law_same : FuncData
  F_law_same : Fun K "_law_same" "_law_same" s_law_same f_law_same d_law_same
  g_law_same : mg "_law_same" = some (.ref f_law_same)
  b_law_same : Binds K d_law_same p_law_same []
  f_law_followed : Addr
  d_law_followed : FuncData
  F_law_followed : Fun K "_law_followed" "_law_followed" s_law_followed f_law_followed d_law_followed
  g_law_followed : mg "_law_followed" = some (.ref f_law_followed)
  b_law_followed : Binds K d_law_followed p_law_followed []
  f_law_from_moves : Addr
  d_law_from_moves : FuncData
  F_law_from_moves : Fun K "_law_from_moves" "_law_from_moves" s_law_from_moves f_law_from_moves d_law_from_moves
  g_law_from_moves : mg "_law_from_moves" = some (.ref f_law_from_moves)
  b_law_from_moves : Binds K d_law_from_moves p_law_from_moves []
  f_law_relabelled : Addr
  d_law_relabelled : FuncData
  F_law_relabelled : Fun K "_law_relabelled" "_law_relabelled" s_law_relabelled f_law_relabelled d_law_relabelled
  g_law_relabelled : mg "_law_relabelled" = some (.ref f_law_relabelled)
  b_law_relabelled : Binds K d_law_relabelled p_law_relabelled []
  f_law_plain : Addr
  d_law_plain : FuncData
  F_law_plain : Fun K "_law_plain" "_law_plain" s_law_plain f_law_plain d_law_plain
  g_law_plain : mg "_law_plain" = some (.ref f_law_plain)
  b_law_plain : Binds K d_law_plain p_law_plain []
  f_law_drawn : Addr
  d_law_drawn : FuncData
  F_law_drawn : Fun K "_law_drawn" "_law_drawn" s_law_drawn f_law_drawn d_law_drawn
  g_law_drawn : mg "_law_drawn" = some (.ref f_law_drawn)
  b_law_drawn : Binds K d_law_drawn p_law_drawn []
  f_law_is_int : Addr
  d_law_is_int : FuncData
  F_law_is_int : Fun K "_law_is_int" "_law_is_int" s_law_is_int f_law_is_int d_law_is_int
  g_law_is_int : mg "_law_is_int" = some (.ref f_law_is_int)
  b_law_is_int : Binds K d_law_is_int p_law_is_int []
  f_law_same_object : Addr
  d_law_same_object : FuncData
  F_law_same_object : Fun K "_law_same_object" "_law_same_object" s_law_same_object f_law_same_object d_law_same_object
  g_law_same_object : mg "_law_same_object" = some (.ref f_law_same_object)
  b_law_same_object : Binds K d_law_same_object p_law_same_object []
  f_law_copy : Addr
  d_law_copy : FuncData
  F_law_copy : Fun K "_law_copy" "_law_copy" s_law_copy f_law_copy d_law_copy
  g_law_copy : mg "_law_copy" = some (.ref f_law_copy)
  b_law_copy : Binds K d_law_copy p_law_copy []
  f_law_refusals_right : Addr
  d_law_refusals_right : FuncData
  F_law_refusals_right : Fun K "_law_refusals_right" "_law_refusals_right" s_law_refusals_right f_law_refusals_right d_law_refusals_right
  g_law_refusals_right : mg "_law_refusals_right" = some (.ref f_law_refusals_right)
  b_law_refusals_right : Binds K d_law_refusals_right p_law_refusals_right []
  f_law_twice : Addr
  d_law_twice : FuncData
  F_law_twice : Fun K "_law_twice" "_law_twice" s_law_twice f_law_twice d_law_twice
  g_law_twice : mg "_law_twice" = some (.ref f_law_twice)
  b_law_twice : Binds K d_law_twice p_law_twice []
  f_law_no_tables : Addr
  d_law_no_tables : FuncData
  F_law_no_tables : Fun K "_law_no_tables" "_law_no_tables" s_law_no_tables f_law_no_tables d_law_no_tables
  g_law_no_tables : mg "_law_no_tables" = some (.ref f_law_no_tables)
  b_law_no_tables : Binds K d_law_no_tables p_law_no_tables []
  f_law_no_semigroup : Addr
  d_law_no_semigroup : FuncData
  F_law_no_semigroup : Fun K "_law_no_semigroup" "_law_no_semigroup" s_law_no_semigroup f_law_no_semigroup d_law_no_semigroup
  g_law_no_semigroup : mg "_law_no_semigroup" = some (.ref f_law_no_semigroup)
  b_law_no_semigroup : Binds K d_law_no_semigroup p_law_no_semigroup []
  f_law_closing : Addr
  d_law_closing : FuncData
  F_law_closing : Fun K "_law_closing" "_law_closing" s_law_closing f_law_closing d_law_closing
  g_law_closing : mg "_law_closing" = some (.ref f_law_closing)
  b_law_closing : Binds K d_law_closing p_law_closing []
  f_law_no_lists_of : Addr
  d_law_no_lists_of : FuncData
  F_law_no_lists_of : Fun K "_law_no_lists_of" "_law_no_lists_of" s_law_no_lists_of f_law_no_lists_of d_law_no_lists_of
  g_law_no_lists_of : mg "_law_no_lists_of" = some (.ref f_law_no_lists_of)
  b_law_no_lists_of : Binds K d_law_no_lists_of p_law_no_lists_of []
  f_law_asked : Addr
  d_law_asked : FuncData
  F_law_asked : Fun K "_law_asked" "_law_asked" s_law_asked f_law_asked d_law_asked
  g_law_asked : mg "_law_asked" = some (.ref f_law_asked)
  b_law_asked : Binds K d_law_asked p_law_asked []
  f_law_lengths : Addr
  d_law_lengths : FuncData
  F_law_lengths : Fun K "_law_lengths" "_law_lengths" s_law_lengths f_law_lengths d_law_lengths
  g_law_lengths : mg "_law_lengths" = some (.ref f_law_lengths)
  b_law_lengths : Binds K d_law_lengths p_law_lengths []
  f_law_list_right : Addr
  d_law_list_right : FuncData
  F_law_list_right : Fun K "_law_list_right" "_law_list_right" s_law_list_right f_law_list_right d_law_list_right
  g_law_list_right : mg "_law_list_right" = some (.ref f_law_list_right)
  b_law_list_right : Binds K d_law_list_right p_law_list_right []
  f_law : Addr
  d_law : FuncData
  F_law : Fun K "law" "law" s_law f_law d_law
  g_law : mg "law" = some (.ref f_law)
  b_law : Binds K d_law p_law []
  c_SemigroupError : Addr
  gc_SemigroupError : mg "SemigroupError" = some (.ref c_SemigroupError)
  sem : SemC K mg c_SemigroupError
  c_InvalidTable : Addr
  gc_InvalidTable : mg "InvalidTable" = some (.ref c_InvalidTable)
  i_InvalidTable : Addr
  di_InvalidTable : FuncData
  Fi_InvalidTable : Fun K "__init__" "InvalidTable.__init__" si_InvalidTable i_InvalidTable di_InvalidTable
  bi_InvalidTable : Binds K di_InvalidTable ["self", "given"] []
  e_InvalidTable : ErrC K mg "InvalidTable" "given" c_InvalidTable i_InvalidTable
  c_InvalidElements : Addr
  gc_InvalidElements : mg "InvalidElements" = some (.ref c_InvalidElements)
  i_InvalidElements : Addr
  di_InvalidElements : FuncData
  Fi_InvalidElements : Fun K "__init__" "InvalidElements.__init__" si_InvalidElements i_InvalidElements di_InvalidElements
  bi_InvalidElements : Binds K di_InvalidElements ["self", "given"] []
  e_InvalidElements : ErrC K mg "InvalidElements" "given" c_InvalidElements i_InvalidElements
  x_InvalidTable_SemigroupError : PySem.W.exmOne K (.ref c_InvalidTable) (.ref c_SemigroupError) = some true
  y_InvalidTable : PySem.W.kitOne K (.ref c_InvalidTable) (.ref c_SemigroupError) = some true
  x_InvalidTable_InvalidTable : PySem.W.exmOne K (.ref c_InvalidTable) (.ref c_InvalidTable) = some true
  x_InvalidTable_InvalidElements : PySem.W.exmOne K (.ref c_InvalidTable) (.ref c_InvalidElements) = some false
  x_InvalidElements_SemigroupError : PySem.W.exmOne K (.ref c_InvalidElements) (.ref c_SemigroupError) = some true
  y_InvalidElements : PySem.W.kitOne K (.ref c_InvalidElements) (.ref c_SemigroupError) = some true
  x_InvalidElements_InvalidTable : PySem.W.exmOne K (.ref c_InvalidElements) (.ref c_InvalidTable) = some false
  x_InvalidElements_InvalidElements : PySem.W.exmOne K (.ref c_InvalidElements) (.ref c_InvalidElements) = some true
  t_MOST_ELEMENTS : Tok
  gg_MOST_ELEMENTS : mg "MOST_ELEMENTS" = some (.int 10 t_MOST_ELEMENTS)
  m_isinstance : mg "isinstance" = none
  m_len : mg "len" = none
  m_all : mg "all" = none
  m_range : mg "range" = none
  m_sorted : mg "sorted" = none
  m_tuple : mg "tuple" = none
  m_int : mg "int" = none
  m_str : mg "str" = none
  m_dict : mg "dict" = none
  m_max : mg "max" = none
  m_list : mg "list" = none
  m_zip : mg "zip" = none
  m_set : mg "set" = none
  m_abs : mg "abs" = none
  m_bool : mg "bool" = none
  m_min : mg "min" = none
  m_sum : mg "sum" = none
section
variable {P : Program} {w : World} {K : PySem.W.Frag} {mg : Str → Option Value} {base : Heap}
theorem ok_init_InvalidTable (T : Tx K mg) : FnOk P w K mg base CX0 1 T.i_InvalidTable T.di_InvalidTable ["self", "given"] (spErr K "given") := by
  refine T.Fi_InvalidTable.ok sci_InvalidTable (fun vs H Q E h => ?_) (fun cdv A outer s H vs Q E hr h => ?_)
  · obtain ⟨_, _, _, rfl, _⟩ := h; rfl
  · obtain ⟨a, C, v, rfl, hT, nf, ha, q⟩ := h
    refine ⟨_, pss_cons (ps_expr (pe_seinit T.sem (by rfl) (pa_cons (pv 0) (pa_cons pe_str pa_nil)))) (pss_one (ps_ost (pv 0) (pv 1))), ?_⟩
    exact ⟨_, rfl, a, C, _, rfl, by decide, hT, ha, _, rfl, _, rfl, a, C, rfl, hT, nf, .inl ⟨ha, fun dx h1 h2 => q dx h1 h2⟩⟩
theorem ok_init_InvalidElements (T : Tx K mg) : FnOk P w K mg base CX0 1 T.i_InvalidElements T.di_InvalidElements ["self", "given"] (spErr K "given") := by
  refine T.Fi_InvalidElements.ok sci_InvalidElements (fun vs H Q E h => ?_) (fun cdv A outer s H vs Q E hr h => ?_)
  · obtain ⟨_, _, _, rfl, _⟩ := h; rfl
  · obtain ⟨a, C, v, rfl, hT, nf, ha, q⟩ := h
    refine ⟨_, pss_cons (ps_expr (pe_seinit T.sem (by rfl) (pa_cons (pv 0) (pa_cons pe_str pa_nil)))) (pss_one (ps_ost (pv 0) (pv 1))), ?_⟩
    exact ⟨_, rfl, a, C, _, rfl, by decide, hT, ha, _, rfl, _, rfl, a, C, rfl, hT, nf, .inl ⟨ha, fun dx h1 h2 => q dx h1 h2⟩⟩
end
end Kx


set_option Elab.async false
set_option linter.all false
set_option maxRecDepth 100000
set_option maxHeartbeats 2000000
namespace Kx
open PySem PySem.Spec PyProof.Rows L2 DL
section
variable {P : Program} {w : World} {K : PySem.W.Frag} {mg : Str → Option Value} {base : Heap}
/-- data that is an integer and no bool -/
def isIntD (x : D) : Bool := match x.top with
  | .int _ => true
  | _ => false
theorem int_iff {x : D} (h : isIntD x = true) : ∃ i : Int, x.top = .int i := by
  unfold isIntD at h
  cases q : x.top with
  | int i => exact ⟨i, rfl⟩
  | _ => rw [q] at h; cases h
theorem int_inR {x : D} {l h : Int} : (isIntD x && inRg x l h) = inRg x l h := by
  unfold isIntD inRg
  cases x.top <;> simp
theorem ty_int {x : D} {t : String} (e : tyD x = some t) : ∃ b c, kitB t "int" = some b ∧ kitB t "bool" = some c ∧ (b && !c) = isIntD x := by
  rw [← tyD_top] at e
  unfold isIntD
  have nt := top_no (d := x)
  generalize x.top = y at e nt
  cases y with
  | non => cases e; exact ⟨false, false, rfl, rfl, rfl⟩
  | bl _ => cases e; exact ⟨true, true, rfl, rfl, rfl⟩
  | int _ => cases e; exact ⟨true, false, rfl, rfl, rfl⟩
  | str _ => cases e; exact ⟨false, false, rfl, rfl, rfl⟩
  | tup _ => cases e; exact ⟨false, false, rfl, rfl, rfl⟩
  | lst _ => cases e; exact ⟨false, false, rfl, rfl, rfl⟩
  | dct _ => cases e; exact ⟨false, false, rfl, rfl, rfl⟩
  | op _ => cases e
  | rng _ _ => cases e
  | exc _ => cases e
  | set _ _ _ => cases e
  | idn v d => exact absurd rfl (nt v d)
def R_is_integer : List D → D → Prop
  | [x], d => tyD x ≠ none ∧ d = .bl (isIntD x)
  | _, _ => False
theorem ok_is_integer (T : Tx K mg) : FnOk P w K mg base CX0 1 T.f_is_integer T.d_is_integer p_is_integer (spD K R_is_integer) := by
  refine T.F_is_integer.ok sc_is_integer (fun vs H Q E h => ?_) (fun cdv A outer s H vs Q E hr h => ?_)
  · obtain ⟨G, ds, d, e, hd, hR, q⟩ := h
    rw [hd.length]
    match ds, hR with
    | [_], _ => rfl
  · refine ⟨_, (pss_one (ps_ret (pe_and (pe_callB (call_isiK K) (by rfl) T.m_isinstance (by decide +kernel) (pa_cons (pv 0) (pa_cons (pe_bltn (v := .ty "int") (by rfl) T.m_int (by decide +kernel) rfl) pa_nil))) (pe_one (pe_not (pe_callB (call_isiK K) (by rfl) T.m_isinstance (by decide +kernel) (pa_cons (pv 0) (pa_cons (pe_bltn (v := .ty "bool") (by rfl) T.m_bool (by decide +kernel) rfl) pa_nil)))))))), ?_⟩
    obtain ⟨G, ds, d, e, hd, hR, q⟩ := h
    have hl : ∃ x0, ds = [x0] := by
      match ds, hR with
      | [x0], _ => exact ⟨x0, rfl⟩
    obtain ⟨x0, rfl⟩ := hl
    cases hd with
    | @cons v0 vs0 _ _ dv0 hd =>
    cases hd
    refine EX.fin (W := fun _ _ _ _ => False) (good_start e ((.cons dv0 .nil)) n_is_integer) q ?_
    show EX K ⟨G, H, none⟩ _ _ [Sl.val v0 x0] _
    obtain ⟨h1, rfl⟩ := hR
    obtain ⟨t, ht⟩ := Option.ne_none_iff_exists'.mp h1
    obtain ⟨b, c, hb, hc, hbc⟩ := ty_int ht
    refine ex_ret (ev_is (ev_and (ev_cb (ea_cons (ev_var rfl) (ea_cons ev_c ea_nil)) (cb_isi ht hb)) fun _ => ev_not (ev_cb (ea_cons (ev_var rfl) (ea_cons ev_c ea_nil)) (cb_isi ht hc))) (by rw [hbc])) fun v => rfl
def R_is_within : List D → D → Prop
  | [x, l, h], d => ∃ i j : Int, l = .int i ∧ h = .int j ∧ tyD x ≠ none ∧ d = .bl (inRg x i j)
  | _, _ => False
theorem ok_is_within (T : Tx K mg) : FnOk P w K mg base CX0 2 T.f_is_within T.d_is_within p_is_within (spD K R_is_within) := by
  refine T.F_is_within.ok sc_is_within (fun vs H Q E h => ?_) (fun cdv A outer s H vs Q E hr h => ?_)
  · obtain ⟨G, ds, d, e, hd, hR, q⟩ := h
    rw [hd.length]
    match ds, hR with
    | [_, _, _], _ => rfl
  · refine ⟨_, (pss_one (ps_ret (pe_and (pe_call (ok_is_integer T) (hr.mono (by omega)) (by rfl) T.g_is_integer T.F_is_integer.kp T.b_is_integer .nil pass0 (pa_cons (pv 0) pa_nil)) (pe_one (pe_chain op_le op_le (pv 1) (pv 0) (pv 2)))))), ?_⟩
    obtain ⟨G, ds, d, e, hd, hR, q⟩ := h
    have hl : ∃ x0 x1 x2, ds = [x0, x1, x2] := by
      match ds, hR with
      | [x0, x1, x2], _ => exact ⟨x0, x1, x2, rfl⟩
    obtain ⟨x0, x1, x2, rfl⟩ := hl
    cases hd with
    | @cons v0 vs0 _ _ dv0 hd =>
    cases hd with
    | @cons v1 vs1 _ _ dv1 hd =>
    cases hd with
    | @cons v2 vs2 _ _ dv2 hd =>
    cases hd
    refine EX.fin (W := fun _ _ _ _ => False) (good_start e ((.cons dv0 (.cons dv1 (.cons dv2 .nil)))) n_is_within) q ?_
    show EX K ⟨G, H, none⟩ _ _ [Sl.val v0 x0, Sl.val v1 x1, Sl.val v2 x2] _
    obtain ⟨l, h, rfl, rfl, h1, rfl⟩ := hR
    refine ex_ret (ev_is (ev_and (ev_call (ea_cons (ev_var rfl) ea_nil) ⟨h1, rfl⟩) (b := inRg x0 l h) fun hb => ?_) (by rw [int_inR])) fun v => rfl
    obtain ⟨i, hi⟩ := int_iff hb
    refine ev_is (ev_chain (ev_var rfl) (ev_tp (ev_var rfl) hi) op_leI (fun _ => ev_var rfl) (fun _ => op_leI)) ?_
    unfold inRg
    rw [hi]

def R_is_index : List D → D → Prop
  | [x, m], d => ∃ i : Int, m = .int i ∧ tyD x ≠ none ∧ d = .bl (inRg x 0 (i - 1))
  | _, _ => False
theorem ok_is_index (T : Tx K mg) : FnOk P w K mg base CX0 3 T.f_is_index T.d_is_index p_is_index (spD K R_is_index) := by
  refine T.F_is_index.ok sc_is_index (fun vs H Q E h => ?_) (fun cdv A outer s H vs Q E hr h => ?_)
  · obtain ⟨G, ds, d, e, hd, hR, q⟩ := h
    rw [hd.length]
    match ds, hR with
    | [_, _], _ => rfl
  · refine ⟨_, (pss_one (ps_ret (pe_call (ok_is_within T) (hr.mono (by omega)) (by rfl) T.g_is_within T.F_is_within.kp T.b_is_within .nil pass0 (pa_cons (pv 0) (pa_cons pe_int (pa_cons (pe_op op_sub (pv 1) pe_int) pa_nil)))))), ?_⟩
    obtain ⟨G, ds, d, e, hd, hR, q⟩ := h
    have hl : ∃ x0 x1, ds = [x0, x1] := by
      match ds, hR with
      | [x0, x1], _ => exact ⟨x0, x1, rfl⟩
    obtain ⟨x0, x1, rfl⟩ := hl
    cases hd with
    | @cons v0 vs0 _ _ dv0 hd =>
    cases hd with
    | @cons v1 vs1 _ _ dv1 hd =>
    cases hd
    refine EX.fin (W := fun _ _ _ _ => False) (good_start e ((.cons dv0 (.cons dv1 .nil))) n_is_index) q ?_
    show EX K ⟨G, H, none⟩ _ _ [Sl.val v0 x0, Sl.val v1 x1] _
    obtain ⟨i, rfl, h1, rfl⟩ := hR
    exact ex_ret (ev_call (ea_cons (ev_var rfl) (ea_cons ev_int (ea_cons (ev_op (ev_var rfl) ev_int op_subI) ea_nil))) ⟨0, i - 1, rfl, rfl, h1, rfl⟩) fun v => rfl
/-- the items of a list or a tuple -/
def itemsD (x : D) : Option (List D) := match x.top with
  | .lst ds => some ds
  | .tup ds => some ds
  | _ => none
def isSeq (x : D) : Bool := (itemsD x).isSome
theorem ty_seq {x : D} {t : String} (e : tyD x = some t) : ∃ b c, kitB t "list" = some b ∧ kitB t "tuple" = some c ∧ (b || c) = isSeq x := by
  rw [← tyD_top] at e
  unfold isSeq itemsD
  have nt := top_no (d := x)
  generalize x.top = y at e nt
  cases y with
  | non => cases e; exact ⟨false, false, rfl, rfl, rfl⟩
  | bl _ => cases e; exact ⟨false, false, rfl, rfl, rfl⟩
  | int _ => cases e; exact ⟨false, false, rfl, rfl, rfl⟩
  | str _ => cases e; exact ⟨false, false, rfl, rfl, rfl⟩
  | tup _ => cases e; exact ⟨false, true, rfl, rfl, rfl⟩
  | lst _ => cases e; exact ⟨true, false, rfl, rfl, rfl⟩
  | dct _ => cases e; exact ⟨false, false, rfl, rfl, rfl⟩
  | op _ => cases e
  | rng _ _ => cases e
  | exc _ => cases e
  | set _ _ _ => cases e
  | idn v d => exact absurd rfl (nt v d)
def R_is_list : List D → D → Prop
  | [x], d => tyD x ≠ none ∧ d = .bl (isSeq x)
  | _, _ => False
theorem ok_is_list (T : Tx K mg) : FnOk P w K mg base CX0 1 T.f_is_list T.d_is_list p_is_list (spD K R_is_list) := by
  refine T.F_is_list.ok sc_is_list (fun vs H Q E h => ?_) (fun cdv A outer s H vs Q E hr h => ?_)
  · obtain ⟨G, ds, d, e, hd, hR, q⟩ := h
    rw [hd.length]
    match ds, hR with
    | [_], _ => rfl
  · refine ⟨_, (pss_one (ps_ret (pe_callB (call_isiTK K) (by rfl) T.m_isinstance (by decide +kernel) (pa_cons (pv 0) (pa_cons (pe_tup (pa_cons (pe_bltn (v := .ty "list") (by rfl) T.m_list (by decide +kernel) rfl) (pa_cons (pe_bltn (v := .ty "tuple") (by rfl) T.m_tuple (by decide +kernel) rfl) pa_nil))) pa_nil))))), ?_⟩
    obtain ⟨G, ds, d, e, hd, hR, q⟩ := h
    have hl : ∃ x0, ds = [x0] := by
      match ds, hR with
      | [x0], _ => exact ⟨x0, rfl⟩
    obtain ⟨x0, rfl⟩ := hl
    cases hd with
    | @cons v0 vs0 _ _ dv0 hd =>
    cases hd
    refine EX.fin (W := fun _ _ _ _ => False) (good_start e ((.cons dv0 .nil)) n_is_list) q ?_
    show EX K ⟨G, H, none⟩ _ _ [Sl.val v0 x0] _
    obtain ⟨h1, rfl⟩ := hR
    obtain ⟨t, ht⟩ := Option.ne_none_iff_exists'.mp h1
    obtain ⟨b, c, hb, hc, hbc⟩ := ty_seq ht
    exact ex_ret (ev_is (ev_isi2 (ev_var rfl) ht hb hc) (by rw [hbc])) fun v => rfl
/-- the items of a tuple -/
def tupsD (x : D) : Option (List D) := match x.top with
  | .tup ds => some ds
  | _ => none
theorem tupsD_top {x : D} {ds : List D} (h : tupsD x = some ds) : x.top = .tup ds := by
  unfold tupsD at h
  cases q : x.top with
  | tup es => rw [q] at h; cases h; rfl
  | _ => rw [q] at h; cases h
theorem ty_tup {x : D} {t : String} (e : tyD x = some t) : kitB t "tuple" = some (tupsD x).isSome := by
  rw [← tyD_top] at e
  unfold tupsD
  have nt := top_no (d := x)
  generalize x.top = y at e nt
  cases y with
  | non => cases e; rfl
  | bl _ => cases e; rfl
  | int _ => cases e; rfl
  | str _ => cases e; rfl
  | tup _ => cases e; rfl
  | lst _ => cases e; rfl
  | dct _ => cases e; rfl
  | op _ => cases e
  | rng _ _ => cases e
  | exc _ => cases e
  | set _ _ _ => cases e
  | idn v d => exact absurd rfl (nt v d)
def isTupOf (x : D) (i : Int) : Bool := match tupsD x with
  | some ds => decide ((ds.length : Int) = i)
  | none => false
def R_is_tuple : List D → D → Prop
  | [x, m], d => ∃ i : Int, m = .int i ∧ tyD x ≠ none ∧ d = .bl (isTupOf x i)
  | _, _ => False
theorem ok_is_tuple (T : Tx K mg) : FnOk P w K mg base CX0 1 T.f_is_tuple T.d_is_tuple p_is_tuple (spD K R_is_tuple) := by
  refine T.F_is_tuple.ok sc_is_tuple (fun vs H Q E h => ?_) (fun cdv A outer s H vs Q E hr h => ?_)
  · obtain ⟨G, ds, d, e, hd, hR, q⟩ := h
    rw [hd.length]
    match ds, hR with
    | [_, _], _ => rfl
  · refine ⟨_, (pss_one (ps_ret (pe_and (pe_callB (call_isiK K) (by rfl) T.m_isinstance (by decide +kernel) (pa_cons (pv 0) (pa_cons (pe_bltn (v := .ty "tuple") (by rfl) T.m_tuple (by decide +kernel) rfl) pa_nil))) (pe_one (pe_cmpR op_eq (pe_callB (call_lenK K) (by rfl) T.m_len (by decide +kernel) (pa_cons (pv 0) pa_nil)) (pv 1) (nomark _)))))), ?_⟩
    obtain ⟨G, ds, d, e, hd, hR, q⟩ := h
    have hl : ∃ x0 x1, ds = [x0, x1] := by
      match ds, hR with
      | [x0, x1], _ => exact ⟨x0, x1, rfl⟩
    obtain ⟨x0, x1, rfl⟩ := hl
    cases hd with
    | @cons v0 vs0 _ _ dv0 hd =>
    cases hd with
    | @cons v1 vs1 _ _ dv1 hd =>
    cases hd
    refine EX.fin (W := fun _ _ _ _ => False) (good_start e ((.cons dv0 (.cons dv1 .nil))) n_is_tuple) q ?_
    show EX K ⟨G, H, none⟩ _ _ [Sl.val v0 x0, Sl.val v1 x1] _
    obtain ⟨i, rfl, h1, rfl⟩ := hR
    obtain ⟨t, ht⟩ := Option.ne_none_iff_exists'.mp h1
    cases q : tupsD x0 with
    | none =>
      refine ex_ret (ev_is (ev_and (b := true) (ev_cb (ea_cons (ev_var rfl) (ea_cons ev_c ea_nil)) (cb_isi ht (ty_tup ht))) fun h => ?_) ?_) fun v => rfl
      · rw [q] at h; cases h
      · unfold isTupOf; rw [q]; rfl
    | some ds =>
      refine ex_ret (ev_is (ev_and (ev_cb (ea_cons (ev_var rfl) (ea_cons ev_c ea_nil)) (cb_isi ht (ty_tup ht))) fun h => ev_op (ev_cb (ea_cons (ev_tp (ev_var rfl) (tupsD_top q)) ea_nil) cb_lenT) (ev_var rfl) op_eqI) ?_) fun v => rfl
      unfold isTupOf; rw [q]; rfl
/-- a list or tuple of numbers below -/
def areEl (x : D) (m : Int) : Bool := match itemsD x with
  | some ds => ds.all fun y => inRg y 0 (m - 1)
  | none => false
def R_are_elements : List D → D → Prop
  | [x, m], d => ∃ i : Int, m = .int i ∧ tyD x ≠ none ∧ (∀ ds, itemsD x = some ds → ds.length < 10000 ∧ ∀ y ∈ ds, tyD y ≠ none) ∧ d = .bl (areEl x i)
  | _, _ => False
theorem itemsD_top {x : D} {ds : List D} (h : itemsD x = some ds) : x.top = .lst ds ∨ x.top = .tup ds := by
  unfold itemsD at h
  cases q : x.top with
  | tup es => rw [q] at h; cases h; exact .inr rfl
  | lst es => rw [q] at h; cases h; exact .inl rfl
  | _ => rw [q] at h; cases h
theorem ok_are_elements (T : Tx K mg) : FnOk P w K mg base CX0 4 T.f_are_elements T.d_are_elements p_are_elements (spD K R_are_elements) := by
  refine T.F_are_elements.ok sc_are_elements (fun vs H Q E h => ?_) (fun cdv A outer s H vs Q E hr h => ?_)
  · obtain ⟨G, ds, d, e, hd, hR, q⟩ := h
    rw [hd.length]
    match ds, hR with
    | [_, _], _ => rfl
  · refine ⟨_, (pss_one (ps_ret (pe_and (pe_call (ok_is_list T) (hr.mono (by omega)) (by rfl) T.g_is_list T.F_is_list.kp T.b_is_list .nil pass0 (pa_cons (pv 0) pa_nil)) (pe_one (pe_callB (cr_all rfl) (by rfl) T.m_all (by decide +kernel) (pa_cons (pe_lc (own := [("item", 2)]) rfl sc_are_elements.nd (pi_seqK K (pv 0)) (blkOk_by (by rfl)) (fun _ _ _ _ _ => pg_name (i := 2) sc_are_elements.nd rfl (by first | exact .inl rfl | exact .inr rfl)) (fun _ _ _ _ _ => pts_nil) (fun _ _ _ _ _ => (pe_call (ok_is_index T) (hr.mono (by omega)) (by rfl) T.g_is_index T.F_is_index.kp T.b_is_index .nil pass0 (pa_cons (pv 2) (pa_cons (pv 1) pa_nil))))) pa_nil)))))), ?_⟩
    obtain ⟨G, ds, d, e, hd, hR, q⟩ := h
    have hl : ∃ x0 x1, ds = [x0, x1] := by
      match ds, hR with
      | [x0, x1], _ => exact ⟨x0, x1, rfl⟩
    obtain ⟨x0, x1, rfl⟩ := hl
    cases hd with
    | @cons v0 vs0 _ _ dv0 hd =>
    cases hd with
    | @cons v1 vs1 _ _ dv1 hd =>
    cases hd
    refine EX.fin (W := fun _ _ _ _ => False) (good_start e ((.cons dv0 (.cons dv1 .nil))) n_are_elements) q ?_
    show EX K ⟨G, H, none⟩ _ _ [Sl.val v0 x0, Sl.val v1 x1, Sl.un] _
    obtain ⟨i, rfl, h1, h2, rfl⟩ := hR
    refine ex_ret (ev_is (ev_and (b := areEl x0 i) (ev_call (ea_cons (ev_var rfl) ea_nil) ⟨h1, rfl⟩) fun h => ?_) ?_) fun v => rfl
    · obtain ⟨ds, hds⟩ := Option.isSome_iff_exists.mp h
      have hI : EVI K ⟨G, H, none⟩ (iSeq K (tVar 0)) [Sl.val v0 x0, Sl.val v1 (.int i), Sl.un] ds := by
        rcases itemsD_top hds with q | q
        · exact ei_seqL (ev_tp (ev_var rfl) q)
        · exact ei_seqT (ev_tp (ev_var rfl) q)
      obtain ⟨hl, hy⟩ := h2 ds hds
      have hlc := ev_lcS (K := K) (β := ⟨G, H, none⟩) (F := fun y => .bl (inRg y 0 (i - 1))) (te := tCall (spD K R_is_index) [] E0 (tCons (tVar 2) (tCons (tVar 1) tNil))) (vs := [2]) (j := 2) hI (by rw [sizeLine_eq]; omega) (by decide)
        (fun d v hd => ev_call (ea_cons (ev_var rfl) (ea_cons (ev_var rfl) ea_nil)) ⟨i, rfl, hy d hd, rfl⟩)
      rw [show (ds.map fun y => D.bl (inRg y 0 (i - 1))) = (ds.map fun y => inRg y 0 (i - 1)).map D.bl by rw [List.map_map]; rfl] at hlc
      refine ev_is (ev_cb (ea_cons hlc ea_nil) cb_all) ?_
      unfold areEl
      rw [hds, List.all_map]
      rfl
    · unfold areEl isSeq
      cases itemsD x0 with
      | none => rfl
      | some ds => rfl

end
end Kx


set_option Elab.async false
set_option linter.all false
set_option maxRecDepth 100000
set_option maxHeartbeats 2000000
namespace Kx
open PySem PySem.Spec PyProof.Rows L2 DL
section
variable {P : Program} {w : World} {K : PySem.W.Frag} {mg : Str → Option Value} {base : Heap}
/-- tables: tuples of tuples of numbers -/
def isTab (x : D) : Bool := match tupsD x with
  | some ds => decide (1 ≤ ds.length) && decide (ds.length ≤ 10) && ds.all fun l => isTupOf l ds.length && areEl l ds.length
  | none => false
/-- data whose kind is known, down to items of items -/
def Ty3 (x : D) : Prop := tyD x ≠ none ∧ ∀ ds, itemsD x = some ds → ds.length < 10000 ∧ ∀ y ∈ ds, tyD y ≠ none ∧ ∀ es, itemsD y = some es → es.length < 10000 ∧ ∀ z ∈ es, tyD z ≠ none
def R_is_table : List D → D → Prop
  | [x], d => Ty3 x ∧ d = .bl (isTab x)
  | _, _ => False
theorem ok_is_table (T : Tx K mg) : FnOk P w K mg base CX0 5 T.f_is_table T.d_is_table p_is_table (spD K R_is_table) := by
  refine T.F_is_table.ok sc_is_table (fun vs H Q E h => ?_) (fun cdv A outer s H vs Q E hr h => ?_)
  · obtain ⟨G, ds, d, e, hd, hR, q⟩ := h
    rw [hd.length]
    match ds, hR with
    | [_], _ => rfl
  · refine ⟨_, (pss_cons (ps_if (PW.pt (pw_or (pt_not (pt_val (pe_callB (call_isiK K) (by rfl) T.m_isinstance (by decide +kernel) (pa_cons (pv 0) (pa_cons (pe_bltn (v := .ty "tuple") (by rfl) T.m_tuple (by decide +kernel) rfl) pa_nil))))) (pw_or1 (pt_not (pt_chain op_le op_le pe_int (pe_callB (call_lenK K) (by rfl) T.m_len (by decide +kernel) (pa_cons (pv 0) pa_nil)) (pe_glob (v := .int 10) (by rfl) T.gg_MOST_ELEMENTS ⟨_, rfl⟩)))))) (pss_one (ps_ret pe_bl)) pss_nil)
      (pss_cons (ps_set (i := 1) sc_is_table.nd rfl (.inr rfl) (pe_callB (call_lenK K) (by rfl) T.m_len (by decide +kernel) (pa_cons (pv 0) pa_nil)))
      (pss_one (ps_ret (pe_callB (cr_all rfl) (by rfl) T.m_all (by decide +kernel) (pa_cons (pe_lc (own := [("line", 2)]) rfl sc_is_table.nd (pi_seqK K (pv 0)) (blkOk_by (by rfl)) (fun _ _ _ _ _ => pg_name (i := 2) sc_is_table.nd rfl (by first | exact .inl rfl | exact .inr rfl)) (fun _ _ _ _ _ => pts_nil) (fun _ _ _ _ _ => (pe_and (pe_call (ok_is_tuple T) (hr.mono (by omega)) (by rfl) T.g_is_tuple T.F_is_tuple.kp T.b_is_tuple .nil pass0 (pa_cons (pv 2) (pa_cons (pv 1) pa_nil))) (pe_one (pe_call (ok_are_elements T) (hr.mono (by omega)) (by rfl) T.g_are_elements T.F_are_elements.kp T.b_are_elements .nil pass0 (pa_cons (pv 2) (pa_cons (pv 1) pa_nil))))))) pa_nil)))))), ?_⟩
    obtain ⟨G, ds, d, e, hd, hR, q⟩ := h
    have hl : ∃ x0, ds = [x0] := by
      match ds, hR with
      | [x0], _ => exact ⟨x0, rfl⟩
    obtain ⟨x0, rfl⟩ := hl
    cases hd with
    | @cons v0 vs0 _ _ dv0 hd =>
    cases hd
    refine EX.fin (W := fun _ _ _ _ => False) (good_start e ((.cons dv0 .nil)) n_is_table) q ?_
    show EX K ⟨G, H, none⟩ _ _ [Sl.val v0 x0, Sl.un, Sl.un] _
    obtain ⟨hT, rfl⟩ := hR
    obtain ⟨t, ht⟩ := Option.ne_none_iff_exists'.mp hT.1
    cases hq : tupsD x0 with
    | none =>
      have e0 : isTab x0 = false := by unfold isTab; rw [hq]
      rw [e0] at q ⊢
      refine ex_when (b := true) (et_is (et_or (b := true) (et_not (et_B (ev_cb (ea_cons (ev_var rfl) (ea_cons ev_c ea_nil)) (cb_isi ht (ty_tup ht))))) (fun h => ?_)) (by rw [hq]; rfl)) (fun _ => ex_ret ev_bl fun v => rfl) fun h => by cases h
      rw [hq] at h; cases h
    | some ds =>
      have hx := tupsD_top hq
      obtain ⟨hl, hy⟩ := hT.2 ds (by unfold itemsD; rw [hx])
      refine ex_when (b := !(decide (1 ≤ ds.length) && decide (ds.length ≤ 10))) (et_is (et_or (et_not (et_B (ev_cb (ea_cons (ev_var rfl) (ea_cons ev_c ea_nil)) (cb_isi ht (ty_tup ht)))))
        (fun h => et_not (et_test (ev_chain ev_int (ev_cb (ea_cons (ev_tp (ev_var rfl) hx) ea_nil) cb_lenT) op_leI (fun _ => ev_int) (fun _ => op_leI))))) ?_) (fun hb => ?_) fun hb => ?_
      · rw [hq]
        show (false || _) = _
        rw [Bool.false_or]
        congr 2
        · rw [decide_eq_decide]; omega
        · rw [decide_eq_decide]; omega
      · refine ex_ret ev_bl fun v => ?_
        show D.bl false = D.bl (isTab x0)
        unfold isTab
        rw [hq]
        have : (decide (1 ≤ ds.length) && decide (ds.length ≤ 10)) = false := by
          cases z : (decide (1 ≤ ds.length) && decide (ds.length ≤ 10)) with
          | false => rfl
          | true => rw [z] at hb; cases hb
        show D.bl false = D.bl (_ && _)
        rw [this]; rfl
      · have hb' : (decide (1 ≤ ds.length) && decide (ds.length ≤ 10)) = true := by
          cases z : (decide (1 ≤ ds.length) && decide (ds.length ≤ 10)) with
          | true => rfl
          | false => rw [z] at hb; cases hb
        refine ex_let (ev_cb (ea_cons (ev_tp (ev_var rfl) hx) ea_nil) cb_lenT) fun v1 => ?_
        have hlc := ev_lcS (K := K) (β := ⟨G, H, none⟩) (wi := iSeq K (tVar 0)) (env := [Sl.val v0 x0, Sl.val v1 (.int ds.length), Sl.un]) (F := fun y => .bl (isTupOf y ds.length && areEl y ds.length)) (te := tAndV (tCall (spD K R_is_tuple) [] E0 (tCons (tVar 2) (tCons (tVar 1) tNil))) (tCall (spD K R_are_elements) [] E0 (tCons (tVar 2) (tCons (tVar 1) tNil)))) (vs := [2]) (j := 2) (ei_seqT (ev_tp (ev_var rfl) hx)) (by rw [sizeLine_eq]; omega) (by decide)
          (fun d v hd => ev_and (ev_call (ea_cons (ev_var rfl) (ea_cons (ev_var rfl) ea_nil)) ⟨_, rfl, (hy d hd).1, rfl⟩) fun _ => ev_call (ea_cons (ev_var rfl) (ea_cons (ev_var rfl) ea_nil)) ⟨_, rfl, (hy d hd).1, (hy d hd).2, rfl⟩)
        rw [show (ds.map fun y => D.bl (isTupOf y ds.length && areEl y ds.length)) = (ds.map fun y => isTupOf y ds.length && areEl y ds.length).map D.bl by rw [List.map_map]; rfl] at hlc
        refine ex_ret (ev_is (ev_cb (ea_cons hlc ea_nil) cb_all) ?_) fun v => rfl
        unfold isTab
        rw [hq]
        show D.bl _ = D.bl (_ && _)
        rw [hb', List.all_map]
        rfl

end
end Kx


set_option Elab.async false
set_option linter.all false
set_option maxRecDepth 100000
set_option maxHeartbeats 2000000
namespace Kx
open PySem PySem.Spec PyProof.Rows L2 DL
section
variable {P : Program} {w : World} {K : PySem.W.Frag} {mg : Str → Option Value} {base : Heap}
/-- the table that data is -/
def natD (x : D) : Nat := match x.top with
  | .int i => i.toNat
  | _ => 0
def rowsOf (x : D) : List D := (tupsD x).getD []
def tabN (x : D) : Nat := (rowsOf x).length
def tabF (x : D) (a b : Nat) : Nat := natD ((rowsOf ((rowsOf x).getD a .non)).getD b .non)
structure TabOk (n : Nat) (f : Nat → Nat → Nat) : Prop where
  n1 : 1 ≤ n
  n10 : n ≤ 10
  cl : ∀ a b, a < n → b < n → f a b < n
theorem inRg_nat {x : D} {m : Nat} (h : inRg x 0 ((m : Int) - 1) = true) : x.top = .int (natD x : Nat) ∧ natD x < m := by
  obtain ⟨i, hi, h1, h2⟩ := inRg_iff h
  unfold natD
  rw [hi]
  refine ⟨?_, ?_⟩
  · show D.int i = D.int ((i.toNat : Nat) : Int)
    rw [Int.toNat_of_nonneg h1]
  · show i.toNat < m
    omega
theorem Dat.tp' {K : PySem.W.Frag} {G : Hp} {v : V} {x y : D} (h : Dat K G v x) (e : x.top = y) : Dat K G v y := e ▸ h.top
theorem datL_row {K : PySem.W.Frag} {G : Hp} {m : Nat} : ∀ {es : List D} {vs : List V}, DatL K G vs es → (∀ e ∈ es, inRg e 0 ((m : Int) - 1) = true) → DatL K G vs (es.map fun e => D.int (natD e : Nat))
  | [], _, .nil, _ => .nil
  | _ :: _, _, .cons a t, h => .cons (Dat.tp' a (inRg_nat (h _ List.mem_cons_self)).1) (datL_row t fun e he => h e (List.mem_cons_of_mem _ he))
theorem isTab_spec {x : D} (h : isTab x = true) : ∃ ds, x.top = .tup ds ∧ tabN x = ds.length ∧ 1 ≤ ds.length ∧ ds.length ≤ 10 ∧ ∀ a (ha : a < ds.length), ∃ es, ds[a].top = .tup es ∧ es.length = ds.length ∧ (∀ e ∈ es, inRg e 0 ((ds.length : Int) - 1) = true) ∧ ∀ b (hb : b < es.length), tabF x a b = natD es[b] := by
  unfold isTab at h
  cases q : tupsD x with
  | none => rw [q] at h; cases h
  | some ds =>
  rw [q] at h
  simp only [Bool.and_eq_true, decide_eq_true_eq, List.all_eq_true] at h
  obtain ⟨⟨h1, h2⟩, h3⟩ := h
  refine ⟨ds, tupsD_top q, by unfold tabN rowsOf; rw [q]; rfl, h1, h2, fun a ha => ?_⟩
  obtain ⟨h4, h5⟩ := h3 ds[a] (List.getElem_mem ha)
  unfold isTupOf at h4
  cases q2 : tupsD ds[a] with
  | none => rw [q2] at h4; cases h4
  | some es =>
  rw [q2] at h4
  have h4' := of_decide_eq_true h4
  have e2 : itemsD ds[a] = some es := by unfold itemsD; rw [tupsD_top q2]
  unfold areEl at h5
  rw [e2] at h5
  refine ⟨es, tupsD_top q2, by omega, fun e he => List.all_eq_true.mp h5 e he, fun b hb => ?_⟩
  unfold tabF rowsOf
  rw [q]
  simp only [Option.getD_some]
  have g1 : ds.getD a .non = ds[a] := by rw [List.getD_eq_getElem?_getD, List.getElem?_eq_getElem ha]; rfl
  have g2 : es.getD b .non = es[b] := by rw [List.getD_eq_getElem?_getD, List.getElem?_eq_getElem hb]; rfl
  rw [g1, q2]
  show natD (es.getD b .non) = _
  rw [g2]
theorem isTab_ok {x : D} (h : isTab x = true) : TabOk (tabN x) (tabF x) := by
  obtain ⟨ds, _, hn, h1, h2, h3⟩ := isTab_spec h
  rw [hn]
  refine ⟨h1, h2, fun a b ha hb => ?_⟩
  obtain ⟨es, _, hl, he, hf⟩ := h3 a ha
  rw [hf b (by omega)]
  exact (inRg_nat (he _ (List.getElem_mem (by omega)))).2
theorem tblD_of {K : PySem.W.Frag} {G : Hp} {x : D} (h : isTab x = true) {v : V} (hd : Dat K G v x) : Dat K G v (tblD (tabN x) (tabF x)) := by
  obtain ⟨ds, hx, hn, h1, h2, h3⟩ := isTab_spec h
  obtain ⟨p, xs, rfl, hs, hl⟩ := (Dat.tp' hd hx).tupV
  unfold tblD
  rw [hn]
  refine .tup hs ?_
  have key : ∀ (cs : List D) (ys : List V) (k : Nat), DatL K G ys cs → (∀ a (ha : a < cs.length), ∃ es, cs[a].top = .tup es ∧ es.length = ds.length ∧ (∀ e ∈ es, inRg e 0 ((ds.length : Int) - 1) = true) ∧ ∀ b (hb : b < es.length), tabF x (k + a) b = natD es[b]) →
      DatL K G ys ((List.range cs.length).map fun a => rowD ds.length (tabF x (k + a))) := by
    intro cs
    induction cs with
    | nil => intro ys k h _; cases h; exact .nil
    | cons c cs ih =>
      intro ys k h hh
      cases h with
      | cons d t =>
      rw [List.length_cons, List.range_succ_eq_map, List.map_cons, List.map_map]
      refine .cons ?_ ?_
      · obtain ⟨es, e1, e2, e3, e4⟩ := hh 0 (Nat.succ_pos _)
        obtain ⟨p2, zs, rfl, hs2, hl2⟩ := (Dat.tp' d e1).tupV
        unfold rowD
        have := datL_row hl2 e3
        refine .tup hs2 ?_
        have e5 : (List.map (fun y => D.int (tabF x (k + 0) y : Nat)) (List.range ds.length)) = es.map fun e => D.int (natD e : Nat) := by
          apply List.ext_getElem
          · simp [e2]
          · intro i i1 i2
            simp only [List.length_map, List.length_range] at i1
            simp only [List.getElem_map, List.getElem_range]
            rw [e4 i (by omega)]
        rw [e5]
        exact this
      · have := ih _ (k + 1) t (fun a ha => by
          obtain ⟨es, e1, e2, e3, e4⟩ := hh (a + 1) (by simpa using ha)
          exact ⟨es, by simpa using e1, e2, e3, fun b hb => by rw [← e4 b hb]; congr 1; omega⟩)
        have e6 : (List.map ((fun a => rowD ds.length (tabF x (k + a))) ∘ Nat.succ) (List.range cs.length)) = (List.range cs.length).map fun a => rowD ds.length (tabF x (k + 1 + a)) := by
          refine List.map_congr_left fun a _ => ?_
          show rowD ds.length (tabF x (k + (a + 1))) = _
          congr 2
          omega
        rw [e6]
        exact this
  have := key ds xs 0 hl (fun a ha => by
    obtain ⟨es, e1, e2, e3, e4⟩ := h3 a ha
    exact ⟨es, e1, e2, e3, fun b hb => by rw [Nat.zero_add]; exact e4 b hb⟩)
  simpa using this
def brkB (f : Nat → Nat → Nat) (a b c : Nat) : Bool := !decide (f (f a b) c = f a (f b c))
def assocB (n : Nat) (f : Nat → Nat → Nat) : Bool := (List.range n).all fun a => (List.range n).all fun b => (List.range n).all fun c => !brkB f a b c
theorem assocB_iff {n : Nat} {f : Nat → Nat → Nat} : assocB n f = true ↔ ∀ a b c, a < n → b < n → c < n → f (f a b) c = f a (f b c) := by
  unfold assocB brkB
  simp only [List.all_eq_true, List.mem_range, Bool.not_not, decide_eq_true_eq]
  exact ⟨fun h a b c ha hb hc => h a ha b hb c hc, fun h a ha b hb c hc => h a b c ha hb hc⟩
def R_is_broken : List D → D → Prop
  | [t, x, y, z], d => ∃ (n : Nat) (f : Nat → Nat → Nat) (a b c : Nat), t = tblD n f ∧ TabOk n f ∧ x = .int a ∧ y = .int b ∧ z = .int c ∧ a < n ∧ b < n ∧ c < n ∧ d = .bl (brkB f a b c)
  | _, _ => False
theorem ok_is_broken (T : Tx K mg) : FnOk P w K mg base CX0 1 T.f_is_broken T.d_is_broken p_is_broken (spD K R_is_broken) := by
  refine T.F_is_broken.ok sc_is_broken (fun vs H Q E h => ?_) (fun cdv A outer s H vs Q E hr h => ?_)
  · obtain ⟨G, ds, d, e, hd, hR, q⟩ := h
    rw [hd.length]
    match ds, hR with
    | [_, _, _, _], _ => rfl
  · refine ⟨_, (pss_one (ps_ret (pe_cmpR op_ne (pe_ix (ix_seqK K) (pe_ix (ix_seqK K) (pv 0) (pe_ix (ix_seqK K) (pe_ix (ix_seqK K) (pv 0) (pv 1) (fun _ _ => rfl)) (pv 2) (fun _ _ => rfl)) (fun _ _ => rfl)) (pv 3) (fun _ _ => rfl)) (pe_ix (ix_seqK K) (pe_ix (ix_seqK K) (pv 0) (pv 1) (fun _ _ => rfl)) (pe_ix (ix_seqK K) (pe_ix (ix_seqK K) (pv 0) (pv 2) (fun _ _ => rfl)) (pv 3) (fun _ _ => rfl)) (fun _ _ => rfl)) (nomark _)))), ?_⟩
    obtain ⟨G, ds, d, e, hd, hR, q⟩ := h
    have hl : ∃ x0 x1 x2 x3, ds = [x0, x1, x2, x3] := by
      match ds, hR with
      | [x0, x1, x2, x3], _ => exact ⟨x0, x1, x2, x3, rfl⟩
    obtain ⟨x0, x1, x2, x3, rfl⟩ := hl
    cases hd with
    | @cons v0 vs0 _ _ dv0 hd =>
    cases hd with
    | @cons v1 vs1 _ _ dv1 hd =>
    cases hd with
    | @cons v2 vs2 _ _ dv2 hd =>
    cases hd with
    | @cons v3 vs3 _ _ dv3 hd =>
    cases hd
    refine EX.fin (W := fun _ _ _ _ => False) (good_start e ((.cons dv0 (.cons dv1 (.cons dv2 (.cons dv3 .nil))))) n_is_broken) q ?_
    show EX K ⟨G, H, none⟩ _ _ [Sl.val v0 x0, Sl.val v1 x1, Sl.val v2 x2, Sl.val v3 x3] _
    obtain ⟨n, f, a, b, c, rfl, hf, rfl, rfl, rfl, ha, hb, hc, rfl⟩ := hR
    refine ex_ret (ev_is (ev_op (ev_row (ev_tbl (ev_var rfl) (ev_row (ev_tbl (ev_var rfl) (ev_var rfl) ha) (ev_var rfl) hb) (hf.cl _ _ ha hb)) (ev_var rfl) hc)
      (ev_row (ev_tbl (ev_var rfl) (ev_var rfl) ha) (ev_row (ev_tbl (ev_var rfl) (ev_var rfl) hb) (ev_var rfl) hc) (hf.cl _ _ hb hc)) op_neI) ?_) fun v => rfl
    unfold brkB
    rw [decide_eq_decide.mpr (show ((f (f a b) c : Nat) : Int) = ((f a (f b c) : Nat) : Int) ↔ f (f a b) c = f a (f b c) by omega)]
/-- the broken triples with a middle among ms -/
def brkL (n : Nat) (f : Nat → Nat → Nat) (ms : List Nat) : List D := flat (fun x => flat (fun y => flat (fun z => if decide (y ∈ ms) && brkB f x y z then [tupN [x, y, z]] else []) n) n) n
theorem flat_bd {F : Nat → List D} {m : Nat} : ∀ {n : Nat}, (∀ i, i < n → (F i).length ≤ m) → (flat F n).length ≤ n * m
  | 0, _ => by simp [flat]
  | n + 1, h => by
    rw [flat_succ, List.length_append, Nat.succ_mul]
    exact Nat.add_le_add (flat_bd fun i hi => h i (by omega)) (h n (by omega))
theorem flat_all {F : Nat → List D} {n : Nat} : flat F n = [] ↔ ∀ i, i < n → F i = [] := by
  constructor
  · intro h i hi
    unfold flat at h
    exact List.flatten_eq_nil_iff.mp h _ (List.mem_map.mpr ⟨i, List.mem_range.mpr hi, rfl⟩)
  · exact fun h => flat_nil h
def R_broken_with : List D → D → Prop
  | [t, m], d => ∃ (n : Nat) (f : Nat → Nat → Nat) (ms : List Nat), t = tblD n f ∧ TabOk n f ∧ m = .lst (lstN ms) ∧ d = .lst (brkL n f ms)
  | _, _ => False
theorem ok_broken_with (T : Tx K mg) : FnOk P w K mg base CX0 2 T.f_broken_with T.d_broken_with p_broken_with (spD K R_broken_with) := by
  refine T.F_broken_with.ok sc_broken_with (fun vs H Q E h => ?_) (fun cdv A outer s H vs Q E hr h => ?_)
  · obtain ⟨G, ds, d, e, hd, hR, q⟩ := h
    rw [hd.length]
    match ds, hR with
    | [_, _], _ => rfl
  · refine ⟨_, (pss_cons (ps_set (i := 2) sc_broken_with.nd rfl (.inr rfl) (pe_callTy cr_range1 (by rfl) T.m_range (by decide +kernel) (pa_cons (pe_callB (call_lenK K) (by rfl) T.m_len (by decide +kernel) (pa_cons (pv 0) pa_nil)) pa_nil)))
      (pss_one (ps_ret (pe_lcN (own := [("x", 3), ("y", 4), ("z", 5)]) rfl sc_broken_with.nd (pi_rngO (pv 2)) (blkOk_by (by rfl)) (fun _ _ _ _ _ => pg_name (i := 3) sc_broken_with.nd rfl (by first | exact .inl rfl | exact .inr rfl)) (fun _ _ _ _ _ => pts_nil) (fun _ _ _ _ _ => (.cons (vs' := [4, 5]) (pi_rngO (pv 2)) (pg_name (i := 4) sc_broken_with.nd rfl (by first | exact .inl rfl | exact .inr rfl)) pts_nil (by intro _; rfl) (by decide) (.cons (vs' := [5]) (pi_rngO (pv 2)) (pg_name (i := 5) sc_broken_with.nd rfl (by first | exact .inl rfl | exact .inr rfl)) (pts_one (PW.pt (pw_and (pt_cmpR (op_inK K) (pv 4) (pv 1) (by with_unfolding_all rfl)) (pw_and1 (pt_val (pe_call (ok_is_broken T) (hr.mono (by omega)) (by rfl) T.g_is_broken T.F_is_broken.kp T.b_is_broken .nil pass0 (pa_cons (pv 0) (pa_cons (pv 3) (pa_cons (pv 4) (pa_cons (pv 5) pa_nil)))))))))) (by intro _; rfl) (by decide) .nil))) (fun _ _ _ _ _ => (pe_tup (pa_cons (pv 3) (pa_cons (pv 4) (pa_cons (pv 5) pa_nil))))))))), ?_⟩
    obtain ⟨G, ds, d, e, hd, hR, q⟩ := h
    have hl : ∃ x0 x1, ds = [x0, x1] := by
      match ds, hR with
      | [x0, x1], _ => exact ⟨x0, x1, rfl⟩
    obtain ⟨x0, x1, rfl⟩ := hl
    cases hd with
    | @cons v0 vs0 _ _ dv0 hd =>
    cases hd with
    | @cons v1 vs1 _ _ dv1 hd =>
    cases hd
    refine EX.fin (W := fun _ _ _ _ => False) (good_start e ((.cons dv0 (.cons dv1 .nil))) n_broken_with) q ?_
    show EX K ⟨G, H, none⟩ _ _ [Sl.val v0 x0, Sl.val v1 x1, Sl.un, Sl.un, Sl.un, Sl.un] _
    obtain ⟨n, f, ms, rfl, hf, rfl, rfl⟩ := hR
    refine ex_let (ev_cb (ea_cons (ev_cb (ea_cons (ev_var rfl) ea_nil) cb_lenTbl) ea_nil) cb_range1) fun v2 => ?_
    have hn := hf.n10
    have bz : ∀ x y, (flat (fun z => if decide (y ∈ ms) && brkB f x y z then [tupN [x, y, z]] else []) n).length ≤ n * 1 := fun x y => flat_bd fun z _ => by
      show (if decide (y ∈ ms) && brkB f x y z then [tupN [x, y, z]] else []).length ≤ 1
      split <;> simp
    have by' : ∀ x, (flat (fun y => flat (fun z => if decide (y ∈ ms) && brkB f x y z then [tupN [x, y, z]] else []) n) n).length ≤ n * (n * 1) := fun x => flat_bd fun y _ => bz x y
    have bx : (brkL n f ms).length ≤ n * (n * (n * 1)) := flat_bd fun x _ => by' x
    have bb : n * (n * (n * 1)) ≤ 1000 := by
      have h1 : n * 1 ≤ 10 := by omega
      have h2 : n * (n * 1) ≤ 10 * 10 := Nat.mul_le_mul hn h1
      exact Nat.le_trans (Nat.mul_le_mul hn h2) (by decide)
    refine ex_ret (ev_lcMR (f := fun _ => true) (F := fun x => flat (fun y => flat (fun z => if decide (y ∈ ms) && brkB f x y z then [tupN [x, y, z]] else []) n) n) (ev_var rfl) (by omega) (by decide) (fun x vx hx => ⟨et_yes, fun _ => ?_⟩) (fun i hi h => by cases h) (by show (brkL n f ms).length < _; rw [sizeLine_eq]; omega)) fun v => rfl
    refine evin_rngO (f := fun _ => true) (F := fun y => flat (fun z => if decide (y ∈ ms) && brkB f x y z then [tupN [x, y, z]] else []) n) (ev_var rfl) (by omega) (by decide) (fun y vy hy => ⟨et_yes, fun _ => ?_⟩) (fun i hi h => by cases h)
    refine evin_rngO (f := fun z => decide (y ∈ ms) && brkB f x y z) (F := fun z => if decide (y ∈ ms) && brkB f x y z then [tupN [x, y, z]] else []) (ev_var rfl) (by omega) (by decide) (fun z vz hz => ⟨?_, fun h => ?_⟩) (fun i hi h => by rw [if_neg (by rw [h]; exact Bool.false_ne_true)])
    · exact et_and (et_test (ev_op (ev_var rfl) (ev_var rfl) op_inN)) fun _ => et_B (ev_call (ea_cons (ev_var rfl) (ea_cons (ev_var rfl) (ea_cons (ev_var rfl) (ea_cons (ev_var rfl) ea_nil)))) ⟨n, f, x, y, z, rfl, hf, rfl, rfl, rfl, hx, hy, hz, rfl⟩)
    · rw [if_pos h]
      exact evin_nil (ev_tup (ea_cons (ev_var rfl) (ea_cons (ev_var rfl) (ea_cons (ev_var rfl) ea_nil))) (sz 3))

end
end Kx


set_option Elab.async false
set_option linter.all false
set_option maxRecDepth 100000
set_option maxHeartbeats 2000000
namespace Kx
open PySem PySem.Spec PyProof.Rows L2 DL
section
variable {P : Program} {w : World} {K : PySem.W.Frag} {mg : Str → Option Value} {base : Heap}
theorem brk_tn {n : Nat} {f : Nat → Nat → Nat} {ms : List Nat} : ∃ L : List (List Nat), brkL n f ms = L.map tupN := by
  have key : ∀ ds : List D, (∀ d ∈ ds, ∃ l, d = tupN l) → ∃ L : List (List Nat), ds = L.map tupN := by
    intro ds
    induction ds with
    | nil => exact fun _ => ⟨[], rfl⟩
    | cons d ds ih =>
      intro h
      obtain ⟨l, rfl⟩ := h d List.mem_cons_self
      obtain ⟨L, rfl⟩ := ih fun e he => h e (List.mem_cons_of_mem _ he)
      exact ⟨l :: L, rfl⟩
  have mem : ∀ {F : Nat → List D} {m : Nat} {d : D}, d ∈ flat F m → ∃ i, i < m ∧ d ∈ F i := by
    intro F m d h
    unfold flat at h
    obtain ⟨l, hl, hd⟩ := List.mem_flatten.mp h
    obtain ⟨i, hi, rfl⟩ := List.mem_map.mp hl
    exact ⟨i, List.mem_range.mp hi, hd⟩
  refine key _ fun d hd => ?_
  obtain ⟨x, _, h1⟩ := mem hd
  obtain ⟨y, _, h2⟩ := mem h1
  obtain ⟨z, _, h3⟩ := mem h2
  split at h3
  · exact ⟨_, List.mem_singleton.mp h3⟩
  · cases h3
theorem brk_nil {n : Nat} {f : Nat → Nat → Nat} : brkL n f (List.range n) = [] ↔ assocB n f = true := by
  unfold brkL assocB
  rw [flat_all]
  simp only [List.all_eq_true, List.mem_range]
  constructor
  · intro h x hx y hy z hz
    have := flat_all.mp (flat_all.mp (h x hx) y hy) z hz
    cases q : brkB f x y z with
    | false => rfl
    | true =>
      rw [q, decide_eq_true hy] at this
      cases this
  · intro h x hx
    refine flat_all.mpr fun y hy => flat_all.mpr fun z hz => ?_
    have h1 := h x hx y hy z hz
    have : brkB f x y z = false := by
      cases q : brkB f x y z with
      | false => rfl
      | true => rw [q] at h1; cases h1
    rw [this, Bool.and_false, if_neg Bool.false_ne_true]
theorem op_eqTN {K : PySem.W.Frag} {L : List (List Nat)} : OpD K (rEqD K) (.lst (L.map tupN)) (.lst []) (.bl (decide (L = []))) := fun G H v1 v2 e d1 d2 Q q => by
  obtain ⟨a, xs, rfl, ha, hx⟩ := d1.lstV
  cases d2 with
  | lst a2 b2 =>
  cases b2
  refine ⟨_, _, .lst (.inl (.inl (e _ _ ha))) (DatL.tns e hx), Dp.nil (e _ _ a2), tn_shaped L, rfl, ?_⟩
  have e2 : PyData.eqv (.list (L.map tupP)) (.list []) = decide (L = []) := by
    cases L with
    | nil => rfl
    | cons x L => rfl
  rw [e2]
  exact q _ G H (.refl e) (.bl _)
theorem rgD_nat (n : Nat) : rgD 0 n = lstN (List.range n) := by
  unfold rgD lstN
  refine List.map_congr_left fun i _ => ?_
  show D.int (0 + (i : Nat)) = _
  rw [Int.zero_add]

/-- semigroups -/
def isSemi (x : D) : Bool := isTab x && assocB (tabN x) (tabF x)
def R_is_semigroup : List D → D → Prop
  | [x], d => Ty3 x ∧ d = .bl (isSemi x)
  | _, _ => False
theorem ok_is_semigroup (T : Tx K mg) : FnOk P w K mg base CX0 6 T.f_is_semigroup T.d_is_semigroup p_is_semigroup (spD K R_is_semigroup) := by
  refine T.F_is_semigroup.ok sc_is_semigroup (fun vs H Q E h => ?_) (fun cdv A outer s H vs Q E hr h => ?_)
  · obtain ⟨G, ds, d, e, hd, hR, q⟩ := h
    rw [hd.length]
    match ds, hR with
    | [_], _ => rfl
  · refine ⟨_, (pss_one (ps_ret (pe_and (pe_call (ok_is_table T) (hr.mono (by omega)) (by rfl) T.g_is_table T.F_is_table.kp T.b_is_table .nil pass0 (pa_cons (pv 0) pa_nil)) (pe_one (pe_cmpR (op_eqD hr.units) (pe_call (ok_broken_with T) (hr.mono (by omega)) (by rfl) T.g_broken_with T.F_broken_with.kp T.b_broken_with .nil pass0 (pa_cons (pv 0) (pa_cons (pe_listRg rfl (by rfl) T.m_list (prg_1 (by rfl) T.m_range (pe_callB (call_lenK K) (by rfl) T.m_len (by decide +kernel) (pa_cons (pv 0) pa_nil)))) pa_nil))) (pe_lst pa_nil) (nomark _)))))), ?_⟩
    obtain ⟨G, ds, d, e, hd, hR, q⟩ := h
    have hl : ∃ x0, ds = [x0] := by
      match ds, hR with
      | [x0], _ => exact ⟨x0, rfl⟩
    obtain ⟨x0, rfl⟩ := hl
    cases hd with
    | @cons v0 vs0 _ _ dv0 hd =>
    cases hd
    refine EX.fin (W := fun _ _ _ _ => False) (good_start e ((.cons dv0 .nil)) n_is_semigroup) q ?_
    show EX K ⟨G, H, none⟩ _ _ [Sl.val v0 x0] _
    obtain ⟨hT, rfl⟩ := hR
    refine ex_ret (ev_and (ev_call (ea_cons (ev_var rfl) ea_nil) ⟨hT, rfl⟩) fun h => ?_) fun v => rfl
    have hv : EV K ⟨G, H, none⟩ (tVar 0) [Sl.val v0 x0] (tblD (tabN x0) (tabF x0)) := ev_up (ev_var rfl) fun G v hd => tblD_of h hd
    have hok := isTab_ok h
    obtain ⟨L, hL⟩ := brk_tn (n := tabN x0) (f := tabF x0) (ms := List.range (tabN x0))
    have hb : EV K ⟨G, H, none⟩ _ [Sl.val v0 x0] (.lst (brkL (tabN x0) (tabF x0) (List.range (tabN x0)))) := ev_call (K := K) (R := R_broken_with) (E := E0) (ea_cons hv (ea_cons (ev_lstRg1 (ev_cb (ea_cons hv ea_nil) cb_lenTbl) (by have := hok.n10; omega) (by omega)) ea_nil)) ⟨tabN x0, tabF x0, List.range (tabN x0), rfl, hok, by rw [Int.toNat_natCast, rgD_nat], rfl⟩
    rw [hL] at hb
    refine ev_is (ev_op hb (ev_lst ea_nil (sz 0)) op_eqTN) ?_
    congr 1
    rw [Bool.eq_iff_iff, decide_eq_true_eq, ← brk_nil, hL]
    exact (List.map_eq_nil_iff).symm

def R_check_semigroup : List D → D → Prop
  | [x], d => Ty3 x ∧ isSemi x = true ∧ d = .non
  | _, _ => False
def E_check_semigroup (T : Tx K mg) (vs : List V) : List D → Value → Str → V → Prop
  | [x], c, f, u => Ty3 x ∧ isSemi x = false ∧ c = .ref T.c_InvalidTable ∧ f = "given" ∧ vs = [u]
  | _, _, _, _ => False
theorem ok_check_semigroup (T : Tx K mg) : FnOk P w K mg base (L2.CX P w) 7 T.f_check_semigroup T.d_check_semigroup p_check_semigroup (spX K R_check_semigroup (E_check_semigroup T)) := by
  refine T.F_check_semigroup.okX sc_check_semigroup (fun vs H Q E h => ?_) (fun cdv A outer s H vs Q E hr h => ?_)
  · obtain ⟨G, ds, e, hd, hR | hR⟩ := h
    · rw [hd.length]; obtain ⟨d, hR, q⟩ := hR
      match ds, hR with
      | [_], _ => rfl
    · rw [hd.length]; obtain ⟨c, f, v, hR, q⟩ := hR
      match ds, hR with
      | [_], _ => rfl
  · have tk : Takes (cxOf (L2.CX P w) P w K mg base n_check_semigroup "check_semigroup" (defScope s_check_semigroup) T.f_check_semigroup cdv A outer s H E) (fun cls d _ H => E cls d H) := takes_of rfl rfl rfl rfl
    have hpass : PassesOwn _ _ _ (cxOf (L2.CX P w) P w K mg base n_check_semigroup "check_semigroup" (defScope s_check_semigroup) T.f_check_semigroup cdv A outer s H E).xe := passes_of (X := cxOf (L2.CX P w) P w K mg base n_check_semigroup "check_semigroup" (defScope s_check_semigroup) T.f_check_semigroup cdv A outer s H E) rfl
    refine ⟨_, (pss_one (ps_if (pt_not (pt_val (pe_call (ok_is_semigroup T) (hr.mono (by omega)) (by rfl) T.g_is_semigroup T.F_is_semigroup.kp T.b_is_semigroup .nil pass0 (pa_cons (pv 0) pa_nil)))) (pss_one (ps_raise rfl tk (pmk_oex T.e_InvalidTable.oe T.e_InvalidTable.iC T.e_InvalidTable.tI (ok_init_InvalidTable T) (hr.mono (by omega)) T.bi_InvalidTable .nil pass0 (by rfl) T.e_InvalidTable.gC (pa_cons (pv 0) pa_nil)))) pss_nil)), ?_⟩
    obtain ⟨G, ds, e, hd, hh⟩ := h
    have hl : ∃ x0, ds = [x0] := by
      rcases hh with ⟨d, hR, _⟩ | ⟨c, f, v, hR, _⟩
      · match ds, hR with
        | [x0], _ => exact ⟨x0, rfl⟩
      · match ds, hR with
        | [x0], _ => exact ⟨x0, rfl⟩
    obtain ⟨x0, rfl⟩ := hl
    cases hd with
    | @cons v0 vs0 _ _ dv0 hd =>
    cases hd
    refine EX.finX (good_start e ((.cons dv0 .nil)) n_check_semigroup) (hh.imp (fun ⟨d, hR, q⟩ => ⟨d, q, ?_⟩) fun ⟨cls, f, v, hE, q⟩ => ⟨cls, f, v, q, ?_⟩) <;> show EX K ⟨G, H, none⟩ _ _ [Sl.val v0 x0] _
    · obtain ⟨h1, h2, rfl⟩ := hR
      exact ex_if (b := false) (et_is (et_not (et_B (ev_call (ea_cons (ev_var rfl) ea_nil) ⟨h1, rfl⟩))) (by rw [h2]; rfl)) (fun h => by cases h) fun _ => ex_next rfl
    · obtain ⟨h1, h2, rfl, rfl, hv⟩ := hE
      cases hv
      refine ex_if (b := true) (et_is (et_not (et_B (ev_call (ea_cons (ev_var rfl) ea_nil) ⟨h1, rfl⟩))) (by rw [h2]; rfl)) (fun _ => ?_) fun h => by cases h
      exact ex_raise (eav_cons (evv_var rfl) eav_nil) T.e_InvalidTable.oe T.e_InvalidTable.nf ⟨rfl, rfl, rfl⟩

def SgOk (n : Nat) (f : Nat → Nat → Nat) : Prop := TabOk n f ∧ MP.Semi n f
theorem SgOk.of {n : Nat} {f : Nat → Nat → Nat} (h : MP.Semi n f) (h1 : 1 ≤ n) (h2 : n ≤ 10) : SgOk n f := ⟨⟨h1, h2, h.cl⟩, h⟩
def rowL (n : Nat) (f : Nat → Nat) : List D := (List.range n).map fun y => .int (f y : Nat)
def rowsT (n : Nat) (f : Nat → Nat → Nat) : List D := (List.range n).map fun x => rowD n (f x)
def rowsL (n : Nat) (f : Nat → Nat → Nat) : List D := (List.range n).map fun x => .lst (rowL n (f x))
theorem rowL_len {n : Nat} {f : Nat → Nat} : (rowL n f).length = n := by unfold rowL; simp
theorem rowsT_len {n : Nat} {f : Nat → Nat → Nat} : (rowsT n f).length = n := by unfold rowsT; simp
theorem rowsL_len {n : Nat} {f : Nat → Nat → Nat} : (rowsL n f).length = n := by unfold rowsL; simp
theorem isTab_tbl {n : Nat} {f : Nat → Nat → Nat} (hf : TabOk n f) : isTab (tblD n f) = true ∧ tabN (tblD n f) = n ∧ ∀ a b, a < n → b < n → tabF (tblD n f) a b = f a b := by
  have l := rowsT_len (n := n) (f := f)
  refine ⟨?_, rowsT_len, fun a b ha hb => ?_⟩
  · show (decide (1 ≤ (rowsT n f).length) && decide ((rowsT n f).length ≤ 10) && (rowsT n f).all fun l => isTupOf l (rowsT n f).length && areEl l (rowsT n f).length) = true
    rw [l, decide_eq_true hf.n1, decide_eq_true hf.n10, Bool.true_and, Bool.true_and, List.all_eq_true]
    intro y hy
    unfold rowsT at hy
    obtain ⟨i, hi, rfl⟩ := List.mem_map.mp hy
    have hi := List.mem_range.mp hi
    rw [Bool.and_eq_true]
    refine ⟨?_, ?_⟩
    · show decide (((rowL n (f i)).length : Int) = (n : Int)) = true
      rw [rowL_len]; exact decide_eq_true rfl
    · show ((rowL n (f i)).all fun y => inRg y 0 ((n : Int) - 1)) = true
      rw [List.all_eq_true]
      intro z hz
      unfold rowL at hz
      obtain ⟨j, hj, rfl⟩ := List.mem_map.mp hz
      have := hf.cl i j hi (List.mem_range.mp hj)
      show (decide ((0 : Int) ≤ (f i j : Int)) && decide ((f i j : Int) ≤ (n : Int) - 1)) = true
      rw [decide_eq_true (by omega), decide_eq_true (by omega)]
      rfl
  · unfold tabF rowsOf
    show natD (((tupsD ((rowsT n f).getD a .non)).getD []).getD b .non) = f a b
    have e1 : (rowsT n f).getD a .non = rowD n (f a) := by
      unfold rowsT
      rw [List.getD_eq_getElem?_getD, List.getElem?_map, List.getElem?_range ha]
      rfl
    rw [e1]
    show natD ((rowL n (f a)).getD b .non) = f a b
    unfold rowL
    rw [List.getD_eq_getElem?_getD, List.getElem?_map, List.getElem?_range hb]
    show ((f a b : Nat) : Int).toNat = f a b
    rw [Int.toNat_natCast]
theorem isSemi_tbl {n : Nat} {f : Nat → Nat → Nat} (h : SgOk n f) : isSemi (tblD n f) = true := by
  obtain ⟨h1, h2, h3⟩ := isTab_tbl h.1
  unfold isSemi
  rw [h1, h2, Bool.true_and, assocB_iff]
  intro a b c ha hb hc
  have hab := h.1.cl a b ha hb
  have hbc := h.1.cl b c hb hc
  rw [h3 a b ha hb, h3 b c hb hc, h3 _ _ hab hc, h3 _ _ ha hbc]
  exact h.2.as a b c ha hb hc
theorem ty3_tbl {n : Nat} {f : Nat → Nat → Nat} (h : n ≤ 10) : Ty3 (tblD n f) := by
  refine ⟨(fun z => nomatch z), fun ds hd => ?_⟩
  cases hd
  refine ⟨by rw [List.length_map, List.length_range]; omega, fun y hy => ?_⟩
  obtain ⟨i, _, rfl⟩ := List.mem_map.mp hy
  refine ⟨(fun z => nomatch z), fun es he => ?_⟩
  cases he
  refine ⟨by rw [List.length_map, List.length_range]; omega, fun z hz => ?_⟩
  obtain ⟨j, _, rfl⟩ := List.mem_map.mp hz
  exact fun z => nomatch z
theorem inRg_int {x n : Nat} (h : x < n) : inRg (.int (x : Nat)) 0 ((n : Int) - 1) = true := by
  show (decide ((0 : Int) ≤ (x : Int)) && decide ((x : Int) ≤ (n : Int) - 1)) = true
  rw [decide_eq_true (by omega), decide_eq_true (by omega)]
  rfl

theorem okc_semi {n : Nat} {f : Nat → Nat → Nat} (h : SgOk n f) : R_check_semigroup [tblD n f] .non := ⟨ty3_tbl h.1.n10, isSemi_tbl h, rfl⟩

end
end Kx


set_option Elab.async false
set_option linter.all false
set_option maxRecDepth 100000
set_option maxHeartbeats 2000000
namespace Kx
open PySem PySem.Spec PyProof.Rows L2 DL
section
variable {P : Program} {w : World} {K : PySem.W.Frag} {mg : Str → Option Value} {base : Heap}
theorem gens_count {n : Nat} {ms : List Nat} (h : ∀ x ∈ ms, x < n) : dcount (ms.map fun x => ((x : Nat) : Int)) ≤ n := by
  rw [← dcount_of (l := (gensN n ms).map fun x => ((x : Nat) : Int)) (by
    unfold List.Nodup
    rw [List.pairwise_map]
    exact (fltN_pw (n := n)).imp fun h => by omega) fun k => by
    rw [List.mem_map, List.mem_map]
    exact ⟨fun ⟨x, hx, e⟩ => ⟨x, (gensN_mem h x).mp hx, e⟩, fun ⟨x, hx, e⟩ => ⟨x, (gensN_mem h x).mpr hx, e⟩⟩, List.length_map]
  exact fltN_le
theorem gens_sort {n : Nat} {ms : List Nat} (h : ∀ x ∈ ms, x < n) : ∀ k : Int, k ∈ (gensN n ms).map (fun x => ((x : Nat) : Int)) ↔ (decide (k ∈ ms.map fun x => ((x : Nat) : Int))) = true := fun k => by
  rw [decide_eq_true_iff, List.mem_map, List.mem_map]
  exact ⟨fun ⟨x, hx, e⟩ => ⟨x, (gensN_mem h x).mp hx, e⟩, fun ⟨x, hx, e⟩ => ⟨x, (gensN_mem h x).mpr hx, e⟩⟩
/-- members, as a list or a tuple -/
def MemD (n : Nat) (ms : List Nat) (m : D) : Prop := (m = tupN ms ∨ m = .lst (lstN ms)) ∧ (∀ x ∈ ms, x < n) ∧ ms.length ≤ 100
/-- sorted(set(members)) -/
theorem el_gens0 {n : Nat} {ms : List Nat} {β : Bas} {env : Env'} {te : TE} {m : D} (h1 : m = tupN ms ∨ m = .lst (lstN ms)) (h2 : ∀ x ∈ ms, x < n) (h3 : ms.length ≤ 4000) (hn : n ≤ 10) (h : EV K β te env m) : EVL K β (tCB (rSortedSet w) (tCons (tCB (rSetOf K w) (tCons te tNil)) tNil)) env (lstN (gensN n ms)) := by
  have hs : CbD K (rSetOf K w) [m] (setW w (ms.map fun x => ((x : Nat) : Int))) := cb_setOf (by
    rcases h1 with rfl | rfl
    · left; unfold tupN; rw [List.map_map]; rfl
    · right; unfold lstN; rw [List.map_map]; rfl) (by rw [List.length_map]; exact h3)
  refine el_is (el_sortedS (L := (gensN n ms).map fun x => ((x : Nat) : Int)) (ev_cb (ea_cons h ea_nil) hs) (by have := gens_count h2; omega) fltN_ipw (gens_sort h2)) ?_
  unfold lstN
  rw [List.map_map]
  rfl
theorem el_gens {n : Nat} {ms : List Nat} {β : Bas} {env : Env'} {te : TE} {m : D} (hm : MemD n ms m) (hn : n ≤ 10) (h : EV K β te env m) : EVL K β (tCB (rSortedSet w) (tCons (tCB (rSetOf K w) (tCons te tNil)) tNil)) env (lstN (gensN n ms)) :=
  el_gens0 hm.1 hm.2.1 (by have := hm.2.2; omega) hn h
theorem en_is {β : Bas} {env : Env'} {te : TE} {a b : List (Key × D)} (h : EVN K β te env a) (q : a = b) : EVN K β te env b := q ▸ h
open MP in
def R_words_of : List D → D → Prop
  | [t, m], d => ∃ (n : Nat) (f : Nat → Nat → Nat) (ms : List Nat), TabOk n f ∧ t = tblD n f ∧ MemD n ms m ∧ d = .dct (kdsW (wordsL n f (gensN n ms)))
  | _, _ => False
theorem startD {gs : List Nat} (hn : gs.Nodup) : keepD (fun _ => true) (fun i => ((gs.getD i 0 : Nat) : Int)) (fun i => tupN [gs.getD i 0]) (lstN gs).length = kdsW (MP.startW gs) := by
  rw [lstN_len, keepD_words (F := fun x => [x]) hn gs.length (Nat.le_refl _), List.take_length]
  rfl
theorem lstN_gd {gs : List Nat} {k : Nat} {d : D} (h : (lstN gs)[k]? = some d) : k < gs.length ∧ d = .int (gs.getD k 0 : Nat) := by
  unfold lstN at h
  rw [List.getElem?_map] at h
  cases q : gs[k]? with
  | none => rw [q] at h; cases h
  | some x =>
    rw [q] at h
    refine ⟨(List.getElem?_eq_some_iff.mp q).1, ?_⟩
    rw [List.getD_eq_getElem?_getD, q]
    exact (Option.some.inj h).symm
theorem getD_mem {gs : List Nat} {k : Nat} (h : k < gs.length) : gs.getD k 0 ∈ gs := by
  rw [List.getD_eq_getElem?_getD, List.getElem?_eq_getElem h]
  exact List.getElem_mem h
theorem getD_take {gs : List Nat} {k : Nat} (h : k < gs.length) : gs.take (k + 1) = gs.take k ++ [gs.getD k 0] := by
  rw [List.take_add_one, List.getD_eq_getElem?_getD, List.getElem?_eq_getElem h]
  rfl
theorem keys_start (gs : List Nat) : MP.keysW (MP.startW gs) = gs := by
  unfold MP.keysW MP.startW
  rw [List.map_map]
  exact List.map_id gs
theorem ok_words_of (T : Tx K mg) : FnOk P w K mg base CX0 1 T.f_words_of T.d_words_of p_words_of (spD K R_words_of) := by
  refine T.F_words_of.ok sc_words_of (fun vs H Q E h => ?_) (fun cdv A outer s H vs Q E hr h => ?_)
  · obtain ⟨G, ds, d, e, hd, hR, q⟩ := h
    rw [hd.length]
    match ds, hR with
    | [_, _], _ => rfl
  · refine ⟨_, (pss_cons (ps_set (i := 2) sc_words_of.nd rfl (.inl rfl) (pe_callB (call_sortedSK w) (by rfl) T.m_sorted (by decide +kernel) (pa_cons (pe_callTy (call_setOfK K w) (by rfl) T.m_set (by decide +kernel) (pa_cons (pv 1) pa_nil)) pa_nil)))
      (pss_cons (ps_setDc (i := 3) (own := [("x", 7)]) rfl sc_words_of.nd rfl rfl (sw_trueD rfl rfl rfl (by decide +kernel)) (pi_listK K (pv 2)) (blkOk_by (by rfl)) (fun _ _ _ _ _ => pg_name (i := 7) sc_words_of.nd rfl (by first | exact .inl rfl | exact .inr rfl)) (fun _ _ _ _ _ => pts_nil) (fun _ _ _ _ _ => (pv 7)) (fun _ _ _ _ _ => (pe_tup (pa_cons (pv 7) pa_nil))))
      (pss_cons (ps_par (i := 4) (j := 5) rfl sc_words_of.nd rfl rfl (by decide) rfl rfl (pa_cons (pe_callTy (call_list_ofK K) (by rfl) T.m_list (by decide +kernel) (pa_cons (pv 2) pa_nil)) (pa_cons pe_int pa_nil)) (by rfl))
      (pss_cons (ps_while PassesOwn.never (pt_cmpR op_lt (pv 5) (pe_callB (call_lenK K) (by rfl) T.m_len (by decide +kernel) (pa_cons (pv 4) pa_nil)) (nomark _)) (pss_cons (ps_par (i := 6) (j := 5) rfl sc_words_of.nd rfl rfl (by decide) rfl rfl (pa_cons (pe_ix (ix_listK K) (pv 4) (pv 5) (fun _ _ => rfl)) (pa_cons (pe_op op_add (pv 5) pe_int) pa_nil)) (by rfl))
      (pss_one (ps_for PassesOwn.never rfl (pi_listK K (pv 2)) (pg_name (i := 7) sc_words_of.nd rfl (.inl rfl))
      (pss_cons (ps_set (i := 8) sc_words_of.nd rfl (.inl rfl) (pe_ix (ix_seqK K) (pe_ix (ix_seqK K) (pv 0) (pv 6) (fun _ _ => rfl)) (pv 7) (fun _ _ => rfl)))
      (pss_one (ps_if (pt_cmp (pc_dnotin (hu_of hr) (pv 8) (pv 3))) (pss_cons (ps_dput (hu_of hr) (pv 3) (pv 8) (pe_tup (pa_starK K (pe_dget (hu_of hr) (pv 3) (pv 6) (fun _ _ => rfl)) (pa_cons (pv 7) pa_nil))) (by rfl))
      (pss_one (ps_expr (pe_bmK K PySem.F.plainAttrs_list PySem.F.slot_list_append PySem.F.type_list_append mt_append (pv 4) (pa_cons (pv 8) pa_nil))))) pss_nil)))))))
      (pss_one (ps_ret (pv 3))))))), ?_⟩
    obtain ⟨G, ds, d, e, hd, hR, q⟩ := h
    have hl : ∃ x0 x1, ds = [x0, x1] := by
      match ds, hR with
      | [x0, x1], _ => exact ⟨x0, x1, rfl⟩
    obtain ⟨x0, x1, rfl⟩ := hl
    cases hd with
    | @cons v0 vs0 _ _ dv0 hd =>
    cases hd with
    | @cons v1 vs1 _ _ dv1 hd =>
    cases hd
    refine EX.fin (W := fun _ _ _ _ => False) (good_start e ((.cons dv0 (.cons dv1 .nil))) n_words_of) q ?_
    show EX K ⟨G, H, none⟩ _ _ [Sl.val v0 x0, Sl.val v1 x1, Sl.un, Sl.un, Sl.un, Sl.un, Sl.un, Sl.un, Sl.un] _
    obtain ⟨n, f, ms, hT, rfl, hm, rfl⟩ := hR
    have hg : ∀ g ∈ gensN n ms, g < n := fun g hg => hm.2.1 g ((gensN_mem hm.2.1 g).mp hg)
    have hnd : (gensN n ms).Nodup := fltN_nd
    generalize hgs : gensN n ms = gs at *
    have hgl : gs.length ≤ 10 := by have := fltN_le (n := n) (p := fun x => decide (x ∈ ms)); have h10 := hT.n10; unfold gensN at hgs; rw [hgs] at this; omega
    refine ex_let (el_is (el_gens hm hT.n10 (ev_var rfl)) (by rw [hgs])).ev fun v2 => ?_
    refine ex_newDS (en_is (evn_dc (f := fun _ => true) (Fk := fun i => ((gs.getD i 0 : Nat) : Int)) (Fv := fun i => tupN [gs.getD i 0]) (ei_list (ev_var rfl)) (by rw [lstN_len]; omega) (by decide) fun i v d hd => ?_) (startD hnd)) (show 3 < 9 by decide) fun p => ?_
    · obtain ⟨_, rfl⟩ := lstN_gd hd
      exact ⟨et_yes, fun _ => ⟨ev_var rfl, ev_tup (ea_cons (ev_var rfl) ea_nil) (sz 1)⟩⟩
    refine ex_parNewLS (el_is (el_listOf (ev_var rfl)) (congrArg lstN (keys_start gs).symm)) ev_int fun qa va => ?_
    refine ex_whileS (tt := fun e => decide (slotInt e 5 < (slotLen e 4 : Int))) (fun e => ∃ L i va s6 s7 s8, e = [Sl.val v0 (tblD n f), Sl.val v1 x1, Sl.val v2 (.lst (lstN gs)), Sl.odi p (kdsW L), Sl.own qa (lstN (MP.keysW L)), Sl.val va (.int (i : Nat)), s6, s7, s8] ∧ MP.BI n f gs L i ∧ (∀ q ∈ L, q.2.length ≤ i + 1) ∧ MP.bfs f gs (n + 1 - i) L i = MP.wordsL n f gs)
      (fun e => n + 1 - (slotInt e 5).toNat) ⟨MP.startW gs, 0, va, _, _, _, rfl, MP.start_ok hg hnd, (fun q hq => by obtain ⟨x, _, rfl⟩ := List.mem_map.mp hq; exact Nat.le_refl 1), rfl⟩ ?_ ?_ ?_
    · rintro env' ⟨L, i, va, s6, s7, s8, rfl, hb, hwl, he⟩
      exact et_test (ev_is (ev_op (ev_var rfl) (ev_lenOwn rfl) op_ltI) rfl)
    · rintro env' ⟨L, i, va, s6, s7, s8, rfl, hb, hwl, he⟩ ht
      have hi : i < L.length := by
        have h1 := of_decide_eq_true ht
        have h2 : (i : Int) < ((lstN (MP.keysW L)).length : Int) := h1
        rw [lstN_len] at h2
        unfold MP.keysW at h2
        rw [List.length_map] at h2
        omega
      have hLn := hb.ba.len
      obtain ⟨pp, hpp⟩ : ∃ pp, L[i]? = some pp := ⟨L[i], List.getElem?_eq_getElem hi⟩
      have hpm : pp ∈ L := List.mem_of_getElem? hpp
      have hpl := hb.ba.lt pp hpm
      have hk : (MP.keysW L)[i]? = some pp.1 := by unfold MP.keysW; rw [List.getElem?_map, hpp]; rfl
      have hq : atI (lstN (MP.keysW L)) ((i : Nat) : Int) = some (.int (pp.1 : Nat)) := atI_natD (by unfold lstN; rw [List.getElem?_map, hk]; rfl)
      refine ex_parS (ea_cons (ev_ixOwn rfl (ev_var rfl) hq) (ea_cons (ev_op (ev_var rfl) ev_int op_addI) ea_nil)) fun vh v5 => ?_
      refine ex_forN (fun k e => ∃ s7 s8, e = [Sl.val v0 (tblD n f), Sl.val v1 x1, Sl.val v2 (.lst (lstN gs)), Sl.odi p (kdsW ((gs.take k).foldl (MP.bStep f pp) L)), Sl.own qa (lstN (MP.keysW ((gs.take k).foldl (MP.bStep f pp) L))), Sl.val v5 (.int ((i : Nat) + 1)), Sl.val vh (.int (pp.1 : Nat)), s7, s8]) (ei_list (ev_var rfl)) ⟨_, _, rfl⟩ ?_ ?_
      · rintro k env' v d hd ⟨s7, s8, rfl⟩
        obtain ⟨hkl, rfl⟩ := lstN_gd hd
        rw [getD_take hkl, List.foldl_append]
        obtain ⟨hba, hbd, _⟩ := MP.fold_ok (p := pp) hT.cl hg (gs.take k) L (fun y hy => List.mem_of_mem_take hy) hb.ba (hb.bd pp hpp) hpm
        have hpm' : pp ∈ (gs.take k).foldl (MP.bStep f pp) L := (MP.bTurn_pre _ L).subset hpm
        generalize hx : gs.getD k 0 = x
        have hxg : x ∈ gs := hx ▸ getD_mem hkl
        have hxn := hg x hxg
        have hll := hba.len
        generalize hL' : (gs.take k).foldl (MP.bStep f pp) L = L' at hba hbd hpm' hll
        have hn10 := hT.n10
        refine ex_let (ev_row (ev_tbl (ev_var rfl) (ev_var rfl) hpl) (ev_var rfl) hxn) fun vt => ?_
        show EX K _ _ _ [Sl.val v0 (tblD n f), Sl.val v1 x1, Sl.val v2 (.lst (lstN gs)), Sl.odi p (kdsW L'), Sl.own qa (lstN (MP.keysW L')), Sl.val v5 (.int ((i : Nat) + 1)), Sl.val vh (.int (pp.1 : Nat)), Sl.val v (.int (x : Nat)), Sl.val vt (.int (f pp.1 x : Nat))] _
        refine ex_if (b := !decide (f pp.1 x ∈ L'.map (·.1))) (et_test (ev_is (ev_dnotinO rfl (ev_var rfl)) (by rw [kdsW_in]))) (fun hb2 => ?_) (fun hb2 => ?_)
        · have hnew : f pp.1 x ∉ L'.map (·.1) := fun z => by rw [decide_eq_true z] at hb2; cases hb2
          have hstep : MP.bStep f pp L' x = L' ++ [(f pp.1 x, pp.2 ++ [x])] := if_neg hnew
          refine ex_cons (ex_dput rfl (ev_tup (ea_star (ev_dgetO rfl (ev_var rfl) (kdsW_get hba.nd hpm')) (ea_cons (ev_var rfl) ea_nil)) ?_) (ev_var rfl) (by rw [kdsW_len, sizeLine_eq]; omega) rfl) ?_
          · have := hwl pp hpm
            rw [List.length_append, List.length_map, sizeLine_eq]
            show _ + 1 ≤ _
            omega
          refine ex_app rfl (ev_var rfl) (by rw [lstN_len]; unfold MP.keysW; rw [List.length_map, sizeLine_eq]; omega) ⟨.val v (.int (x : Nat)), .val vt (.int (f pp.1 x : Nat)), ?_⟩
          show _ = [Sl.val v0 (tblD n f), Sl.val v1 x1, Sl.val v2 (.lst (lstN gs)), Sl.odi p (kdsW (MP.bStep f pp L' x)), Sl.own qa (lstN (MP.keysW (MP.bStep f pp L' x))), _, _, _, _]
          rw [hstep, show (D.tup (List.map (fun i => D.int ((i : Nat) : Int)) pp.2 ++ [D.int ((x : Nat) : Int)])) = tupN (pp.2 ++ [x]) by unfold tupN; rw [List.map_append]; rfl]
          have e2 : MP.keysW (L' ++ [(f pp.1 x, pp.2 ++ [x])]) = MP.keysW L' ++ [f pp.1 x] := by unfold MP.keysW; rw [List.map_append]; rfl
          rw [e2, ← lstN_app, ← kdsW_put hnew]
          rfl
        · have hold : f pp.1 x ∈ L'.map (·.1) := by
            cases z : decide (f pp.1 x ∈ L'.map (·.1)) with
            | true => exact of_decide_eq_true z
            | false => rw [z] at hb2; cases hb2
          have hstep : MP.bStep f pp L' x = L' := if_pos hold
          refine ex_next ⟨.val v (.int (x : Nat)), .val vt (.int (f pp.1 x : Nat)), ?_⟩
          show _ = [Sl.val v0 (tblD n f), Sl.val v1 x1, Sl.val v2 (.lst (lstN gs)), Sl.odi p (kdsW (MP.bStep f pp L' x)), Sl.own qa (lstN (MP.keysW (MP.bStep f pp L' x))), _, _, _, _]
          rw [hstep]
      · rintro env' ⟨s7, s8, rfl⟩
        rw [lstN_len, List.take_length]
        refine ⟨⟨_, i + 1, v5, _, _, _, rfl, MP.turn_ok hT.cl hg hb hpp, fun q hq => ?_, ?_⟩, ?_⟩
        · have h1 := (MP.fold_ok (p := pp) hT.cl hg gs L (fun _ h => h) hb.ba (hb.bd pp hpp) hpm).2.1 q hq
          have h2 := hwl pp hpm
          omega
        · rw [← he]
          have e : n + 1 - i = (n + 1 - (i + 1)) + 1 := by omega
          rw [e]
          show _ = (match L[i]? with | none => L | some p => MP.bfs f gs (n + 1 - (i + 1)) (MP.bTurn f gs p L) (i + 1))
          rw [hpp]
          rfl
        · show n + 1 - (((i : Nat) : Int) + 1).toNat < n + 1 - ((i : Nat) : Int).toNat
          omega
    · rintro env' ⟨L, i, va, s6, s7, s8, rfl, hb, hwl, he⟩ ht
      have hi : L.length ≤ i := by
        have h1 := of_decide_eq_false ht
        have h2 : ¬ (i : Int) < ((lstN (MP.keysW L)).length : Int) := h1
        rw [lstN_len] at h2
        unfold MP.keysW at h2
        rw [List.length_map] at h2
        omega
      have hle := hb.le
      have hLn := hb.ba.len
      have hW : L = MP.wordsL n f gs := by
        rw [← he]
        have e : n + 1 - i = (n - i) + 1 := by omega
        rw [e]
        show L = (match L[i]? with | none => L | some p => _)
        rw [List.getElem?_eq_none hi]
      subst hW
      exact ex_commitD (i := 3) (a := p) (kds := kdsW (MP.wordsL n f gs)) rfl (fun _ _ _ _ z => nomatch z) (ex_ret (ev_var rfl) fun v => rfl)

end
end Kx


set_option Elab.async false
set_option linter.all false
set_option maxRecDepth 100000
set_option maxHeartbeats 2000000
namespace Kx
open PySem PySem.Spec PyProof.Rows L2 DL
section
variable {P : Program} {w : World} {K : PySem.W.Frag} {mg : Str → Option Value} {base : Heap}
/-- what some members make, in order -/
def lotN (n : Nat) (f : Nat → Nat → Nat) (gs : List Nat) : List Nat := fltN n fun x => decide (x ∈ MP.keysW (MP.wordsL n f gs))
theorem lotN_mem {n : Nat} {f : Nat → Nat → Nat} {gs : List Nat} (hW : MP.BE n f gs (MP.wordsL n f gs)) (x : Nat) : x ∈ lotN n f gs ↔ x ∈ MP.keysW (MP.wordsL n f gs) := by
  unfold lotN fltN
  rw [List.mem_filter, List.mem_range, decide_eq_true_iff]
  refine ⟨fun z => z.2, fun z => ⟨?_, z⟩⟩
  obtain ⟨p, hp, rfl⟩ := List.mem_map.mp z
  exact hW.ba.lt p hp
theorem gens_end {n : Nat} {f : Nat → Nat → Nat} {ms : List Nat} (hT : TabOk n f) (h : ∀ x ∈ ms, x < n) : MP.BE n f (gensN n ms) (MP.wordsL n f (gensN n ms)) :=
  MP.words_end hT.cl (fun g hg => h g ((gensN_mem h g).mp hg)) fltN_nd
theorem lot_perm {n : Nat} {f : Nat → Nat → Nat} {gs : List Nat} (hW : MP.BE n f gs (MP.wordsL n f gs)) : (lotN n f gs).Perm (MP.keysW (MP.wordsL n f gs)) :=
  (List.perm_ext_iff_of_nodup fltN_nd hW.ba.nd).mpr (lotN_mem hW)
/-- sorted(found) -/
theorem cb_sortW {n : Nat} {f : Nat → Nat → Nat} {gs : List Nat} (hn : n ≤ 10) (hW : MP.BE n f gs (MP.wordsL n f gs)) : CbD K rSortDI [.dct (kdsW (MP.wordsL n f gs))] (.lst (lstN (lotN n f gs))) := by
  have h := cb_sortDI (K := K) (kdsW_keys (MP.wordsL n f gs)) (L := (lotN n f gs).map fun x => ((x : Nat) : Int)) (by have := hW.ba.len; rw [List.length_map, List.length_map]; omega) ((lot_perm hW).map _) (fltN_ipw.imp fun h => Int.le_of_lt h)
  rw [List.map_map] at h
  exact h
def wordAt (L : List (Nat × List Nat)) (x : Nat) : List Nat := match L.find? fun p => decide (p.1 = x) with
  | some p => p.2
  | none => []
theorem wordAt_mem {L : List (Nat × List Nat)} {x : Nat} (h : x ∈ L.map (·.1)) : (x, wordAt L x) ∈ L := by
  obtain ⟨p, hp, e⟩ := List.mem_map.mp h
  unfold wordAt
  cases q : L.find? fun p => decide (p.1 = x) with
  | none => exact absurd (List.find?_eq_none.mp q p hp) (by rw [decide_eq_true e]; exact fun z => z rfl)
  | some r =>
    have h1 := List.find?_some q
    have h1 : r.1 = x := of_decide_eq_true h1
    have h2 := List.mem_of_find?_eq_some q
    rw [← h1]
    exact h2
def pairW (n : Nat) (f : Nat → Nat → Nat) (gs : List Nat) (x : Nat) : D := .tup [.int ((x : Nat) : Int), tupN (wordAt (MP.wordsL n f gs) x)]
theorem range_getD {α : Type} (F : Nat → α) (l : List Nat) : ((List.range l.length).map fun i => F (l.getD i 0)) = l.map F := by
  refine List.ext_getElem (by rw [List.length_map, List.length_map, List.length_range]) fun i h1 h2 => ?_
  rw [List.getElem_map, List.getElem_map, List.getElem_range, List.getD_eq_getElem?_getD, List.getElem?_eq_getElem (by rw [List.length_map] at h2; exact h2)]
  rfl
def R_closure : List D → D → Prop
  | [t, m], d => ∃ (n : Nat) (f : Nat → Nat → Nat) (ms : List Nat), TabOk n f ∧ t = tblD n f ∧ MemD n ms m ∧ d = tupN (lotN n f (gensN n ms))
  | _, _ => False
theorem ok_closure (T : Tx K mg) : FnOk P w K mg base CX0 2 T.f_closure T.d_closure p_closure (spD K R_closure) := by
  refine T.F_closure.ok sc_closure (fun vs H Q E h => ?_) (fun cdv A outer s H vs Q E hr h => ?_)
  · obtain ⟨G, ds, d, e, hd, hR, q⟩ := h
    rw [hd.length]
    match ds, hR with
    | [_, _], _ => rfl
  · refine ⟨_, (pss_one (ps_ret (pe_tupleOfK K (by rfl) T.m_tuple (pe_callB call_sortDI (by rfl) T.m_sorted (by decide +kernel) (pa_cons (pe_call (ok_words_of T) (hr.mono (by omega)) (by rfl) T.g_words_of T.F_words_of.kp T.b_words_of .nil pass0 (pa_cons (pv 0) (pa_cons (pv 1) pa_nil))) pa_nil))))), ?_⟩
    obtain ⟨G, ds, d, e, hd, hR, q⟩ := h
    have hl : ∃ x0 x1, ds = [x0, x1] := by
      match ds, hR with
      | [x0, x1], _ => exact ⟨x0, x1, rfl⟩
    obtain ⟨x0, x1, rfl⟩ := hl
    cases hd with
    | @cons v0 vs0 _ _ dv0 hd =>
    cases hd with
    | @cons v1 vs1 _ _ dv1 hd =>
    cases hd
    refine EX.fin (W := fun _ _ _ _ => False) (good_start e ((.cons dv0 (.cons dv1 .nil))) n_closure) q ?_
    show EX K ⟨G, H, none⟩ _ _ [Sl.val v0 x0, Sl.val v1 x1] _
    obtain ⟨n, f, ms, hT, rfl, hm, rfl⟩ := hR
    exact ex_ret (ev_then (ev_cb (ea_cons (ev_call (ea_cons (ev_var rfl) (ea_cons (ev_var rfl) ea_nil)) ⟨n, f, ms, hT, rfl, hm, rfl⟩) ea_nil) (cb_sortW hT.n10 (gens_end hT hm.2.1))) un_tupN) fun v => rfl
def TyL (m : D) : Prop := tyD m ≠ none ∧ ∀ ds, itemsD m = some ds → ds.length < 10000 ∧ ∀ y ∈ ds, tyD y ≠ none
def R_check_elements : List D → D → Prop
  | [t, m], d => Ty3 t ∧ isSemi t = true ∧ TyL m ∧ areEl m (tabN t : Nat) = true ∧ d = .non
  | _, _ => False
def E_check_elements (T : Tx K mg) (vs : List V) : List D → Value → Str → V → Prop
  | [t, m], c, g, u => Ty3 t ∧ TyL m ∧ g = "given" ∧ ∃ v0 v1, vs = [v0, v1] ∧ ((isSemi t = false ∧ c = .ref T.c_InvalidTable ∧ u = v0) ∨ (isSemi t = true ∧ areEl m (tabN t : Nat) = false ∧ c = .ref T.c_InvalidElements ∧ u = v1))
  | _, _, _, _ => False
theorem isSemi_tab2 {x : D} (h : isSemi x = true) : isTab x = true := (Bool.and_eq_true_iff.mp h).1
theorem ok_check_elements (T : Tx K mg) : FnOk P w K mg base (L2.CX P w) 8 T.f_check_elements T.d_check_elements p_check_elements (spX K R_check_elements (E_check_elements T)) := by
  refine T.F_check_elements.okX sc_check_elements (fun vs H Q E h => ?_) (fun cdv A outer s H vs Q E hr h => ?_)
  · obtain ⟨G, ds, e, hd, hR | hR⟩ := h
    · rw [hd.length]; obtain ⟨d, hR, q⟩ := hR
      match ds, hR with
      | [_, _], _ => rfl
    · rw [hd.length]; obtain ⟨c, f, v, hR, q⟩ := hR
      match ds, hR with
      | [_, _], _ => rfl
  · have tk : Takes (cxOf (L2.CX P w) P w K mg base n_check_elements "check_elements" (defScope s_check_elements) T.f_check_elements cdv A outer s H E) (fun cls d _ H => E cls d H) := takes_of rfl rfl rfl rfl
    have hpass : PassesOwn _ _ _ (cxOf (L2.CX P w) P w K mg base n_check_elements "check_elements" (defScope s_check_elements) T.f_check_elements cdv A outer s H E).xe := passes_of (X := cxOf (L2.CX P w) P w K mg base n_check_elements "check_elements" (defScope s_check_elements) T.f_check_elements cdv A outer s H E) rfl
    refine ⟨_, (pss_cons (ps_expr (pe_callS (ok_check_semigroup T) (hr.mono (by omega)) (by rfl) T.g_check_semigroup T.F_check_semigroup.kp T.b_check_semigroup (fun σ => passAt tk σ) (pa_cons (pv 0) pa_nil)))
      (pss_one (ps_if (pt_not (pt_val (pe_call (ok_are_elements T) (hr.mono (by omega)) (by rfl) T.g_are_elements T.F_are_elements.kp T.b_are_elements .nil pass0 (pa_cons (pv 1) (pa_cons (pe_callB (call_lenK K) (by rfl) T.m_len (by decide +kernel) (pa_cons (pv 0) pa_nil)) pa_nil))))) (pss_one (ps_raise rfl tk (pmk_oex T.e_InvalidElements.oe T.e_InvalidElements.iC T.e_InvalidElements.tI (ok_init_InvalidElements T) (hr.mono (by omega)) T.bi_InvalidElements .nil pass0 (by rfl) T.e_InvalidElements.gC (pa_cons (pv 1) pa_nil)))) pss_nil))), ?_⟩
    obtain ⟨G, ds, e, hd, hh⟩ := h
    have hl : ∃ x0 x1, ds = [x0, x1] := by
      rcases hh with ⟨d, hR, _⟩ | ⟨c, f, v, hR, _⟩
      · match ds, hR with
        | [x0, x1], _ => exact ⟨x0, x1, rfl⟩
      · match ds, hR with
        | [x0, x1], _ => exact ⟨x0, x1, rfl⟩
    obtain ⟨x0, x1, rfl⟩ := hl
    cases hd with
    | @cons v0 vs0 _ _ dv0 hd =>
    cases hd with
    | @cons v1 vs1 _ _ dv1 hd =>
    cases hd
    refine EX.finX (good_start e ((.cons dv0 (.cons dv1 .nil))) n_check_elements) (hh.imp (fun ⟨d, hR, q⟩ => ⟨d, q, ?_⟩) fun ⟨cls, f, v, hE, q⟩ => ⟨cls, f, v, q, ?_⟩) <;> show EX K ⟨G, H, none⟩ _ _ [Sl.val v0 x0, Sl.val v1 x1] _
    · obtain ⟨h1, h2, h3, h4, rfl⟩ := hR
      refine ex_cons (ex_drop (ev_callX (ea_cons (ev_var rfl) ea_nil) ⟨h1, h2, rfl⟩) rfl) ?_
      exact ex_if (b := false) (et_is (et_not (et_B (ev_call (ea_cons (ev_var rfl) (ea_cons (ev_cb (ea_cons (ev_up (ev_var rfl) fun G v hd => tblD_of (isSemi_tab2 h2) hd) ea_nil) cb_lenTbl) ea_nil)) ⟨_, rfl, h3.1, h3.2, rfl⟩))) (by rw [h4]; rfl)) (fun h => by cases h) fun _ => ex_next rfl
    · obtain ⟨h1, h3, rfl, _, _, hv, h5⟩ := hE
      cases hv
      rcases h5 with ⟨h2, rfl, rfl⟩ | ⟨h2, h4, rfl, rfl⟩
      · exact ex_rsDrop (rs_call (eav_cons (evv_var rfl) eav_nil) ⟨h1, h2, rfl, rfl, rfl⟩) ⟨rfl, rfl, rfl⟩
      · refine ex_cons (ex_drop (ev_callX (ea_cons (ev_var rfl) ea_nil) ⟨h1, h2, rfl⟩) rfl) ?_
        refine ex_if (b := true) (et_is (et_not (et_B (ev_call (ea_cons (ev_var rfl) (ea_cons (ev_cb (ea_cons (ev_up (ev_var rfl) fun G v hd => tblD_of (isSemi_tab2 h2) hd) ea_nil) cb_lenTbl) ea_nil)) ⟨_, rfl, h3.1, h3.2, rfl⟩))) (by rw [h4]; rfl)) (fun _ => ?_) fun h => by cases h
        exact ex_raise (eav_cons (evv_var rfl) eav_nil) T.e_InvalidElements.oe T.e_InvalidElements.nf ⟨rfl, rfl, rfl⟩
theorem memD_items {n : Nat} {ms : List Nat} {m : D} (h : MemD n ms m) : itemsD m = some (lstN ms) := by
  rcases h.1 with rfl | rfl
  · rfl
  · rfl
theorem memD_ty {n : Nat} {ms : List Nat} {m : D} (h : MemD n ms m) : TyL m := by
  refine ⟨by rcases h.1 with rfl | rfl <;> exact (fun z => nomatch z), fun ds hd => ?_⟩
  rw [memD_items h] at hd
  cases hd
  refine ⟨by rw [lstN_len]; have := h.2.2; omega, fun y hy => ?_⟩
  obtain ⟨x, _, rfl⟩ := List.mem_map.mp hy
  exact fun z => nomatch z
theorem okc_els {n : Nat} {f : Nat → Nat → Nat} {ms : List Nat} {m : D} (h : SgOk n f) (hm : MemD n ms m) : R_check_elements [tblD n f, m] .non := by
  refine ⟨ty3_tbl h.1.n10, isSemi_tbl h, memD_ty hm, ?_, rfl⟩
  rw [(isTab_tbl h.1).2.1]
  unfold areEl
  rw [memD_items hm]
  show (lstN ms).all _ = true
  rw [List.all_eq_true]
  intro y hy
  obtain ⟨x, hx, rfl⟩ := List.mem_map.mp hy
  exact inRg_int (hm.2.1 x hx)

end
end Kx


set_option Elab.async false
set_option linter.all false
set_option maxRecDepth 100000
set_option maxHeartbeats 2000000
namespace Kx
open PySem PySem.Spec PyProof.Rows L2 DL
section
variable {P : Program} {w : World} {K : PySem.W.Frag} {mg : Str → Option Value} {base : Heap}
def R_grow (res : Nat → (Nat → Nat → Nat) → List Nat → D) : List D → D → Prop
  | [t, m], d => ∃ (n : Nat) (f : Nat → Nat → Nat) (ms : List Nat), SgOk n f ∧ t = tblD n f ∧ MemD n ms m ∧ d = res n f (gensN n ms)
  | _, _ => False
abbrev lotD (n : Nat) (f : Nat → Nat → Nat) (gs : List Nat) : D := tupN (lotN n f gs)
abbrev wrdD (n : Nat) (f : Nat → Nat → Nat) (gs : List Nat) : D := .lst ((lotN n f gs).map (pairW n f gs))
theorem ok_generated (T : Tx K mg) : FnOk P w K mg base (L2.CX P w) 9 T.f_generated T.d_generated p_generated (spXF K (R_grow lotD) (E_check_elements T)) := by
  refine T.F_generated.okX sc_generated (fun vs H Q E h => ?_) (fun cdv A outer s H vs Q E hr h => ?_)
  · obtain ⟨G, ds, e, hd, hR | hR⟩ := h
    · rw [hd.length]; obtain ⟨d, hR, q⟩ := hR
      match ds, hR with
      | [_, _], _ => rfl
    · rw [hd.length]; obtain ⟨c, f, v, hR, q⟩ := hR
      match ds, hR with
      | [_, _], _ => rfl
  · have tk : Takes (cxOf (L2.CX P w) P w K mg base n_generated "generated" (defScope s_generated) T.f_generated cdv A outer s H E) (fun cls d _ H => E cls d H) := takes_of rfl rfl rfl rfl
    have hpass : PassesOwn _ _ _ (cxOf (L2.CX P w) P w K mg base n_generated "generated" (defScope s_generated) T.f_generated cdv A outer s H E).xe := passes_of (X := cxOf (L2.CX P w) P w K mg base n_generated "generated" (defScope s_generated) T.f_generated cdv A outer s H E) rfl
    refine ⟨_, (pss_cons (ps_expr (pe_callS (ok_check_elements T) (hr.mono (by omega)) (by rfl) T.g_check_elements T.F_check_elements.kp T.b_check_elements (fun σ => passAt tk σ) (pa_cons (pv 0) (pa_cons (pv 1) pa_nil))))
      (pss_one (ps_ret (pe_call (ok_closure T) (hr.mono (by omega)) (by rfl) T.g_closure T.F_closure.kp T.b_closure .nil pass0 (pa_cons (pv 0) (pa_cons (pv 1) pa_nil)))))), ?_⟩
    obtain ⟨G, ds, e, hd, hh⟩ := h
    have hl : ∃ x0 x1, ds = [x0, x1] := by
      rcases hh with ⟨d, hR, _⟩ | ⟨c, f, v, hR, _⟩
      · match ds, hR with
        | [x0, x1], _ => exact ⟨x0, x1, rfl⟩
      · match ds, hR with
        | [x0, x1], _ => exact ⟨x0, x1, rfl⟩
    obtain ⟨x0, x1, rfl⟩ := hl
    cases hd with
    | @cons v0 vs0 _ _ dv0 hd =>
    cases hd with
    | @cons v1 vs1 _ _ dv1 hd =>
    cases hd
    refine EX.finXF (good_start e ((.cons dv0 (.cons dv1 .nil))) n_generated) (hh.imp (fun ⟨d, hR, q⟩ => ⟨d, q, ?_⟩) fun ⟨cls, f, v, hE, q⟩ => ⟨cls, f, v, q, ?_⟩) <;> show EX K ⟨G, H, none⟩ _ _ [Sl.val v0 x0, Sl.val v1 x1] _
    · obtain ⟨n, f, ms, hs, rfl, hm, rfl⟩ := hR
      refine ex_cons (ex_drop (ev_callX (ea_cons (ev_var rfl) (ea_cons (ev_var rfl) ea_nil)) (okc_els hs hm)) rfl) ?_
      exact ex_retFr ((ev_call (ea_cons (ev_var rfl) (ea_cons (ev_var rfl) ea_nil)) ⟨n, f, ms, hs.1, rfl, hm, rfl⟩).evf fun ds h => nomatch h) fun v hf => ⟨rfl, hf⟩
    · exact ex_rsDrop (rs_call (eav_cons (evv_var rfl) (eav_cons (evv_var rfl) eav_nil)) hE) ⟨rfl, rfl, rfl⟩
theorem ok_words_for (T : Tx K mg) : FnOk P w K mg base (L2.CX P w) 9 T.f_words_for T.d_words_for p_words_for (spXF K (R_grow wrdD) (E_check_elements T)) := by
  refine T.F_words_for.okX sc_words_for (fun vs H Q E h => ?_) (fun cdv A outer s H vs Q E hr h => ?_)
  · obtain ⟨G, ds, e, hd, hR | hR⟩ := h
    · rw [hd.length]; obtain ⟨d, hR, q⟩ := hR
      match ds, hR with
      | [_, _], _ => rfl
    · rw [hd.length]; obtain ⟨c, f, v, hR, q⟩ := hR
      match ds, hR with
      | [_, _], _ => rfl
  · have tk : Takes (cxOf (L2.CX P w) P w K mg base n_words_for "words_for" (defScope s_words_for) T.f_words_for cdv A outer s H E) (fun cls d _ H => E cls d H) := takes_of rfl rfl rfl rfl
    have hpass : PassesOwn _ _ _ (cxOf (L2.CX P w) P w K mg base n_words_for "words_for" (defScope s_words_for) T.f_words_for cdv A outer s H E).xe := passes_of (X := cxOf (L2.CX P w) P w K mg base n_words_for "words_for" (defScope s_words_for) T.f_words_for cdv A outer s H E) rfl
    refine ⟨_, (pss_cons (ps_expr (pe_callS (ok_check_elements T) (hr.mono (by omega)) (by rfl) T.g_check_elements T.F_check_elements.kp T.b_check_elements (fun σ => passAt tk σ) (pa_cons (pv 0) (pa_cons (pv 1) pa_nil))))
      (pss_cons (ps_set (i := 2) sc_words_for.nd rfl (.inr rfl) (pe_call (ok_words_of T) (hr.mono (by omega)) (by rfl) T.g_words_of T.F_words_of.kp T.b_words_of .nil pass0 (pa_cons (pv 0) (pa_cons (pv 1) pa_nil))))
      (pss_one (ps_ret (pe_lc (own := [("x", 3)]) rfl sc_words_for.nd (pi_listK K (pe_callB call_sortDI (by rfl) T.m_sorted (by decide +kernel) (pa_cons (pv 2) pa_nil))) (blkOk_by (by rfl)) (fun _ _ _ _ _ => pg_name (i := 3) sc_words_for.nd rfl (by first | exact .inl rfl | exact .inr rfl)) (fun _ _ _ _ _ => pts_nil) (fun _ _ _ _ _ => (pe_tup (pa_cons (pv 3) (pa_cons (pe_dget (hu_of hr) (pv 2) (pv 3) (fun _ _ => rfl)) pa_nil))))))))), ?_⟩
    obtain ⟨G, ds, e, hd, hh⟩ := h
    have hl : ∃ x0 x1, ds = [x0, x1] := by
      rcases hh with ⟨d, hR, _⟩ | ⟨c, f, v, hR, _⟩
      · match ds, hR with
        | [x0, x1], _ => exact ⟨x0, x1, rfl⟩
      · match ds, hR with
        | [x0, x1], _ => exact ⟨x0, x1, rfl⟩
    obtain ⟨x0, x1, rfl⟩ := hl
    cases hd with
    | @cons v0 vs0 _ _ dv0 hd =>
    cases hd with
    | @cons v1 vs1 _ _ dv1 hd =>
    cases hd
    refine EX.finXF (good_start e ((.cons dv0 (.cons dv1 .nil))) n_words_for) (hh.imp (fun ⟨d, hR, q⟩ => ⟨d, q, ?_⟩) fun ⟨cls, f, v, hE, q⟩ => ⟨cls, f, v, q, ?_⟩) <;> show EX K ⟨G, H, none⟩ _ _ [Sl.val v0 x0, Sl.val v1 x1, Sl.un, Sl.un] _
    · obtain ⟨n, f, ms, hs, rfl, hm, rfl⟩ := hR
      have hW := gens_end hs.1 hm.2.1
      have h10 := hs.1.n10
      refine ex_cons (ex_drop (ev_callX (ea_cons (ev_var rfl) (ea_cons (ev_var rfl) ea_nil)) (okc_els hs hm)) rfl) ?_
      refine ex_let (ev_call (ea_cons (ev_var rfl) (ea_cons (ev_var rfl) ea_nil)) ⟨n, f, ms, hs.1, rfl, hm, rfl⟩) fun v2 => ?_
      refine ex_retFr (el_is (el_lc (f := fun _ => true) (F := fun i => pairW n f (gensN n ms) ((lotN n f (gensN n ms)).getD i 0)) (ei_list (ev_cb (ea_cons (ev_var rfl) ea_nil) (cb_sortW h10 hW))) (by rw [lstN_len, sizeLine_eq]; have := fltN_le (n := n) (p := fun x => decide (x ∈ MP.keysW (MP.wordsL n f (gensN n ms)))); unfold lotN; omega) (by decide) fun i v d hd => ⟨et_yes, fun _ => ?_⟩) (by
        rw [keep_all, lstN_len]
        exact range_getD (pairW n f (gensN n ms)) _)).evf fun v hf => ⟨rfl, hf⟩
      obtain ⟨hi, rfl⟩ := lstN_gd hd
      have hk := (lotN_mem hW _).mp (getD_mem hi)
      exact ev_tup (ea_cons (ev_var rfl) (ea_cons (ev_dgetD (ev_var rfl) (ev_var rfl) (kdsW_get hW.ba.nd (wordAt_mem hk))) ea_nil)) (sz 2)
    · exact ex_rsDrop (rs_call (eav_cons (evv_var rfl) (eav_cons (evv_var rfl) eav_nil)) hE) ⟨rfl, rfl, rfl⟩

end
end Kx


set_option Elab.async false
set_option linter.all false
set_option maxRecDepth 100000
set_option maxHeartbeats 2000000
namespace Kx
open PySem PySem.Spec PyProof.Rows L2 DL
section
variable {P : Program} {w : World} {K : PySem.W.Frag} {mg : Str → Option Value} {base : Heap}
theorem addFold {n : Nat} {f : Nat → Nat → Nat} {gs : List Nat} : ∀ (zs F : List Nat), (∀ z ∈ zs, z < n ∧ MP.Rch f gs z) → MP.CA n f gs F → MP.CA n f gs (zs.foldl MP.addZ F)
  | [], F, _, h => h
  | z :: zs, F, hz, h => addFold zs _ (fun y hy => hz y (List.mem_cons_of_mem _ hy)) (h.add (hz z List.mem_cons_self))
theorem sg_sm {n : Nat} {f : Nat → Nat → Nat} (h : SgOk n f) : MP.Sm n f := ⟨h.1.cl, h.2.as⟩
theorem gens_lt {n : Nat} {ms : List Nat} (h : ∀ x ∈ ms, x < n) : ∀ g ∈ gensN n ms, g < n := fun g hg => h g ((gensN_mem h g).mp hg)
theorem lot_reach {n : Nat} {f : Nat → Nat → Nat} {ms : List Nat} (hT : TabOk n f) (h : ∀ x ∈ ms, x < n) (x : Nat) : x ∈ lotN n f (gensN n ms) ↔ MP.Rch f (gensN n ms) x :=
  (lotN_mem (gens_end hT h) x).trans ((gens_end hT h).keys x)
def R_law_closing : List D → D → Prop
  | [t, m], d => ∃ (n : Nat) (f : Nat → Nat → Nat) (ms : List Nat), SgOk n f ∧ t = tblD n f ∧ MemD n ms m ∧ d = tupN (lotN n f (gensN n ms))
  | _, _ => False
theorem ok_law_closing (T : Tx K mg) : FnOk P w K mg base CX0 1 T.f_law_closing T.d_law_closing p_law_closing (spD K R_law_closing) := by
  refine T.F_law_closing.ok sc_law_closing (fun vs H Q E h => ?_) (fun cdv A outer s H vs Q E hr h => ?_)
  · obtain ⟨G, ds, d, e, hd, hR, q⟩ := h
    rw [hd.length]
    match ds, hR with
    | [_, _], _ => rfl
  · refine ⟨_, (pss_cons (ps_par (i := 2) (j := 3) rfl sc_law_closing.nd rfl rfl (by decide) rfl rfl (pa_cons (pe_callB (call_sortedSK w) (by rfl) T.m_sorted (by decide +kernel) (pa_cons (pe_callTy (call_setOfK K w) (by rfl) T.m_set (by decide +kernel) (pa_cons (pv 1) pa_nil)) pa_nil)) (pa_cons pe_int pa_nil)) (by rfl))
      (pss_cons (ps_while PassesOwn.never (pt_cmpR op_lt (pv 3) (pe_callB (call_lenK K) (by rfl) T.m_len (by decide +kernel) (pa_cons (pv 2) pa_nil)) (nomark _)) (pss_cons (ps_for PassesOwn.never rfl (pi_listK K (pe_callTy (call_list_ofK K) (by rfl) T.m_list (by decide +kernel) (pa_cons (pv 2) pa_nil))) (pg_name (i := 4) sc_law_closing.nd rfl (.inl rfl))
      (pss_one (ps_for PassesOwn.never rfl (pi_listK K (pe_lst (pa_cons (pe_ix (ix_seqK K) (pe_ix (ix_seqK K) (pv 0) (pv 4) (fun _ _ => rfl)) (pe_ix (ix_listK K) (pv 2) (pv 3) (fun _ _ => rfl)) (fun _ _ => rfl)) (pa_cons (pe_ix (ix_seqK K) (pe_ix (ix_seqK K) (pv 0) (pe_ix (ix_listK K) (pv 2) (pv 3) (fun _ _ => rfl)) (fun _ _ => rfl)) (pv 4) (fun _ _ => rfl)) pa_nil)))) (pg_name (i := 5) sc_law_closing.nd rfl (.inl rfl))
      (pss_one (ps_if (pt_cmpR (op_notInK K) (pv 5) (pv 2) (by with_unfolding_all rfl)) (pss_one (ps_expr (pe_bmK K PySem.F.plainAttrs_list PySem.F.slot_list_append PySem.F.type_list_append mt_append (pv 2) (pa_cons (pv 5) pa_nil)))) pss_nil)))))
      (pss_one (ps_set (i := 3) sc_law_closing.nd rfl (.inl rfl) (pe_op op_add (pv 3) pe_int)))))
      (pss_one (ps_ret (pe_tupleOfK K (by rfl) T.m_tuple (pe_callB (call_sortK K) (by rfl) T.m_sorted (by decide +kernel) (pa_cons (pv 2) pa_nil))))))), ?_⟩
    obtain ⟨G, ds, d, e, hd, hR, q⟩ := h
    have hl : ∃ x0 x1, ds = [x0, x1] := by
      match ds, hR with
      | [x0, x1], _ => exact ⟨x0, x1, rfl⟩
    obtain ⟨x0, x1, rfl⟩ := hl
    cases hd with
    | @cons v0 vs0 _ _ dv0 hd =>
    cases hd with
    | @cons v1 vs1 _ _ dv1 hd =>
    cases hd
    refine EX.fin (W := fun _ _ _ _ => False) (good_start e ((.cons dv0 (.cons dv1 .nil))) n_law_closing) q ?_
    show EX K ⟨G, H, none⟩ _ _ [Sl.val v0 x0, Sl.val v1 x1, Sl.un, Sl.un, Sl.un, Sl.un] _
    obtain ⟨n, f, ms, hS, rfl, hm, rfl⟩ := hR
    have hg := gens_lt hm.2.1
    have hnd : (gensN n ms).Nodup := fltN_nd
    have hreach := lot_reach hS.1 hm.2.1
    have h10 := hS.1.n10
    have hsm := sg_sm hS
    refine ex_parNewLS (el_gens hm h10 (ev_var rfl)) ev_int fun pa va => ?_
    generalize hgs : gensN n ms = gs at *
    refine ex_whileS (tt := fun e => decide (slotInt e 3 < (slotLen e 2 : Int))) (fun e => ∃ F i va s4 s5, e = [Sl.val v0 (tblD n f), Sl.val v1 x1, Sl.own pa (lstN F), Sl.val va (.int (i : Nat)), s4, s5] ∧ MP.CI n f gs F i) (fun e => n - (slotInt e 3).toNat) ⟨gs, 0, va, _, _, rfl, MP.clStart hg hnd⟩ ?_ ?_ ?_
    · rintro env' ⟨F, i, va, s4, s5, rfl, hI⟩
      exact et_test (ev_is (ev_op (ev_var rfl) (ev_lenOwn rfl) op_ltI) rfl)
    · rintro env' ⟨F, i, va, s4, s5, rfl, hI⟩ ht
      have hi : i < F.length := by
        have h1 := of_decide_eq_true ht
        have h2 : (i : Int) < ((lstN F).length : Int) := h1
        rw [lstN_len] at h2
        omega
      have hF := hI.ca.len
      have hT := MP.clTurn hsm hg hI hi
      have hpm : F.getD i 0 ∈ F := getD_mem hi
      generalize hp : F.getD i 0 = p at hT hpm
      have hpn := hI.ca.rc p hpm
      refine ex_forNS (fun k e => ∃ s4 s5, e = [Sl.val v0 (tblD n f), Sl.val v1 x1, Sl.own pa (lstN ((F.take k).foldl (MP.clStep f p) F)), Sl.val va (.int (i : Nat)), s4, s5]) (ei_list (el_listOwn rfl).ev) ⟨_, _, rfl⟩ ?_ ?_
      · rintro k env' v d hd ⟨s4, s5, rfl⟩
        obtain ⟨hkl, rfl⟩ := lstN_gd hd
        rw [getD_take hkl, List.foldl_append]
        obtain ⟨hca, hpre, _⟩ := MP.clFold hsm hg hpn (F.take k) F (fun y hy => hI.ca.rc y (List.mem_of_mem_take hy)) hI.ca
        have hxr := hI.ca.rc _ (getD_mem hkl)
        generalize F.getD k 0 = x at hxr
        have hpi : ((F.take k).foldl (MP.clStep f p) F).getD i 0 = p := by rw [MP.getD_pre hpre hi, hp]
        have hil : i < ((F.take k).foldl (MP.clStep f p) F).length := Nat.lt_of_lt_of_le hi hpre.length_le
        generalize (F.take k).foldl (MP.clStep f p) F = F' at hca hpre hpi hil
        have hq : atI (lstN F') ((i : Nat) : Int) = some (.int (p : Nat)) := atI_natD (by
          unfold lstN
          rw [List.getElem?_map, List.getElem?_eq_getElem hil]
          rw [List.getD_eq_getElem?_getD, List.getElem?_eq_getElem hil] at hpi
          have hpi : F'[i] = p := hpi
          rw [hpi]; rfl)
        show EX K _ _ _ [Sl.val v0 (tblD n f), Sl.val v1 x1, Sl.own pa (lstN F'), Sl.val va (.int (i : Nat)), Sl.val v (.int (x : Nat)), s5] _
        refine ex_forN (fun m e => ∃ s5, e = [Sl.val v0 (tblD n f), Sl.val v1 x1, Sl.own pa (lstN (([f x p, f p x].take m).foldl MP.addZ F')), Sl.val va (.int (i : Nat)), Sl.val v (.int (x : Nat)), s5]) (ei_list (ev_lst (ea_cons (ev_row (ev_tbl (ev_var rfl) (ev_var rfl) hxr.1) (ev_ixOwn rfl (ev_var rfl) hq) hpn.1) (ea_cons (ev_row (ev_tbl (ev_var rfl) (ev_ixOwn rfl (ev_var rfl) hq) hpn.1) (ev_var rfl) hxr.1) ea_nil)) (sz 2))) ⟨_, rfl⟩ ?_ ?_
        · rintro m env' vz d hd ⟨s5, rfl⟩
          obtain ⟨hml, rfl⟩ := lstN_gd (gs := [f x p, f p x]) hd
          have hzs : ∀ z ∈ [f x p, f p x], z < n ∧ MP.Rch f gs z := fun z hz => by
            rcases List.mem_cons.mp hz with rfl | hz
            · exact hsm.mul hg hxr hpn
            · rw [List.mem_singleton.mp hz]; exact hsm.mul hg hpn hxr
          have hc := addFold ([f x p, f p x].take m) F' (fun z hz => hzs z (List.mem_of_mem_take hz)) hca
          rw [getD_take hml, List.foldl_append]
          generalize [f x p, f p x].getD m 0 = z
          have hcl := hc.len
          generalize ([f x p, f p x].take m).foldl MP.addZ F' = F2 at hc hcl
          show EX K _ _ _ [Sl.val v0 (tblD n f), Sl.val v1 x1, Sl.own pa (lstN F2), Sl.val va (.int (i : Nat)), Sl.val v (.int (x : Nat)), Sl.val vz (.int (z : Nat))] _
          refine ex_if (b := !decide (z ∈ F2)) (et_test (ev_notInOwnN rfl (ev_var rfl))) (fun hb2 => ?_) (fun hb2 => ?_)
          · have hnew : z ∉ F2 := fun q => by rw [decide_eq_true q] at hb2; cases hb2
            refine ex_app rfl (ev_var rfl) (by rw [lstN_len, sizeLine_eq]; omega) ⟨.val vz (.int (z : Nat)), ?_⟩
            show _ = [Sl.val v0 (tblD n f), Sl.val v1 x1, Sl.own pa (lstN (MP.addZ F2 z)), _, _, _]
            rw [show MP.addZ F2 z = F2 ++ [z] from if_neg hnew, ← lstN_app]
            rfl
          · have hold : z ∈ F2 := by
              cases q : decide (z ∈ F2) with
              | true => exact of_decide_eq_true q
              | false => rw [q] at hb2; cases hb2
            refine ex_next ⟨.val vz (.int (z : Nat)), ?_⟩
            show _ = [Sl.val v0 (tblD n f), Sl.val v1 x1, Sl.own pa (lstN (MP.addZ F2 z)), _, _, _]
            rw [show MP.addZ F2 z = F2 from if_pos hold]
        · rintro env' ⟨s5, rfl⟩
          exact ⟨.val v (.int (x : Nat)), s5, rfl⟩
      · rintro env' ⟨s4, s5, rfl⟩
        rw [lstN_len, List.take_length]
        refine ex_asg (ev_op (ev_var rfl) ev_int op_addI) fun v => ⟨⟨_, i + 1, v, _, _, rfl, hT⟩, ?_⟩
        show n - (((i : Nat) : Int) + 1).toNat < n - ((i : Nat) : Int).toNat
        omega
    · rintro env' ⟨F, i, va, s4, s5, rfl, hI⟩ ht
      have hi : F.length ≤ i := by
        have h1 := of_decide_eq_false ht
        have h2 : ¬ (i : Int) < ((lstN F).length : Int) := h1
        rw [lstN_len] at h2
        omega
      have hF := hI.ca.len
      refine ex_commit' (i := 2) (a := pa) (ds := lstN F) rfl (fun _ _ _ _ z => nomatch z) (ex_ret (ev_then (ev_cb (ea_cons (ev_var rfl) ea_nil) (cb_sortN (L := lotN n f gs) (by omega) ?_ (fltN_pw.imp fun h => Nat.le_of_lt h))) un_tupN) fun v => rfl)
      exact (List.perm_ext_iff_of_nodup fltN_nd hI.ca.nd).mpr fun x => (hreach x).trans (MP.clEnd hI hi x).symm

end
end Kx


set_option Elab.async false
set_option linter.all false
set_option maxRecDepth 100000
set_option maxHeartbeats 2000000
namespace Kx
open PySem PySem.Spec PyProof.Rows L2 DL
section
variable {P : Program} {w : World} {K : PySem.W.Frag} {mg : Str → Option Value} {base : Heap}
/-- what the members lead on to from x, a number for each -/
def latN (f : Nat → Nat → Nat) (ms : List Nat) (ks : List Nat) (x : Nat) : List Nat := ((List.range ms.length).filter fun i => !decide (f x (ms.getD i 0) ∈ ks)).map fun i => f x (ms.getD i 0)
theorem latN_keep (f : Nat → Nat → Nat) (ms ks : List Nat) (x : Nat) : keep (fun i => !decide (f x (ms.getD i 0) ∈ ks)) (fun i => .int (f x (ms.getD i 0) : Nat)) (lstN ms).length = lstN (latN f ms ks x) := by
  unfold keep latN lstN
  rw [List.length_map, List.map_map]
  rfl
theorem latN_len (f : Nat → Nat → Nat) (ms ks : List Nat) (x : Nat) : (latN f ms ks x).length ≤ ms.length := by
  unfold latN
  rw [List.length_map]
  have := List.length_filter_le (fun i => !decide (f x (ms.getD i 0) ∈ ks)) (List.range ms.length)
  rw [List.length_range] at this
  exact this
theorem latN_mem {f : Nat → Nat → Nat} {ms ks : List Nat} {x z : Nat} : z ∈ latN f ms ks x ↔ z ∉ ks ∧ ∃ y ∈ ms, f x y = z := by
  unfold latN
  rw [List.mem_map]
  constructor
  · rintro ⟨i, hi, rfl⟩
    obtain ⟨h1, h2⟩ := List.mem_filter.mp hi
    refine ⟨fun q => ?_, _, getD_mem (List.mem_range.mp h1), rfl⟩
    rw [decide_eq_true q] at h2
    cases h2
  · rintro ⟨h1, y, hy, rfl⟩
    obtain ⟨i, hi⟩ := List.mem_iff_getElem?.mp hy
    have e : ms.getD i 0 = y := by rw [List.getD_eq_getElem?_getD, hi]; rfl
    refine ⟨i, List.mem_filter.mpr ⟨List.mem_range.mpr (List.getElem?_eq_some_iff.mp hi).1, ?_⟩, by rw [e]⟩
    rw [e, decide_eq_false h1]
    rfl
def R_law_lengths : List D → D → Prop
  | [t, m], d => ∃ (n : Nat) (f : Nat → Nat → Nat) (ms : List Nat), TabOk n f ∧ t = tblD n f ∧ MemD n ms m ∧ d = .dct (kdsL (MP.lensL n f (gensN n ms)))
  | _, _ => False
theorem nodup_take {F : List Nat} (h : F.Nodup) {k : Nat} (hk : k < F.length) : F.getD k 0 ∉ F.take k := fun hy => by
  have := List.nodup_append.mp ((List.take_append_drop k F).symm ▸ h)
  refine this.2.2 _ hy (F.getD k 0) ?_ rfl
  rw [List.drop_eq_getElem_cons hk, List.getD_eq_getElem?_getD, List.getElem?_eq_getElem hk]
  exact List.mem_cons_self
theorem ok_law_lengths (T : Tx K mg) : FnOk P w K mg base CX0 1 T.f_law_lengths T.d_law_lengths p_law_lengths (spD K R_law_lengths) := by
  refine T.F_law_lengths.ok sc_law_lengths (fun vs H Q E h => ?_) (fun cdv A outer s H vs Q E hr h => ?_)
  · obtain ⟨G, ds, d, e, hd, hR, q⟩ := h
    rw [hd.length]
    match ds, hR with
    | [_, _], _ => rfl
  · refine ⟨_, (pss_cons (ps_asg (pe_tup (pa_cons pe_dnewK (pa_cons (pe_callB (call_sortedSK w) (by rfl) T.m_sorted (by decide +kernel) (pa_cons (pe_callTy (call_setOfK K w) (by rfl) T.m_set (by decide +kernel) (pa_cons (pv 1) pa_nil)) pa_nil)) (pa_cons pe_int pa_nil)))) (pg_tupK K rfl (pgs_cons (pg_name (i := 2) sc_law_lengths.nd rfl (.inr rfl)) (pgs_cons (pg_name (i := 3) sc_law_lengths.nd rfl (.inl rfl)) (pgs_cons (pg_name (i := 4) sc_law_lengths.nd rfl (.inl rfl)) pgs_nil)))))
      (pss_cons (ps_while PassesOwn.never (pt_cmpR (op_neD hr.units) (pv 3) (pe_lst pa_nil) (nomark _)) (pss_cons (ps_for PassesOwn.never rfl (pi_listK K (pv 3)) (pg_name (i := 5) sc_law_lengths.nd rfl (.inr rfl))
      (pss_one (ps_dput (hu_of hr) (pv 2) (pv 5) (pv 4) (by rfl))))
      (pss_cons (ps_set (i := 6) sc_law_lengths.nd rfl (.inl rfl) (pe_lst pa_nil))
      (pss_cons (ps_for PassesOwn.never rfl (pi_listK K (pv 3)) (pg_name (i := 5) sc_law_lengths.nd rfl (.inr rfl))
      (pss_one (ps_set (i := 6) sc_law_lengths.nd rfl (.inl rfl) (pe_op op_cat (pv 6) (pe_lc (own := [("y", 7)]) rfl sc_law_lengths.nd (pi_seqK K (pv 1)) (blkOk_by (by rfl)) (fun _ _ _ _ _ => pg_name (i := 7) sc_law_lengths.nd rfl (by first | exact .inl rfl | exact .inr rfl)) (fun _ _ _ _ _ => (pts_one (pt_cmp (pc_dnotin (hu_of hr) (pe_ix (ix_seqK K) (pe_ix (ix_seqK K) (pv 0) (pv 5) (fun _ _ => rfl)) (pv 7) (fun _ _ => rfl)) (pv 2))))) (fun _ _ _ _ _ => (pe_ix (ix_seqK K) (pe_ix (ix_seqK K) (pv 0) (pv 5) (fun _ _ => rfl)) (pv 7) (fun _ _ => rfl))))))))
      (pss_one (ps_par (i := 3) (j := 4) rfl sc_law_lengths.nd rfl rfl (by decide) rfl rfl (pa_cons (pe_callB (call_sortedSK w) (by rfl) T.m_sorted (by decide +kernel) (pa_cons (pe_callTy (call_setOfK K w) (by rfl) T.m_set (by decide +kernel) (pa_cons (pv 6) pa_nil)) pa_nil)) (pa_cons (pe_op op_add (pv 4) pe_int) pa_nil)) (by rfl)))))))
      (pss_one (ps_ret (pv 2))))), ?_⟩
    obtain ⟨G, ds, d, e, hd, hR, q⟩ := h
    have hl : ∃ x0 x1, ds = [x0, x1] := by
      match ds, hR with
      | [x0, x1], _ => exact ⟨x0, x1, rfl⟩
    obtain ⟨x0, x1, rfl⟩ := hl
    cases hd with
    | @cons v0 vs0 _ _ dv0 hd =>
    cases hd with
    | @cons v1 vs1 _ _ dv1 hd =>
    cases hd
    refine EX.fin (W := fun _ _ _ _ => False) (good_start e ((.cons dv0 (.cons dv1 .nil))) n_law_lengths) q ?_
    show EX K ⟨G, H, none⟩ _ _ [Sl.val v0 x0, Sl.val v1 x1, Sl.un, Sl.un, Sl.un, Sl.un, Sl.un, Sl.un] _
    obtain ⟨n, f, ms, hT, rfl, hm, rfl⟩ := hR
    have hg : ∀ g ∈ gensN n ms, g < n := fun g hg => hm.2.1 g ((gensN_mem hm.2.1 g).mp hg)
    have hgm := gensN_mem hm.2.1
    have hnd : (gensN n ms).Nodup := fltN_nd
    have h10 := hT.n10
    have hml := hm.2.2
    refine ex_par3D evn_new (show 2 < 8 by decide) (el_gens hm h10 (ev_var rfl)).ev ev_int fun p vF vs => ?_
    generalize hgs : gensN n ms = gs at *
    refine ex_whileS (tt := fun e => !decide (slotDl e 3 = 0)) (fun e => ∃ L F s k vF vs s5 s6 s7, e = [Sl.val v0 (tblD n f), Sl.val v1 x1, Sl.odi p (kdsL L), Sl.val vF (.lst (lstN F)), Sl.val vs (.int ((s : Nat) + 1)), s5, s6, s7] ∧ MP.LI n f gs L F s ∧ MP.lvs n f gs k L F (s + 1) = MP.lensL n f gs ∧ n + 1 ≤ L.length + k) (fun e => n - slotKds e 2)
      ⟨[], gs, 0, n + 1, vF, vs, _, _, _, rfl, MP.LI.start hg hnd, rfl, by simp⟩ ?_ ?_ ?_
    · rintro env' ⟨L, F, s, k, vF, vs, s5, s6, s7, rfl, hI, he, hk⟩
      refine et_test (ev_is (ev_op (ev_var rfl) (ev_lst ea_nil (sz 0)) op_neLN) ?_)
      show D.bl (!decide (F = [])) = D.bl (!decide ((lstN F).length = 0))
      rw [lstN_len]
      congr 2
      exact decide_eq_decide.mpr List.length_eq_zero_iff.symm
    · rintro env' ⟨L, F, s, k, vF, vs, s5, s6, s7, rfl, hI, he, hk⟩ ht
      have hF : F ≠ [] := fun z => by subst z; cases ht
      have hLn := hI.len
      have hN := hI.next hT.cl hg
      have hNl := hN.len
      have hFl : F.length ≤ n := by unfold MP.lvAdd at hNl; rw [List.length_append, List.length_map] at hNl; omega
      have hF1 : 1 ≤ F.length := List.length_pos_iff.mpr hF
      refine ex_forNS (fun k e => ∃ s5, e = [Sl.val v0 (tblD n f), Sl.val v1 x1, Sl.odi p (kdsL (MP.lvAdd L (F.take k) (s + 1))), Sl.val vF (.lst (lstN F)), Sl.val vs (.int ((s : Nat) + 1)), s5, s6, s7]) (ei_list (ev_var rfl)) ⟨s5, ?_⟩ ?_ ?_
      · show _ = [Sl.val v0 (tblD n f), Sl.val v1 x1, Sl.odi p (kdsL (L ++ [])), _, _, _, _, _]
        rw [List.append_nil]
      · rintro k env' v d hd ⟨s5, rfl⟩
        obtain ⟨hkl, rfl⟩ := lstN_gd hd
        refine ex_dput rfl (ev_var rfl) (ev_var rfl) ?_ ⟨.val v (.int (F.getD k 0 : Nat)), ?_⟩
        · rw [kdsL_len]
          unfold MP.lvAdd
          rw [List.length_append, List.length_map, List.length_take, sizeLine_eq]
          omega
        · show _ = [Sl.val v0 (tblD n f), Sl.val v1 x1, Sl.odi p (kdsL (MP.lvAdd L (F.take (k + 1)) (s + 1))), _, _, _, _, _]
          have hx : F.getD k 0 ∉ (MP.lvAdd L (F.take k) (s + 1)).map (·.1) := fun z => by
            rcases List.mem_append.mp (show F.getD k 0 ∈ MP.lvKeys L ++ F.take k by rw [← MP.keys_add (s := s + 1)]; exact z) with z | z
            · exact hI.new (getD_mem hkl) z
            · exact nodup_take hI.fn hkl z
          have e : MP.lvAdd L (F.take (k + 1)) (s + 1) = MP.lvAdd L (F.take k) (s + 1) ++ [(F.getD k 0, s + 1)] := by
            unfold MP.lvAdd
            rw [getD_take hkl, List.map_append, ← List.append_assoc]
            rfl
          rw [e, ← kdsL_put hx]
          rfl
      · rintro env' ⟨s5, rfl⟩
        rw [lstN_len, List.take_length]
        generalize hL' : MP.lvAdd L F (s + 1) = L' at *
        have hlen : L'.length = L.length + F.length := by rw [← hL']; unfold MP.lvAdd; rw [List.length_append, List.length_map]
        refine ex_let (ev_lst ea_nil (sz 0)) fun v6 => ?_
        refine ex_forNS (fun k e => ∃ lt s5 v6 s7, e = [Sl.val v0 (tblD n f), Sl.val v1 x1, Sl.odi p (kdsL L'), Sl.val vF (.lst (lstN F)), Sl.val vs (.int ((s : Nat) + 1)), s5, Sl.val v6 (.lst (lstN lt)), s7] ∧ lt.length ≤ k * 100 ∧ ∀ z, z ∈ lt ↔ z ∉ MP.lvKeys L' ∧ ∃ x ∈ F.take k, ∃ y ∈ ms, f x y = z) (ei_list (ev_var rfl)) ⟨[], s5, v6, s7, rfl, Nat.zero_le _, fun z => ⟨fun h => (nomatch h), fun ⟨_, x, hx, _⟩ => by rw [List.take_zero] at hx; cases hx⟩⟩ ?_ ?_
        · rintro k env' v d hd ⟨lt, s5, v6, s7, rfl, hl1, hl2⟩
          obtain ⟨hkl, rfl⟩ := lstN_gd hd
          have hxn := hI.fl _ (getD_mem hkl)
          generalize hx : F.getD k 0 = x at hxn
          show EX K _ _ _ [Sl.val v0 (tblD n f), Sl.val v1 x1, Sl.odi p (kdsL L'), Sl.val vF (.lst (lstN F)), Sl.val vs (.int ((s : Nat) + 1)), Sl.val v (.int (x : Nat)), Sl.val v6 (.lst (lstN lt)), s7] _
          have hMI : EVI K ⟨G, H, none⟩ (iSeq K (tVar 1)) [Sl.val v0 (tblD n f), Sl.val v1 x1, Sl.odi p (kdsL L'), Sl.val vF (.lst (lstN F)), Sl.val vs (.int ((s : Nat) + 1)), Sl.val v (.int (x : Nat)), Sl.val v6 (.lst (lstN lt)), s7] (lstN ms) := by
            rcases hm.1 with rfl | rfl
            · exact ei_seqT (ev_var rfl)
            · exact ei_seqL (ev_var rfl)
          refine ex_asg (d := .lst (lstN (lt ++ latN f ms (MP.lvKeys L') x))) (ev_is (ev_op (ev_var rfl) (ev_is (ev_lcN (f := fun i => !decide (f x (ms.getD i 0) ∈ MP.lvKeys L')) (F := fun i => .int (f x (ms.getD i 0) : Nat)) hMI (by rw [lstN_len, sizeLine_eq]; omega) (by decide) fun i v d hd => ?_) (congrArg D.lst (latN_keep f ms (MP.lvKeys L') x))) (op_catLD ?_)) ?_) fun v => ⟨_, _, _, _, rfl, ?_, fun z => ?_⟩
          · obtain ⟨hil, rfl⟩ := lstN_gd hd
            have hyn := hm.2.1 _ (getD_mem hil)
            exact ⟨et_test (ev_is (ev_dnotinO (i := 2) (a := p) (kds := kdsL L') rfl (ev_row (ev_tbl (ev_var rfl) (ev_var rfl) hxn) (ev_var rfl) hyn)) (by rw [kdsL_in]; rfl)), fun _ => ev_row (ev_tbl (ev_var rfl) (ev_var rfl) hxn) (ev_var rfl) hyn⟩
          · have := latN_len f ms (MP.lvKeys L') x
            rw [lstN_len, lstN_len, sizeLine_eq]
            omega
          · show D.lst _ = D.lst _
            congr 1
            unfold lstN
            rw [List.map_append]
          · have := latN_len f ms (MP.lvKeys L') x
            rw [List.length_append]
            omega
          · rw [List.mem_append, hl2, latN_mem, getD_take hkl, hx]
            constructor
            · rintro (⟨h1, a, ha, y, hy, e⟩ | ⟨h1, y, hy, e⟩)
              · exact ⟨h1, a, List.mem_append_left _ ha, y, hy, e⟩
              · exact ⟨h1, x, List.mem_append_right _ List.mem_cons_self, y, hy, e⟩
            · rintro ⟨h1, a, ha, y, hy, e⟩
              rcases List.mem_append.mp ha with ha | ha
              · exact .inl ⟨h1, a, ha, y, hy, e⟩
              · rw [List.mem_singleton.mp ha] at e
                exact .inr ⟨h1, y, hy, e⟩
        · rintro env' ⟨lt, s5, v6, s7, rfl, hl1, hl2⟩
          rw [lstN_len] at hl1 hl2
          rw [List.take_length] at hl2
          have hlt : ∀ z ∈ lt, z < n := fun z hz => by
            obtain ⟨_, x, hx, y, hy, rfl⟩ := (hl2 z).mp hz
            exact hT.cl x y (hI.fl x hx) (hm.2.1 y hy)
          have hnext : gensN n lt = MP.lvNext n f gs L' F := by
            unfold gensN fltN MP.lvNext
            refine List.filter_congr fun z hz => decide_eq_decide.mpr ?_
            rw [hl2]
            exact ⟨fun ⟨h1, x, hx, y, hy, e⟩ => ⟨h1, x, hx, y, (hgm y).mpr hy, e⟩, fun ⟨h1, x, hx, y, hy, e⟩ => ⟨h1, x, hx, y, (hgm y).mp hy, e⟩⟩
          obtain ⟨k', rfl⟩ : ∃ k', k = k' + 1 := ⟨k - 1, by omega⟩
          refine ex_par (d1 := .lst (lstN (gensN n lt))) (ea_cons (el_gens0 (.inr rfl) hlt (by omega) h10 (ev_var rfl)).ev (ea_cons (ev_op (ev_var rfl) ev_int op_addI) ea_nil)) fun w1 w2 => ⟨⟨L', MP.lvNext n f gs L' F, s + 1, k', w1, w2, s5, .val v6 (.lst (lstN lt)), s7, ?_, hN, ?_, by omega⟩, ?_⟩
          · rw [hnext]
            rfl
          · rw [← he]
            show _ = (if F = [] then L else MP.lvs n f gs k' (MP.lvAdd L F (s + 1)) (MP.lvNext n f gs (MP.lvAdd L F (s + 1)) F) (s + 1 + 1))
            rw [if_neg hF, hL']
          · show n - (kdsL L').length < n - (kdsL L).length
            rw [kdsL_len, kdsL_len]
            omega
    · rintro env' ⟨L, F, s, k, vF, vs, s5, s6, s7, rfl, hI, he, hk⟩ ht
      have hF : F = [] := by
        have h1 : (!decide ((lstN F).length = 0)) = false := ht
        rw [lstN_len] at h1
        cases q : F with
        | nil => rfl
        | cons a t => rw [q] at h1; cases h1
      subst hF
      have hLn := hI.len
      obtain ⟨k', rfl⟩ : ∃ k', k = k' + 1 := ⟨k - 1, by omega⟩
      have hW : L = MP.lensL n f gs := he
      subst hW
      exact ex_commitD (i := 2) (a := p) (kds := kdsL (MP.lensL n f gs)) rfl (fun _ _ _ _ z => nomatch z) (ex_ret (ev_var rfl) fun v => rfl)

end
end Kx


set_option Elab.async false
set_option linter.all false
set_option maxRecDepth 100000
set_option maxHeartbeats 2000000
namespace Kx
open PySem PySem.Spec PyProof.Rows L2 DL
section
variable {P : Program} {w : World} {K : PySem.W.Frag} {mg : Str → Option Value} {base : Heap}
def rev2 : List V → List V → List V := fun us ws => match us, ws with | [], [a0, a1] => [a1, a0] | _, _ => []
abbrev tAr (K : PySem.W.Frag) (i : Nat) : TE := tOp (rIx K) (tVar 1) (tC (V.int (i : Nat)))
abbrev tRs (te : TE) : TS := tRet (tLst (tCons (tC (V.str "result")) (tCons te tNil)))
theorem two_len {α : Type} {l : List α} (h : l.length = 2) : ∃ a b, l = [a, b] := by
  match l, h with
  | [a, b], _ => exact ⟨a, b, rfl⟩
theorem swap2 {a b : D} (G : Hp) (vs : List V) (h : DatL K G vs [b, a]) : DatL K G (rev2 [] vs) [a, b] := by
  cases h with | cons x t => cases t with | cons y t => cases t; exact .cons y (.cons x .nil)
def ErrN (T : Tx K mg) (c : Value) (nm : Str) : Prop := (c = .ref T.c_InvalidTable ∧ nm = "table") ∨ (c = .ref T.c_InvalidElements ∧ nm = "elements")
def EDoor (T : Tx K mg) (w : D) (vs : List V) (as : List D) (c : Value) (u : V) : Prop := (w = .str "lot" ∨ w = .str "words") ∧ vs.length = 2 ∧ as.length = 2 ∧ E_check_elements T vs as c "given" u
def RDoor (w : D) (aa : List D) (r : D) : Prop := (w = .str "lot" ∧ R_grow lotD aa r) ∨ (w = .str "words" ∧ R_grow wrdD aa r)
def tbA (K : PySem.W.Frag) (T : Tx K mg) (res : Nat → (Nat → Nat → Nat) → List Nat → D) (f : Addr) (W : WX) : TS :=
  tRs (tIf (tB (tVar 2)) (tCallVK 3 f (spXF K (R_grow res) (E_check_elements T)) rev2 (WE W) (tCons (tAr K 1) (tCons (tAr K 0) tNil))) (tCallVS 3 f (spXF K (R_grow res) (E_check_elements T)) (WE W) (tCons (tAr K 0) (tCons (tAr K 1) tNil))))
def R_ask (T : Tx K mg) (wd : Str) (res : Nat → (Nat → Nat → Nat) → List Nat → D) : Hp → List D → (D → Prop) → Prop
  | H, [a, b, c], F => ∃ (aa : List D) (nn : Bool), a = .str wd ∧ b = .lst aa ∧ c = .bl nn ∧ ((∃ r, R_grow res aa r ∧ ∀ u, Fr H u r → F (.lst [.str "result", .idn u r])) ∨
      (∃ vs as cl nm u z, aa = List.zipWith D.idn vs as ∧ vs.length = 2 ∧ as.length = 2 ∧ E_check_elements T vs as cl "given" u ∧ ErrN T cl nm ∧ .idn u z ∈ aa ∧ F (.lst [.str nm, .idn u z])))
  | _, _, _ => False
def R_law_asked (T : Tx K mg) : Hp → List D → (D → Prop) → Prop
  | H, [a, b, c], F => ∃ (w : D) (aa : List D) (nn : Bool), a = w ∧ b = .lst aa ∧ c = .bl nn ∧ ((∃ r, RDoor w aa r ∧ ∀ u, Fr H u r → F (.lst [.str "result", .idn u r])) ∨
      (∃ vs as cl nm u z, aa = List.zipWith D.idn vs as ∧ EDoor T w vs as cl u ∧ ErrN T cl nm ∧ .idn u z ∈ aa ∧ F (.lst [.str nm, .idn u z])))
  | _, _, _ => False
theorem wh2 {β : Bas} {env : Env'} {T : Tx K mg} {c : Value} {nm : Str} {u : V} {d : D} {Po : Post} {i : Nat} {z1 z2 : Str} {t4 : Addr → Value → Option Addr → TS} (h : ErrN T c nm) (hl : i < env.length) (hv : ∀ σ G H, Good K β σ env G H → Dat K G u d) (hP : ∀ w, Po.rt w (.lst [.str nm, d]) (env.set i .un)) :
    WH K β Po [(Value.ref T.c_InvalidTable, some i, fun a cls d => tRet (tLst (tCons (tIf (tB (tCB (fun xs H Q => cls = Value.ref T.c_InvalidTable ∧ rIsX K T.c_InvalidTable a d xs H Q) (tCons (tVar i) (tCons (tC (V.ref T.c_SemigroupError)) tNil)))) (tC (V.str "table")) (tC (V.str z1))) (tCons (tXf a cls d T.c_InvalidTable "given" (tVar i)) tNil)))),
      (Value.ref T.c_InvalidElements, some i, fun a cls d => tRet (tLst (tCons (tIf (tB (tCB (fun xs H Q => cls = Value.ref T.c_InvalidElements ∧ rIsX K T.c_InvalidElements a d xs H Q) (tCons (tVar i) (tCons (tC (V.ref T.c_SemigroupError)) tNil)))) (tC (V.str "elements")) (tC (V.str z2))) (tCons (tXf a cls d T.c_InvalidElements "given" (tVar i)) tNil)))),
      (Value.ref T.c_SemigroupError, none, t4)] c "given" u env := by
  rcases h with ⟨rfl, rfl⟩ | ⟨rfl, rfl⟩
  · exact ⟨true, T.x_InvalidTable_InvalidTable, fun _ => exh_ret T.e_InvalidTable T.y_InvalidTable hl hv hP, fun h => nomatch h⟩
  · exact ⟨false, T.x_InvalidElements_InvalidTable, (fun h => nomatch h), fun _ => ⟨true, T.x_InvalidElements_InvalidElements, fun _ => exh_ret T.e_InvalidElements T.y_InvalidElements hl hv hP, fun h => nomatch h⟩⟩
theorem ok_asked_step (T : Tx K mg) (wd : Str) (res : Nat → (Nat → Nat → Nat) → List Nat → D) (f : Addr) (fd : FuncData) (dF : FnOk P w K mg base (L2.CX P w) 9 f fd ["table", "members"] (spXF K (R_grow res) (E_check_elements T))) (dk : PySem.W.keepIn K (.ref f) = true) (db : Binds K fd ["table", "members"] []) (dkb : KBinds K fd ["table", "members"] ["members", "table"] (fun us ws => match us, ws with | [], [a0, a1] => [a1, a0] | _, _ => []) (fun us ws => match us, ws with | [], [a0, a1] => [a1, a0] | _, _ => [])) (hd1 : wd = "lot" → f = T.f_generated) (hd2 : wd ≠ "lot" → f = T.f_words_for) : FnOk P w K mg base CX0 10 T.f_law_asked T.d_law_asked p_law_asked (spR K (R_ask T wd res)) := by
  refine T.F_law_asked.ok sc_law_asked (fun vs H Q E h => ?_) (fun cdv A outer s H vs Q E hr h => ?_)
  · obtain ⟨G, ds, F, e, hd, hR, q⟩ := h
    rw [hd.length]
    match ds, hR with
    | [_, _, _], _ => rfl
  · refine ⟨_, (pss_cons (ps_set (i := 3) sc_law_asked.nd rfl (.inl rfl) (pe_ifExp (pt_cmpR op_eq (pv 0) pe_str (nomark _)) (pe_glob (v := .ref T.f_generated) (by rfl) T.g_generated rfl) (pe_glob (v := .ref T.f_words_for) (by rfl) T.g_words_for rfl)))
      (pss_one (ps_try_manyA rfl rfl takes_none5 (fun W pn xe tk hpass => (pss_one (ps_ret (pe_lst (pa_cons pe_str (pa_cons (pe_ifExp (pt_val (pv 2)) (pe_callVK (i := 3) dF (hr.mono (by omega)) dk dkb (fun σ => passAt tk σ) (by rfl) (by first | exact Or.inl rfl | exact Or.inr (Or.inl rfl) | exact Or.inr (Or.inr rfl)) (pk_cons (pe_ix (ix_seqK K) (pv 1) pe_int (fun _ _ => rfl)) (pk_cons (pe_ix (ix_seqK K) (pv 1) pe_int (fun _ _ => rfl)) pk_nil))) (pe_callVS (i := 3) dF (hr.mono (by omega)) dk db (fun σ => passAt tk σ) (by rfl) (by first | exact Or.inl rfl | exact Or.inr (Or.inl rfl) | exact Or.inr (Or.inr rfl)) (pa_cons (pe_ix (ix_seqK K) (pv 1) pe_int (fun _ _ => rfl)) (pa_cons (pe_ix (ix_seqK K) (pv 1) pe_int (fun _ _ => rfl)) pa_nil)))) pa_nil)))))) (HdsA.consA (i := 4) ⟨by rfl, by decide, .inl T.gc_InvalidTable⟩ sc_law_asked.nd rfl rfl (fun a oe cls d pn hz hf => (pss_one (ps_ret (pe_lst (pa_cons (pe_ifExp (pt_val (pe_callB (call_isXK K T.e_InvalidTable hz hf) (by rfl) T.m_isinstance (by decide +kernel) (pa_cons (pv 4) (pa_cons (pe_glob (v := .ref T.c_SemigroupError) (by rfl) T.gc_SemigroupError rfl) pa_nil)))) pe_str pe_str) (pa_cons (pe_xf T.e_InvalidTable.xf T.e_InvalidTable.nf hz hf (pv 4)) pa_nil)))))) (HdsA.consA (i := 4) ⟨by rfl, by decide, .inl T.gc_InvalidElements⟩ sc_law_asked.nd rfl rfl (fun a oe cls d pn hz hf => (pss_one (ps_ret (pe_lst (pa_cons (pe_ifExp (pt_val (pe_callB (call_isXK K T.e_InvalidElements hz hf) (by rfl) T.m_isinstance (by decide +kernel) (pa_cons (pv 4) (pa_cons (pe_glob (v := .ref T.c_SemigroupError) (by rfl) T.gc_SemigroupError rfl) pa_nil)))) pe_str pe_str) (pa_cons (pe_xf T.e_InvalidElements.xf T.e_InvalidElements.nf hz hf (pv 4)) pa_nil)))))) (HdsA.cons ⟨by rfl, by decide, .inl T.gc_SemigroupError⟩ (fun a oe cls d pn hz hf => (pss_one (ps_ret (pe_lst (pa_cons pe_str (pa_cons pe_non pa_nil)))))) HdsA.nil)))))), ?_⟩
    obtain ⟨G, ds, F, e, hd, hR, q⟩ := h
    have hl : ∃ x0 x1 x2, ds = [x0, x1, x2] := by
      match ds, hR with
      | [x0, x1, x2], _ => exact ⟨x0, x1, x2, rfl⟩
    obtain ⟨x0, x1, x2, rfl⟩ := hl
    cases hd with
    | @cons v0 vs0 _ _ dv0 hd =>
    cases hd with
    | @cons v1 vs1 _ _ dv1 hd =>
    cases hd with
    | @cons v2 vs2 _ _ dv2 hd =>
    cases hd
    refine EX.finR (W := fun _ _ _ _ => False) (good_start e ((.cons dv0 (.cons dv1 (.cons dv2 .nil)))) n_law_asked) q ?_
    show EX K ⟨G, H, none⟩ _ _ [Sl.val v0 x0, Sl.val v1 x1, Sl.val v2 x2, Sl.un, Sl.un] _
    obtain ⟨aa, nn, rfl, rfl, rfl, hk⟩ := hR
    refine ex_letV (v := .ref f) (d := .op (.ref f)) (evv_if (et_test (ev_op (ev_var rfl) ev_str op_eqStr)) (fun h => ?_) fun h => ?_) ?_
    · rw [hd1 (of_decide_eq_true h)]; exact evv_c
    · rw [hd2 (of_decide_eq_false h)]; exact evv_c
    show EX K ⟨G, H, none⟩ _ _ [Sl.val v0 (.str wd), Sl.val v1 (.lst aa), Sl.val v2 (.bl nn), Sl.val (.ref f) (.op (.ref f)), Sl.un] _
    have ar : ∀ {i : Nat} {x : D}, aa[i]? = some x → EV K ⟨G, H, none⟩ (tAr K i) [Sl.val v0 (.str wd), Sl.val v1 (.lst aa), Sl.val v2 (.bl nn), Sl.val (.ref f) (.op (.ref f)), Sl.un] x := fun h => ev_op (ev_var rfl) ev_int (op_ix (.inr rfl) (atI_natD h))
    rcases hk with ⟨r, hr, hF⟩ | ⟨vs, as, cl, nm, u, z, rfl, hl, hl', hE, hN, hm, hF⟩
    · refine ex_tryA (tb := tbA K T res f) (PX := fun _ _ _ _ => False) (fun W => ?_) fun _ _ _ _ h => h.elim
      obtain ⟨a0, a1, rfl⟩ : ∃ a0 a1, aa = [a0, a1] := by
        match aa, hr with
        | [a0, a1], _ => exact ⟨a0, a1, rfl⟩
      exact ex_retF (ef_if (et_B (ev_var rfl)) (fun _ => ef_callVKF rfl (ea_cons (ar (i := 1) rfl) (ea_cons (ar (i := 0) rfl) ea_nil)) swap2 hr) fun _ => ef_callVF rfl (ea_cons (ar (i := 0) rfl) (ea_cons (ar (i := 1) rfl) ea_nil)) hr) fun v u hf => hF u hf
    · obtain ⟨u0, u1, rfl⟩ := two_len hl
      obtain ⟨a0, a1, rfl⟩ := two_len hl'
      have hv : ∀ σ G' H', Good K ⟨G, H, none⟩ σ [Sl.val v0 (.str wd), Sl.val v1 (.lst (List.zipWith D.idn [u0, u1] [a0, a1])), Sl.val v2 (.bl nn), Sl.val (.ref f) (.op (.ref f)), Sl.un] G' H' → Dat K G' u (.idn u z) := fun σ G' H' g => by
        obtain ⟨o, _, rfl, dv⟩ := g.sl.get (i := 1) (s := .val v1 (.lst (List.zipWith D.idn [u0, u1] [a0, a1]))) rfl
        obtain ⟨a, xs, rfl, ha, hx⟩ := dv.lstV
        obtain ⟨i, hi⟩ := List.mem_iff_getElem?.mp hm
        obtain ⟨y, hy, dz⟩ := hx.get hi
        obtain ⟨rfl, _⟩ := dz.idnV
        exact dz
      refine ex_tryA (tb := tbA K T res f) (PX := fun c f' u' e' => c = cl ∧ f' = "given" ∧ u' = u ∧ e' = [Sl.val v0 (.str wd), Sl.val v1 (.lst (List.zipWith D.idn [u0, u1] [a0, a1])), Sl.val v2 (.bl nn), Sl.val (.ref f) (.op (.ref f)), Sl.un]) (fun W => ?_) fun c f' u' e' h => ?_
      · refine ex_rsRet (rs_lst (ra_next ev_str (ra_here (rs_if (et_B (ev_var rfl)) (fun _ => ?_) fun _ => ?_)))) ⟨rfl, rfl, rfl, rfl⟩
        · exact rs_callVKF (vs' := [u0, u1]) (ds' := [a0, a1]) rfl (eav_cons (evv_idn (ar (i := 1) rfl)) (eav_cons (evv_idn (ar (i := 0) rfl)) eav_nil)) (fun G h => swap2 G _ h) rfl hE
        · exact rs_callVF rfl (eav_cons (evv_idn (ar (i := 0) rfl)) (eav_cons (evv_idn (ar (i := 1) rfl)) eav_nil)) hE
      · obtain ⟨rfl, rfl, rfl, rfl⟩ := h
        exact wh2 hN (by show 4 < 5; decide) hv fun w => hF
theorem fn_un {CX : CXT} {k : Nat} {f : Addr} {fd : FuncData} {ps : List Str} {ι : Type} {S : List ι} {R : ι → Hp → List D → (D → Prop) → Prop} {R' : Hp → List D → (D → Prop) → Prop} (hs : ∀ H ds F, R' H ds F → ∃ p ∈ S, R p H ds F)
    (h : ∀ p ∈ S, FnOk P w K mg base CX k f fd ps (spR K (R p))) : FnOk P w K mg base CX k f fd ps (spR K R') :=
  have sp : ∀ {vs H Q E}, spR K R' vs H Q E → ∃ p ∈ S, spR K (R p) vs H Q E := fun {vs H Q E} h => by
    obtain ⟨G, ds, F, e, hd, hR, q⟩ := h
    obtain ⟨p, hp, hR⟩ := hs _ _ _ hR
    exact ⟨p, hp, G, ds, F, e, hd, hR, q⟩
  ⟨fun vs H Q E z => by obtain ⟨p, hp, z⟩ := sp z; exact (h p hp).len vs H Q E z,
   fun A outer s H args us vs Q E hr he hb hv z => by obtain ⟨p, hp, z⟩ := sp z; exact (h p hp).run A outer s H args us vs Q E hr he hb hv z⟩
theorem ok_law_asked (T : Tx K mg) : FnOk P w K mg base CX0 10 T.f_law_asked T.d_law_asked p_law_asked (spR K (R_law_asked T)) := by
  refine fn_un (S := [(("lot" : Str), lotD), ("words", wrdD)]) (R := fun p => R_ask T p.1 p.2) (fun H ds F h => ?_) fun p hp => ?_
  · match ds, h with
    | [a, b, c], h =>
    obtain ⟨w', aa, nn, h1, h2, h3, hk⟩ := h
    rcases hk with ⟨r, ⟨rfl, hr⟩ | ⟨rfl, hr⟩, hF⟩ | ⟨vs, as, cl, nm, u, z, h4, ⟨rfl | rfl, hE⟩, h5⟩
    · exact ⟨("lot", lotD), List.mem_cons_self, aa, nn, h1, h2, h3, .inl ⟨r, hr, hF⟩⟩
    · exact ⟨("words", wrdD), List.mem_cons_of_mem _ List.mem_cons_self, aa, nn, h1, h2, h3, .inl ⟨r, hr, hF⟩⟩
    · exact ⟨("lot", lotD), List.mem_cons_self, aa, nn, h1, h2, h3, .inr ⟨vs, as, cl, nm, u, z, h4, hE.1, hE.2.1, hE.2.2, h5⟩⟩
    · exact ⟨("words", wrdD), List.mem_cons_of_mem _ List.mem_cons_self, aa, nn, h1, h2, h3, .inr ⟨vs, as, cl, nm, u, z, h4, hE.1, hE.2.1, hE.2.2, h5⟩⟩
  · rcases List.mem_cons.mp hp with rfl | hp
    · exact ok_asked_step T _ _ _ _ (ok_generated T) T.F_generated.kp T.b_generated T.kb_generated (fun _ => rfl) fun h => absurd rfl h
    · obtain rfl := List.mem_singleton.mp hp
      exact ok_asked_step T _ _ _ _ (ok_words_for T) T.F_words_for.kp T.b_words_for T.kb_words_for (fun h => absurd h (by decide)) fun _ => rfl

end
end Kx


set_option Elab.async false
set_option linter.all false
set_option maxRecDepth 100000
set_option maxHeartbeats 2000000
namespace Kx
open PySem PySem.Spec PyProof.Rows L2 DL
section
variable {P : Program} {w : World} {K : PySem.W.Frag} {mg : Str → Option Value} {base : Heap}
def cellF (ns : List Int) (k : Nat) : Int := if h : k < ns.length then ns[k] else 6113 * k + (ns.take 1).sum % 1000033
def spCellL (K : PySem.W.Frag) : Sp := fun vs H Q _ => ∃ (a : Addr) (ns : List Int) (k : Nat), vs = [.ref a, .int k] ∧ SqL K H a (ns.map V.int) ∧ ∀ H', Ex H H' → Q (.int (cellF ns k)) H'
theorem ok_law_cell (T : Tx K mg) : FnOk P w K mg base CX0 1 T.f_law_cell T.d_law_cell p_law_cell (spCellL K) := by
  refine T.F_law_cell.ok sc_law_cell (fun vs H Q E h => ?_) (fun cdv A outer s H vs Q E hr h => ?_)
  · obtain ⟨_, _, _, rfl, _⟩ := h; rfl
  · refine ⟨_, (pss_one (ps_ret (pe_ifExp (pt_cmpR op_lt (pv 1) (pe_callB (call_lenK K) (by rfl) T.m_len (by decide +kernel) (pa_cons (pv 0) pa_nil)) (nomark _)) (pe_ix (ix_seqK K) (pv 0) (pv 1) (fun _ _ => rfl)) (pe_op op_add (pe_op op_mul pe_int (pv 1)) (pe_op op_mod (pe_callTy call_int1 (by rfl) T.m_int (by decide +kernel) (pa_cons (pe_callB (cr_sum rfl) (by rfl) T.m_sum (by decide +kernel) (pa_cons (pe_slice (sl_listK K) (pv 0) po_none (po_some pe_int)) pa_nil)) pa_nil)) pe_int))))), ?_⟩
    obtain ⟨a, ns, k, rfl, hS, q⟩ := h
    refine ⟨_, rfl, _, rfl, .ref a, (ns.map V.int).length, rfl, .inl ⟨_, hS, rfl⟩, k, ((ns.map V.int).length : Nat), rfl, rfl, _, rfl, ?_⟩
    show if decide ((k : Int) < (((ns.map V.int).length : Nat) : Int)) = true then _ else _
    by_cases hk : k < ns.length
    · rw [if_pos (decide_eq_true (by rw [List.length_map]; omega))]
      refine ⟨_, rfl, _, rfl, .inl ⟨a, _, _, _, rfl, rfl, hS, atI_nat (v := .int ns[k]) (by rw [List.getElem?_map, List.getElem?_eq_getElem hk]; rfl), ?_⟩⟩
      have := q H (.refl H)
      unfold cellF at this
      rw [dif_pos hk] at this
      exact this
    · rw [if_neg (fun z => by have := of_decide_eq_true z; rw [List.length_map] at this; omega)]
      refine ⟨.int k, rfl, 6113, k, rfl, rfl, .inl ⟨by decide, by decide⟩, .ref a, rfl, ?_⟩
      refine ⟨1, rfl, a, _, rfl, hS, fun p hp => ⟨p, ns.take 1, rfl, .inl (.inl ?_), .inl ⟨_, rfl, _, _, rfl, rfl, (show (0 : Int) < 1000033 by decide), _, _, rfl, rfl, ?_⟩⟩⟩
      · rw [upd_same]
        have hc : cutV (ns.map V.int) none (some 1) = (ns.take 1).map V.int := by
          cases ns with
          | nil => rfl
          | cons x r => simp [cutV, HT.sIx]
        rw [hc]
      · have := q (upd H p (.lst (cutV (ns.map V.int) none (some 1)))) (.new hp)
        unfold cellF at this
        rw [dif_neg hk] at this
        exact this
def R_law_box : List D → List D → Prop
  | [x], es => ∃ g : Int, x = .int g ∧ es = [.int (if g < 0 then -g else g), .bl (decide ((10 : Int) ^ 18 ≤ if g < 0 then -g else g)), .int ((if g < 0 then -g else g) % 2147483629), .int 0]
  | _, _ => False
theorem ok_law_box (T : Tx K mg) : FnOk P w K mg base CX0 1 T.f_law_box T.d_law_box p_law_box (spN K R_law_box) := by
  refine T.F_law_box.ok sc_law_box (fun vs H Q E h => ?_) (fun cdv A outer s H vs Q E hr h => ?_)
  · obtain ⟨G, ds, d, e, hd, hR, q⟩ := h
    rw [hd.length]
    match ds, hR with
    | [_], _ => rfl
  · refine ⟨_, (pss_one (ps_ret (pe_lst (pa_cons (pe_callB call_abs (by rfl) T.m_abs (by decide +kernel) (pa_cons (pv 0) pa_nil)) (pa_cons (pe_cmpR op_ge (pe_callB call_abs (by rfl) T.m_abs (by decide +kernel) (pa_cons (pv 0) pa_nil)) (pe_op op_pow pe_int pe_int) (nomark _)) (pa_cons (pe_op op_mod (pe_callTy call_int1 (by rfl) T.m_int (by decide +kernel) (pa_cons (pe_callB call_abs (by rfl) T.m_abs (by decide +kernel) (pa_cons (pv 0) pa_nil)) pa_nil)) pe_int) (pa_cons pe_int pa_nil))))))), ?_⟩
    obtain ⟨G, ds, es, e, hd, hR, q⟩ := h
    have hl : ∃ x0, ds = [x0] := by
      match ds, hR with
      | [x0], _ => exact ⟨x0, rfl⟩
    obtain ⟨x0, rfl⟩ := hl
    cases hd with
    | @cons v0 vs0 _ _ dv0 hd =>
    cases hd
    have g0 : Good K ⟨G, H, none⟩ _ [Sl.val v0 x0] G H := good_start e ((.cons dv0 .nil)) n_law_box
    obtain ⟨g, rfl, rfl⟩ := hR
    exact ret_new g0 (ea_cons (ev_cb (ea_cons (ev_var rfl) ea_nil) cb_abs) (ea_cons (ev_op (ev_cb (ea_cons (ev_var rfl) ea_nil) cb_abs) (ev_op ev_int ev_int (op_powI ⟨by decide, by decide, by decide⟩)) op_geI) (ea_cons (ev_op (ev_cb (ea_cons (ev_cb (ea_cons (ev_var rfl) ea_nil) cb_abs) ea_nil) cb_int) ev_int (op_modI (by decide))) (ea_cons ev_int ea_nil)))) (sz 4) rfl q
def R_law_take : List D → (D → Prop) → Prop
  | [x], Pd => ∃ m : Nat, x = .int m ∧ 1 ≤ m ∧ m < 1073741824 ∧ ∀ i : Nat, i < m → Pd (.int i)
  | _, _ => False
theorem ok_law_take (T : Tx K mg) : FnOk P w K mg base CX0 1 T.f_law_take T.d_law_take p_law_take (spB K 1 R_law_take) := by
  refine T.F_law_take.ok sc_law_take (fun vs H Q E h => ?_) (fun cdv A outer s H vs Q E hr h => ?_)
  · obtain ⟨G, b, n, xs, bs, ws, ds, Pd, rfl, hG, hH, hx, hbx, hn, e, hd, hR, q⟩ := h
    rw [List.length_cons, hd.length]
    match ds, hR with
    | [_], _ => rfl
  · refine ⟨_, (pss_cons (ps_if (PW.pt (pw_and (pt_val (pe_ix (ix_listK K) (pv 0) pe_int (fun _ _ => rfl))) (pw_and1 (pt_cmpR op_gt (pe_ix (ix_listK K) (pv 0) pe_int (fun _ _ => rfl)) pe_int (nomark _))))) (pss_cons (ps_set (i := 2) sc_law_take.nd rfl (.inl rfl) (pe_op op_mod (pe_callTy call_int1 (by rfl) T.m_int (by decide +kernel) (pa_cons (pe_ix (ix_listK K) (pv 0) pe_int (fun _ _ => rfl)) pa_nil)) (pv 1)))
      (pss_cons (ps_asg (pe_op op_fdiv (pe_ix (ix_listK K) (pv 0) pe_int (fun _ _ => rfl)) (pv 1)) (pg_sub (pv 0) pe_int set_list))
      (pss_one (ps_ret (pv 2))))) pss_nil)
      (pss_cons (ps_asg (pe_op op_add (pe_ix (ix_listK K) (pv 0) pe_int (fun _ _ => rfl)) pe_int) (pg_sub (pv 0) pe_int set_list))
      (pss_cons (ps_set (i := 3) sc_law_take.nd rfl (.inl rfl) (pe_op op_mod (pe_callTy call_int1 (by rfl) T.m_int (by decide +kernel) (pa_cons (pe_op op_pow (pe_op op_add (pe_op op_add (pe_ix (ix_listK K) (pv 0) pe_int (fun _ _ => rfl)) (pe_op op_mul pe_int (pe_ix (ix_listK K) (pv 0) pe_int (fun _ _ => rfl)))) pe_int) pe_int) pa_nil)) pe_int))
      (pss_one (ps_ret (pe_op op_mod (pe_callTy call_int1 (by rfl) T.m_int (by decide +kernel) (pa_cons (pe_op op_fdiv (pe_op op_mod (pe_callTy call_int1 (by rfl) T.m_int (by decide +kernel) (pa_cons (pe_op op_pow (pe_op op_add (pe_op op_mul (pv 3) pe_int) (pe_op op_mul pe_int (pe_ix (ix_listK K) (pv 0) pe_int (fun _ _ => rfl)))) pe_int) pa_nil)) pe_int) pe_int) pa_nil)) (pv 1))))))), ?_⟩
    obtain ⟨G, b, n, xs, bs, ws, ds, Pd, rfl, hG, hH, hx, hbx, hn, e, hd, hR, q⟩ := h
    have hl : ∃ x1, ds = [x1] := by
      match ds, hR with
      | [x1], _ => exact ⟨x1, rfl⟩
    obtain ⟨x1, rfl⟩ := hl
    cases hd with
    | @cons v1 vs0 _ _ dv1 hd =>
    cases hd
    refine EX.finB (W := fun _ _ _ _ => False) (k := 1) (n := n) (env := [Sl.own b bs, Sl.val v1 x1, Sl.un, Sl.un]) rfl (good_box e hG hH hx ((.cons dv1 .nil)) n_law_take) q ?_
    obtain ⟨m, rfl, m1, m2, hP⟩ := hR
    obtain ⟨g, f, s, c, rfl, g0, s0, s1, c0, c1⟩ := hbx
    have tst : EVT K ⟨G, H, some b⟩ (tAnd (tB (tOp (rIxL K) (tVar 0) (tC (.int 1)))) (tTest (tOp (rI0 fun i j => .bl (decide (j < i))) (tOp (rIxL K) (tVar 0) (tC (.int 0))) (tC (.int 0))))) [Sl.own b [.int g, .bl f, .int s, .int c], Sl.val v1 (.int m), Sl.un, Sl.un] (f && decide (0 < g)) :=
      et_and (et_B (ev_ixOwn rfl ev_int rfl)) fun _ => et_test (ev_op (ev_ixOwn rfl ev_int rfl) ev_int op_gtI)
    refine ex_when tst (fun h => ?_) fun _ => ?_
    · obtain ⟨hf, hg⟩ := Bool.and_eq_true_iff.mp h
      have hg' := of_decide_eq_true hg
      refine ex_let (ev_op (ev_cb (ea_cons (ev_ixOwn rfl ev_int rfl) ea_nil) cb_int) (ev_var rfl) (op_modI (by omega))) fun u => ?_
      refine ex_cons (ex_setOwn (kk := 0) (j := 0) rfl (ev_op (ev_ixOwn rfl ev_int rfl) (ev_var rfl) (op_fdivI (by omega))) ev_int rfl rfl) ?_
      refine ex_ret (ev_var rfl) fun v => ⟨?_, _, ⟨g / m, f, s, c, rfl, Int.ediv_nonneg g0 (by omega), s0, s1, c0, by omega⟩, rfl⟩
      have h1 := Int.emod_nonneg g (show (m : Int) ≠ 0 by omega)
      have h2 := Int.emod_lt_of_pos g (show (0 : Int) < m by omega)
      rw [show g % (m : Int) = ((g % (m : Int)).toNat : Int) by omega]
      exact hP _ (by omega)
    · refine ex_cons (ex_setOwn (kk := 3) (j := 3) rfl (ev_op (ev_ixOwn rfl ev_int rfl) ev_int op_addI) ev_int rfl rfl) ?_
      refine ex_let (ev_op (ev_cb (ea_cons (ev_op (ev_op (ev_op (ev_ixOwn rfl ev_int rfl) (ev_op ev_int (ev_ixOwn rfl ev_int rfl) (op_mulI (.inl ⟨by decide, by decide⟩))) op_addI) ev_int op_addI) ev_int (op_powI ⟨by decide, by decide, by omega⟩)) ea_nil) cb_int) ev_int (op_modI (by decide))) fun u => ?_
      have r1 := Int.emod_nonneg ((s + 15485917 * (c + 1) + 179424691) ^ (5 : Int).toNat) (show (2147483647 : Int) ≠ 0 by decide)
      have r2 := Int.emod_lt_of_pos ((s + 15485917 * (c + 1) + 179424691) ^ (5 : Int).toNat) (show (0 : Int) < 2147483647 by decide)
      generalize (s + 15485917 * (c + 1) + 179424691) ^ (5 : Int).toNat % 2147483647 = r at r1 r2
      refine ex_ret (ev_op (ev_cb (ea_cons (ev_op (ev_op (ev_cb (ea_cons (ev_op (ev_op (ev_op (ev_var rfl) ev_int (op_mulI (.inr ⟨by decide, by decide⟩))) (ev_op ev_int (ev_ixOwn rfl ev_int rfl) (op_mulI (.inl ⟨by decide, by decide⟩))) op_addI) ev_int (op_powI ⟨by decide, by decide, by omega⟩)) ea_nil) cb_int) ev_int (op_modI (by decide))) ev_int (op_fdivI (by decide))) ea_nil) cb_int) (ev_var rfl) (op_modI (by omega))) fun v => ⟨?_, _, ⟨g, f, s, c + 1, rfl, g0, s0, s1, by omega, by omega⟩, rfl⟩
      generalize ((r * 48271 + 104761 * (c + 1)) ^ (3 : Int).toNat % 2147483587 / 64) = t
      have h1 := Int.emod_nonneg t (show (m : Int) ≠ 0 by omega)
      have h2 := Int.emod_lt_of_pos t (show (0 : Int) < m by omega)
      rw [show t % (m : Int) = ((t % (m : Int)).toNat : Int) by omega]
      exact hP _ (by omega)

theorem take_ok {m : Nat} (h1 : 1 ≤ m) (h2 : m < 1073741824) : R_law_take [.int m] (fun d => ∃ t : Nat, t < m ∧ d = .int t) := ⟨m, rfl, h1, h2, fun i hi => ⟨i, hi, rfl⟩⟩
theorem ne_box {K : PySem.W.Frag} {G H : Hp} {b a : Addr} {bs ds : List D} {env : Env'} {i : Nat} (h0 : env[0]? = some (.own b bs)) (hi : env[i + 1]? = some (.own a ds)) : ∀ σ G' H', Good K ⟨G, H, some b⟩ σ env G' H' → (⟨G, H, some b⟩ : Bas).bx ≠ some a := fun σ G' H' g z => by
  have hbp : b = a := Option.some.inj z
  cases env with
  | nil => cases h0
  | cons s env =>
    have e : s = .own b bs := Option.some.inj h0
    subst e
    have nd : (b :: owns env).Nodup := g.nd
    exact (List.nodup_cons.mp nd).1 (by rw [hbp]; exact owns_own (env := env) (i := i) hi)
theorem perm_erase : ∀ (l : List Nat) (t : Nat) (h : t < l.length), (l[t] :: l.eraseIdx t).Perm l
  | [], _, h => absurd h (Nat.not_lt_zero _)
  | a :: l, 0, _ => .refl _
  | a :: l, t + 1, h => by
    have h' : t < l.length := Nat.lt_of_succ_lt_succ h
    have := perm_erase l t h'
    exact (List.Perm.swap a l[t] (l.eraseIdx t)).trans (.cons a this)
theorem lstN_erase : ∀ (l : List Nat) (t : Nat), (lstN l).eraseIdx t = lstN (l.eraseIdx t)
  | [], _ => rfl
  | _ :: _, 0 => rfl
  | a :: l, t + 1 => by
    show D.int (a : Nat) :: (lstN l).eraseIdx t = D.int (a : Nat) :: lstN (l.eraseIdx t)
    rw [lstN_erase l t]
def R_law_mixed : List D → (D → Prop) → Prop
  | [items], Pd => ∃ ms : List Nat, items = .lst (lstN ms) ∧ ms.length ≤ 10 ∧ ∀ ns : List Nat, ns.Perm ms → Pd (.lst (lstN ns))
  | _, _ => False
theorem ok_law_mixed (T : Tx K mg) : FnOk P w K mg base CX0 2 T.f_law_mixed T.d_law_mixed p_law_mixed (spB K 10 R_law_mixed) := by
  refine T.F_law_mixed.ok sc_law_mixed (fun vs H Q E h => ?_) (fun cdv A outer s H vs Q E hr h => ?_)
  · obtain ⟨G, b, n, xs, bs, ws, ds, Pd, rfl, hG, hH, hx, hbx, hn, e, hd, hR, q⟩ := h
    rw [List.length_cons, hd.length]
    match ds, hR with
    | [_], _ => rfl
  · refine ⟨_, (pss_cons (ps_par (i := 2) (j := 3) rfl sc_law_mixed.nd rfl rfl (by decide) rfl rfl (pa_cons (pe_callTy (call_list_ofK K) (by rfl) T.m_list (by decide +kernel) (pa_cons (pv 1) pa_nil)) (pa_cons (pe_lst pa_nil) pa_nil)) (by rfl))
      (pss_cons (ps_for PassesOwn.never rfl (pi_range1 (by rfl) T.m_range (pa_cons (pe_callB (call_lenK K) (by rfl) T.m_len (by decide +kernel) (pa_cons (pv 1) pa_nil)) pa_nil)) (pg_name (i := 4) sc_law_mixed.nd rfl (.inl rfl))
      (pss_one (ps_expr (pe_bmK K PySem.F.plainAttrs_list PySem.F.slot_list_append PySem.F.type_list_append mt_append (pv 3) (pa_cons (pe_bmK K PySem.F.plainAttrs_list PySem.F.slot_list_pop PySem.F.type_list_pop mt_popAt (pv 2) (pa_cons (pe_call (ok_law_take T) (hr.mono (by omega)) (by rfl) T.g_law_take T.F_law_take.kp T.b_law_take .nil pass0 (pa_cons (pv 0) (pa_cons (pe_callB (call_lenK K) (by rfl) T.m_len (by decide +kernel) (pa_cons (pv 2) pa_nil)) pa_nil))) pa_nil)) pa_nil)))))
      (pss_one (ps_ret (pv 3))))), ?_⟩
    obtain ⟨G, b, n, xs, bs, ws, ds, Pd, rfl, hG, hH, hx, hbx, hn, e, hd, hR, q⟩ := h
    have hl : ∃ x1, ds = [x1] := by
      match ds, hR with
      | [x1], _ => exact ⟨x1, rfl⟩
    obtain ⟨x1, rfl⟩ := hl
    cases hd with
    | @cons v1 vs0 _ _ dv1 hd =>
    cases hd
    refine EX.finB (W := fun _ _ _ _ => False) (k := 10) (n := n) (env := [Sl.own b bs, Sl.val v1 x1, Sl.un, Sl.un, Sl.un]) rfl (good_box e hG hH hx ((.cons dv1 .nil)) n_law_mixed) q ?_
    obtain ⟨ms, rfl, h10, hP⟩ := hR
    refine ex_seq (N := fun e => ∃ p r, e = [Sl.own b bs, Sl.val v1 (.lst (lstN ms)), Sl.own p (lstN ms), Sl.own r [], Sl.un]) (ex_parNew2 (by decide) (ev_var rfl) fun p r => ⟨p, r, rfl⟩) fun env' ⟨p, r, he⟩ => ?_
    subst he
    refine ex_forRS (n := ms.length) (fun i e => ∃ bs' l fd s, BoxD (n + i) bs' ∧ l.length + i = ms.length ∧ (fd ++ l).Perm ms ∧ e = [Sl.own b bs', Sl.val v1 (.lst (lstN ms)), Sl.own p (lstN l), Sl.own r (lstN fd), s])
      (ev_is (ev_cb (ea_cons (ev_var rfl) ea_nil) cb_lenL) (by rw [lstN_len])) (by omega) ⟨bs, ms, [], _, hbx, rfl, .refl _, rfl⟩ ?_ ?_
    · rintro i env' vt hi ⟨bs', l, fd, s, hB, hl, hp, rfl⟩
      refine ex_appX (P1 := fun v d e => ∃ bs2 l2 y, BoxD (n + (i + 1)) bs2 ∧ l2.length + (i + 1) = ms.length ∧ (fd ++ [y] ++ l2).Perm ms ∧ d = .int (y : Nat) ∧ e = [Sl.own b bs2, Sl.val v1 (.lst (lstN ms)), Sl.own p (lstN l2), Sl.own r (lstN fd), Sl.val vt (.int i)]) ⟨r, lstN fd, rfl⟩ ?_ ?_
      · refine xe_popAt ⟨p, lstN l, rfl⟩ (xe_callB rfl hB (by omega) (ea_cons (ev_lenOwn rfl) ea_nil) (take_ok (m := (lstN l).length) (by rw [lstN_len]; omega) (by rw [lstN_len]; omega))) fun v d e h => ?_
        obtain ⟨⟨t, ht, rfl⟩, bs2, hB2, rfl⟩ := h
        rw [lstN_len] at ht
        refine ⟨p, lstN l, t, .int (l[t] : Nat), rfl, rfl, lstN_get (List.getElem?_eq_getElem ht), by omega, fun u => ⟨bs2, l.eraseIdx t, l[t], by rw [← Nat.add_assoc]; exact hB2, by rw [List.length_eraseIdx_of_lt ht]; omega, ?_, rfl, ?_⟩⟩
        · refine List.Perm.trans ?_ hp
          rw [List.append_assoc]
          exact List.Perm.append_left fd (perm_erase l t ht)
        · rw [lstN_erase]
          rfl
      · rintro v d e ⟨bs2, l2, y, hB2, hl2, hp2, rfl, rfl⟩
        refine ⟨r, lstN fd, rfl, ?_, bs2, l2, fd ++ [y], _, hB2, hl2, hp2, by rw [lstN_app]; rfl⟩
        have := hp2.length_eq
        simp only [List.length_append, List.length_cons, List.length_nil] at this
        rw [lstN_len, sizeLine_eq]
        omega
    · rintro env' ⟨bs', l, fd, s, hB, hl, hp, rfl⟩
      have : l = [] := List.eq_nil_of_length_eq_zero (by omega)
      subst this
      rw [List.append_nil] at hp
      refine ex_retOwn (i := 3) rfl (ne_box (i := 2) rfl rfl) fun v => ⟨hP _ hp, bs', hB.mono (by omega), rfl⟩

end
end Kx


set_option Elab.async false
set_option linter.all false
set_option maxRecDepth 100000
set_option maxHeartbeats 2000000
namespace Kx
open PySem PySem.Spec PyProof.Rows L2 DL
section
variable {P : Program} {w : World} {K : PySem.W.Frag} {mg : Str → Option Value} {base : Heap}
def R_law_followed : List D → D → Prop
  | [o, q], d => ∃ a b : List Nat, o = tupN a ∧ q = tupN b ∧ (∀ i ∈ a, i < b.length) ∧ a.length ≤ 1000 ∧ d = tupN (MP.comp a b)
  | _, _ => False
theorem tupN_get {b : List Nat} {i : Nat} (h : i < b.length) : (b.map fun (i : Nat) => D.int (i : Nat))[i]? = some (.int (b.getD i 0 : Nat)) := by
  rw [List.getElem?_map, List.getElem?_eq_getElem h, List.getD_eq_getElem?_getD, List.getElem?_eq_getElem h]
  rfl
theorem ok_law_followed (T : Tx K mg) : FnOk P w K mg base CX0 1 T.f_law_followed T.d_law_followed p_law_followed (spD K R_law_followed) := by
  refine T.F_law_followed.ok sc_law_followed (fun vs H Q E h => ?_) (fun cdv A outer s H vs Q E hr h => ?_)
  · obtain ⟨G, ds, d, e, hd, hR, q⟩ := h
    rw [hd.length]
    match ds, hR with
    | [_, _], _ => rfl
  · refine ⟨_, (pss_one (ps_ret (pe_tupleOfK K (by rfl) T.m_tuple (pe_lc (own := [("point", 2)]) rfl sc_law_followed.nd (pi_tupK K (pv 0)) (blkOk_by (by rfl)) (fun _ _ _ _ _ => pg_name (i := 2) sc_law_followed.nd rfl (by first | exact .inl rfl | exact .inr rfl)) (fun _ _ _ _ _ => pts_nil) (fun _ _ _ _ _ => (pe_ix (ix_seqK K) (pv 1) (pv 2) (fun _ _ => rfl))))))), ?_⟩
    obtain ⟨G, ds, d, e, hd, hR, q⟩ := h
    have hl : ∃ x0 x1, ds = [x0, x1] := by
      match ds, hR with
      | [x0, x1], _ => exact ⟨x0, x1, rfl⟩
    obtain ⟨x0, x1, rfl⟩ := hl
    cases hd with
    | @cons v0 vs0 _ _ dv0 hd =>
    cases hd with
    | @cons v1 vs1 _ _ dv1 hd =>
    cases hd
    refine EX.fin (W := fun _ _ _ _ => False) (good_start e ((.cons dv0 (.cons dv1 .nil))) n_law_followed) q ?_
    show EX K ⟨G, H, none⟩ _ _ [Sl.val v0 x0, Sl.val v1 x1, Sl.un] _
    obtain ⟨a, b, rfl, rfl, h1, h2, rfl⟩ := hR
    have hlc := ev_lcS (K := K) (β := ⟨G, H, none⟩) (wi := iTup K (tVar 0)) (env := [Sl.val v0 (tupN a), Sl.val v1 (tupN b), Sl.un]) (ds := a.map fun (i : Nat) => D.int (i : Nat)) (F := fun d => .int (b.getD (natD d) 0 : Nat)) (te := tOp (rIx K) (tVar 1) (tVar 2)) (vs := [2]) (j := 2) (ei_tup (ev_var rfl)) (by rw [List.length_map, sizeLine_eq]; omega) (by decide)
      (fun d v hd => by
        obtain ⟨i, hi, rfl⟩ := List.mem_map.mp hd
        exact ev_op (ev_var rfl) (ev_var rfl) (op_ix (.inl rfl) (atI_natD (tupN_get (h1 i hi)))))
    refine ex_ret (ev_is (ev_then hlc un_tupL) ?_) fun v => rfl
    unfold tupN MP.comp
    rw [List.map_map, List.map_map]
    rfl
theorem idxOf_first : ∀ (L : List (List Nat)) (a : List Nat) (m : Nat), m < L.idxOf a → L[m]? ≠ some a
  | [], a, m, h => by simp at h
  | b :: L, a, m, h => by
    by_cases e : b = a
    · subst e; rw [List.idxOf_cons_self] at h; exact absurd h (Nat.not_lt_zero _)
    · rw [List.idxOf_cons, show (b == a) = false from beq_eq_false_iff_ne.mpr e] at h
      have h : m < L.idxOf a + 1 := h
      cases m with
      | zero => intro z; exact e (Option.some.inj z)
      | succ m => exact idxOf_first L a m (Nat.lt_of_succ_lt_succ h)
theorem dd_mem {α : Type} [DecidableEq α] : ∀ (ms acc : List α) (y : α), y ∈ dd acc ms ↔ y ∈ acc ∨ y ∈ ms
  | [], acc, y => by simp [dd]
  | m :: ms, acc, y => by
    unfold dd
    rw [dd_mem ms]
    by_cases h : m ∈ acc
    · rw [if_pos h]
      constructor
      · rintro (q | q)
        · exact .inl q
        · exact .inr (List.mem_cons_of_mem _ q)
      · rintro (q | q)
        · exact .inl q
        · rcases List.mem_cons.mp q with rfl | q
          · exact .inl h
          · exact .inr q
    · rw [if_neg h]
      simp only [List.mem_append, List.mem_cons, List.not_mem_nil, or_false]
      constructor
      · rintro ((q | q) | q)
        · exact .inl q
        · exact .inr (.inl q)
        · exact .inr (.inr q)
      · rintro (q | q | q)
        · exact .inl (.inl q)
        · exact .inl (.inr q)
        · exact .inr q
theorem dd_len {α : Type} [DecidableEq α] : ∀ (ms acc : List α), (dd acc ms).length ≤ acc.length + ms.length
  | [], acc => Nat.le_refl _
  | m :: ms, acc => by
    unfold dd
    refine Nat.le_trans (dd_len ms _) ?_
    split
    · simp only [List.length_cons]; omega
    · simp only [List.length_append, List.length_cons, List.length_nil]; omega
theorem inv0 {p : Nat} {ms : List (List Nat)} (hm : ∀ m ∈ ms, MP.Mv p m) : MP.Inv p ms (dd [] ms) 0 :=
  ⟨hm, fun m h => (dd_mem ms [] m).mpr (.inr h), fun y h => .base (((dd_mem ms [] y).mp h).resolve_left fun z => nomatch z), fun i _ h => absurd h (Nat.not_lt_zero _)⟩
theorem dd_ne {ms : List (List Nat)} (h : ms ≠ []) : dd [] ms ≠ [] := fun e => by
  cases ms with
  | nil => exact h rfl
  | cons m ms =>
    have := (dd_mem (m :: ms) [] m).mpr (.inr List.mem_cons_self)
    rw [e] at this
    cases this
theorem stepL_take {ms found : List (List Nat)} {x m : List Nat} {j : Nat} (h : ms[j]? = some m) : MP.stepL (ms.take (j + 1)) x found = MP.addL (MP.stepL (ms.take j) x found) (MP.comp x m) := by
  unfold MP.stepL
  rw [List.take_add_one, h, List.foldl_append]
  rfl
theorem stepL_le {x : List Nat} : ∀ (ms found : List (List Nat)), (MP.stepL ms x found).length ≤ found.length + ms.length
  | [], found => Nat.le_refl _
  | m :: ms, found => by
    show (MP.stepL ms x (MP.addL found (MP.comp x m))).length ≤ _
    refine Nat.le_trans (stepL_le ms _) ?_
    unfold MP.addL
    split
    · simp only [List.length_cons]; omega
    · simp only [List.length_append, List.length_cons, List.length_nil]; omega
theorem mapT_get {L : List (List Nat)} {i : Nat} {x : List Nat} (h : L[i]? = some x) : atI (L.map tupN) (i : Nat) = some (tupN x) := atI_natD (by rw [List.getElem?_map, h]; rfl)
/-- the table of a lot of transformations, or nothing -/
def fmD (ms : List (List Nat)) (most : Nat) : D := match MP.fmL ms most (most + 2) (dd [] ms) 0 with
  | some L => tblD L.length (MP.idxT L)
  | none => .non
def R_law_from_moves : List D → D → Prop
  | [mv, mo], d => ∃ (ms : List (List Nat)) (p most : Nat), mv = .lst (ms.map tupN) ∧ mo = .int (most : Nat) ∧ (∀ m ∈ ms, MP.Mv p m) ∧ ms ≠ [] ∧ ms.length ≤ 10 ∧ p ≤ 10 ∧ most ≤ 100 ∧ d = fmD ms most
  | _, _ => False
theorem ok_law_from_moves (T : Tx K mg) : FnOk P w K mg base CX0 2 T.f_law_from_moves T.d_law_from_moves p_law_from_moves (spD K R_law_from_moves) := by
  refine T.F_law_from_moves.ok sc_law_from_moves (fun vs H Q E h => ?_) (fun cdv A outer s H vs Q E hr h => ?_)
  · obtain ⟨G, ds, d, e, hd, hR, q⟩ := h
    rw [hd.length]
    match ds, hR with
    | [_, _], _ => rfl
  · refine ⟨_, (pss_cons (ps_asg (pe_tup (pa_cons (pe_callTy (call_listDic rfl) (by rfl) T.m_list (by decide +kernel) (pa_cons (pe_callTy (call_dictPTK K rfl (hu65 hr)) (by rfl) T.m_dict (by decide +kernel) (pa_cons (pe_lc (own := [("move", 4)]) rfl sc_law_from_moves.nd (pi_listK K (pv 0)) (blkOk_by (by rfl)) (fun _ _ _ _ _ => pg_name (i := 4) sc_law_from_moves.nd rfl (by first | exact .inl rfl | exact .inr rfl)) (fun _ _ _ _ _ => pts_nil) (fun _ _ _ _ _ => (pe_tup (pa_cons (pv 4) (pa_cons pe_bl pa_nil))))) pa_nil)) pa_nil)) (pa_cons pe_int pa_nil))) (pg_tupK K rfl (pgs_cons (pg_name (i := 2) sc_law_from_moves.nd rfl (.inr rfl)) (pgs_cons (pg_name (i := 3) sc_law_from_moves.nd rfl (.inl rfl)) pgs_nil))))
      (pss_cons (ps_while PassesOwn.never (pt_cmpR op_lt (pv 3) (pe_callB (call_lenK K) (by rfl) T.m_len (by decide +kernel) (pa_cons (pv 2) pa_nil)) (nomark _)) (pss_cons (ps_for PassesOwn.never rfl (pi_listK K (pv 0)) (pg_name (i := 4) sc_law_from_moves.nd rfl (.inl rfl))
      (pss_cons (ps_set (i := 5) sc_law_from_moves.nd rfl (.inl rfl) (pe_call (ok_law_followed T) (hr.mono (by omega)) (by rfl) T.g_law_followed T.F_law_followed.kp T.b_law_followed .nil pass0 (pa_cons (pe_ix (ix_listK K) (pv 2) (pv 3) (fun _ _ => rfl)) (pa_cons (pv 4) pa_nil))))
      (pss_one (ps_if (pt_cmpR (op_notInDK K (hu65 hr)) (pv 5) (pv 2) (by with_unfolding_all rfl)) (pss_one (ps_expr (pe_bmK K PySem.F.plainAttrs_list PySem.F.slot_list_append PySem.F.type_list_append mt_append (pv 2) (pa_cons (pv 5) pa_nil)))) pss_nil))))
      (pss_cons (ps_if (pt_cmpR op_gt (pe_callB (call_lenK K) (by rfl) T.m_len (by decide +kernel) (pa_cons (pv 2) pa_nil)) (pv 1) (nomark _)) (pss_one (ps_ret pe_non)) pss_nil)
      (pss_one (ps_set (i := 3) sc_law_from_moves.nd rfl (.inl rfl) (pe_op op_add (pv 3) pe_int))))))
      (pss_one (ps_ret (pe_tupleOfK K (by rfl) T.m_tuple (pe_lc (own := [("one", 7)]) rfl sc_law_from_moves.nd (pi_listK K (pv 2)) (blkOk_by (by rfl)) (fun _ _ _ _ _ => pg_name (i := 7) sc_law_from_moves.nd rfl (by first | exact .inl rfl | exact .inr rfl)) (fun _ _ _ _ _ => pts_nil) (fun _ _ _ _ _ => (pe_tupleOfK K (by rfl) T.m_tuple (pe_lc (own := [("other", 6)]) rfl sc_law_from_moves.nd (pi_listK K (pv 2)) (blkOk_by (by rfl)) (fun _ _ _ _ _ => pg_name (i := 6) sc_law_from_moves.nd rfl (by first | exact .inl rfl | exact .inr rfl)) (fun _ _ _ _ _ => pts_nil) (fun _ _ _ _ _ => (pe_bmK K PySem.F.plainAttrs_list PySem.F.slot_list_index PySem.F.type_list_index (mt_indexDK K (hu65 hr)) (pv 2) (pa_cons (pe_call (ok_law_followed T) (hr.mono (by omega)) (by rfl) T.g_law_followed T.F_law_followed.kp T.b_law_followed .nil pass0 (pa_cons (pv 7) (pa_cons (pv 6) pa_nil))) pa_nil)))))))))))), ?_⟩
    obtain ⟨G, ds, d, e, hd, hR, q⟩ := h
    have hl : ∃ x0 x1, ds = [x0, x1] := by
      match ds, hR with
      | [x0, x1], _ => exact ⟨x0, x1, rfl⟩
    obtain ⟨x0, x1, rfl⟩ := hl
    cases hd with
    | @cons v0 vs0 _ _ dv0 hd =>
    cases hd with
    | @cons v1 vs1 _ _ dv1 hd =>
    cases hd
    refine EX.fin (W := fun _ _ _ _ => False) (good_start e ((.cons dv0 (.cons dv1 .nil))) n_law_from_moves) q ?_
    show EX K ⟨G, H, none⟩ _ _ [Sl.val v0 x0, Sl.val v1 x1, Sl.un, Sl.un, Sl.un, Sl.un, Sl.un, Sl.un] _
    obtain ⟨ms, p, most, rfl, rfl, hm, hne, hl, hp, hmo, rfl⟩ := hR
    have hlc0 := ev_lcS (K := K) (β := ⟨G, H, none⟩) (wi := iList K (tVar 0)) (env := [Sl.val v0 (.lst (ms.map tupN)), Sl.val v1 (.int most), Sl.un, Sl.un, Sl.un, Sl.un, Sl.un, Sl.un]) (ds := ms.map tupN) (F := fun d => .tup [d, .bl true]) (te := tTup (tCons (tVar 4) (tCons (tC (V.bl true)) tNil))) (vs := [4]) (j := 4) (ei_list (ev_var rfl)) (by rw [List.length_map, sizeLine_eq]; omega) (by decide)
      (fun d v hd => ev_tup (ea_cons (ev_var rfl) (ea_cons ev_bl ea_nil)) (sz 2))
    rw [List.map_map, show ((fun d => D.tup [d, .bl true]) ∘ tupN) = pairT from rfl] at hlc0
    refine ex_asgDic (d2 := .int ((0 : Nat) : Int)) hlc0 ev_int fun r va => ?_
    refine ex_whileS (tt := fun e => decide (slotInt e 3 < slotLen e 2)) (fun e => ∃ k found at' va s4 s5, e = [Sl.val v0 (.lst (ms.map tupN)), Sl.val v1 (.int most), Sl.own r (found.map tupN), Sl.val va (.int (at' : Nat)), s4, s5, Sl.un, Sl.un] ∧
      MP.fmL ms most k found at' = MP.fmL ms most (most + 2) (dd [] ms) 0 ∧ MP.Inv p ms found at' ∧ (at' = 0 ∨ found.length ≤ most) ∧ at' + k = most + 2 ∧ found ≠ [] ∧ at' ≤ found.length ∧ found.length ≤ 110) (fun e => most + 3 - (slotInt e 3).toNat) ?_ ?_ ?_ ?_
    · exact ⟨most + 2, dd [] ms, 0, va, _, _, rfl, rfl, inv0 hm, .inl rfl, by omega, dd_ne hne, Nat.zero_le _, by have := dd_len ms []; simp only [List.length_nil] at this; omega⟩
    · rintro env' ⟨k, found, at', va, s4, s5, rfl, -, -, -, -, -, -, -⟩
      refine et_test (ev_is (ev_op (ev_var rfl) (ev_lenOwn rfl) op_ltI) ?_)
      rfl
    · rintro env' ⟨k, found, at', va, s4, s5, rfl, hf, hI, h0, hk, hne', hle, h110⟩ ht
      have hlt : at' < found.length := by
        have := of_decide_eq_true ht
        have e1 : slotLen [Sl.val v0 (.lst (ms.map tupN)), Sl.val v1 (.int most), Sl.own r (found.map tupN), Sl.val va (.int (at' : Nat)), s4, s5, Sl.un, Sl.un] 2 = found.length := by show (found.map tupN).length = _; rw [List.length_map]
        rw [e1] at this
        have e2 : slotInt [Sl.val v0 (.lst (ms.map tupN)), Sl.val v1 (.int most), Sl.own r (found.map tupN), Sl.val va (.int (at' : Nat)), s4, s5, Sl.un, Sl.un] 3 = (at' : Nat) := rfl
        rw [e2] at this
        omega
      have hx : found[at']? = some found[at'] := List.getElem?_eq_getElem hlt
      generalize found[at'] = x at hx
      obtain ⟨k, rfl⟩ : ∃ k', k = k' + 1 := ⟨k - 1, by rcases h0 with rfl | h0 <;> omega⟩
      have hxm := hI.gen x (List.mem_of_getElem? hx)
      have hxv := hxm.mv hm
      refine ex_forNS (fun j e => ∃ s4 s5, e = [Sl.val v0 (.lst (ms.map tupN)), Sl.val v1 (.int most), Sl.own r ((MP.stepL (ms.take j) x found).map tupN), Sl.val va (.int (at' : Nat)), s4, s5, Sl.un, Sl.un]) (ei_list (ev_var rfl)) ⟨s4, s5, rfl⟩ ?_ ?_
      · rintro j env' vm dm hdm ⟨s4, s5, rfl⟩
        rw [List.getElem?_map] at hdm
        cases hmj : ms[j]? with
        | none => rw [hmj] at hdm; cases hdm
        | some m =>
        rw [hmj] at hdm
        cases hdm
        have hmv := hm m (List.mem_of_getElem? hmj)
        obtain ⟨tl, htl⟩ := MP.stepL_pre (x := x) (ms.take j) found
        have hxs : (MP.stepL (ms.take j) x found)[at']? = some x := by rw [htl, List.getElem?_append_left hlt]; exact hx
        refine ex_let (d := tupN (MP.comp x m)) (ev_call (ea_cons (ev_ixOwn rfl (ev_var rfl) (mapT_get hxs)) (ea_cons (ev_var rfl) ea_nil)) ⟨x, m, rfl, rfl, fun i hi => by rw [hmv.1]; exact hxv.2 i hi, by rw [hxv.1]; omega, rfl⟩) fun vc => ?_
        have hsl := stepL_le (x := x) (ms.take j) found
        rw [List.length_take] at hsl
        refine ex_if (et_test (ev_notInOwn rfl (ev_var rfl))) (fun h => ?_) fun h => ?_
        · have hni : MP.comp x m ∉ MP.stepL (ms.take j) x found := fun z => by rw [decide_eq_true z] at h; cases h
          refine ex_app rfl (ev_var rfl) (by rw [List.length_map, sizeLine_eq]; omega) ⟨Sl.val vm (tupN m), Sl.val vc (tupN (MP.comp x m)), ?_⟩
          rw [stepL_take hmj]
          unfold MP.addL
          rw [if_neg hni, List.map_append]
          rfl
        · have hin : MP.comp x m ∈ MP.stepL (ms.take j) x found := by
            by_cases z : MP.comp x m ∈ MP.stepL (ms.take j) x found
            · exact z
            · rw [decide_eq_false z] at h; cases h
          refine ex_next ⟨Sl.val vm (tupN m), Sl.val vc (tupN (MP.comp x m)), ?_⟩
          rw [stepL_take hmj]
          unfold MP.addL
          rw [if_pos hin]
          rfl
      · rintro env' ⟨s4, s5, rfl⟩
        rw [List.length_map, List.take_length]
        have hsl := stepL_le (x := x) ms found
        have hf' : MP.fmL ms most (k + 1) found at' = if most < (MP.stepL ms x found).length then none else MP.fmL ms most k (MP.stepL ms x found) (at' + 1) := by
          show (match found[at']? with | some x => _ | none => _) = _
          rw [hx]
        refine ex_when (et_test (ev_op (ev_lenOwn rfl) (ev_var rfl) op_gtI)) (fun h => ?_) fun h => ?_
        · refine ex_ret ev_non fun v => ?_
          have := of_decide_eq_true h
          rw [List.length_map] at this
          show D.non = fmD ms most
          unfold fmD
          rw [← hf, hf', if_pos (by omega)]
        · have := of_decide_eq_false h
          rw [List.length_map] at this
          refine ex_asg (d := .int ((at' + 1 : Nat) : Int)) (ev_op (ev_var rfl) ev_int op_addI) fun v => ⟨⟨k, MP.stepL ms x found, at' + 1, v, _, _, rfl, ?_, hI.next hx, .inr (by omega), by omega, ?_, ?_, by omega⟩, ?_⟩
          · rw [← hf, hf', if_neg (by omega)]
          · obtain ⟨tl, htl⟩ := MP.stepL_pre (x := x) ms found
            rw [htl]
            intro e
            exact hne' (List.append_eq_nil_iff.mp e).1
          · obtain ⟨tl, htl⟩ := MP.stepL_pre (x := x) ms found
            rw [htl, List.length_append]
            omega
          · show most + 3 - ((at' + 1 : Nat) : Int).toNat < most + 3 - ((at' : Nat) : Int).toNat
            have : at' ≤ most := by rcases h0 with rfl | h0 <;> omega
            omega
    · rintro env' ⟨k, L, at', va, s4, s5, rfl, hf, hI, h0, hk, hne', hle, h110⟩ ht
      have hge : L.length ≤ at' := by
        have := of_decide_eq_false ht
        have e1 : slotLen [Sl.val v0 (.lst (ms.map tupN)), Sl.val v1 (.int most), Sl.own r (L.map tupN), Sl.val va (.int (at' : Nat)), s4, s5, Sl.un, Sl.un] 2 = L.length := by show (L.map tupN).length = _; rw [List.length_map]
        rw [e1] at this
        have e2 : slotInt [Sl.val v0 (.lst (ms.map tupN)), Sl.val v1 (.int most), Sl.own r (L.map tupN), Sl.val va (.int (at' : Nat)), s4, s5, Sl.un, Sl.un] 3 = (at' : Nat) := rfl
        rw [e2] at this
        omega
      have hlp : 0 < L.length := List.length_pos_iff.mpr hne'
      obtain ⟨k, rfl⟩ : ∃ k', k = k' + 1 := ⟨k - 1, by rcases h0 with rfl | h0 <;> omega⟩
      have hf' : MP.fmL ms most (k + 1) L at' = some L := by
        show (match L[at']? with | some x => _ | none => _) = _
        rw [List.getElem?_eq_none hge]
      have hfd : fmD ms most = tblD L.length (MP.idxT L) := by
        unfold fmD
        rw [← hf, hf']
      rw [hfd]
      refine ex_commit (i := 2) rfl (fun z => nomatch z) ?_
      have hcl : ∀ x ∈ L, ∀ y ∈ L, MP.comp x y ∈ L := fun x hx y hy => hI.closed hge hx hy
      have hmvL : ∀ x ∈ L, MP.Mv p x := fun x hx => (hI.gen x hx).mv hm
      have hlen : (L.map tupN).length = L.length := List.length_map ..
      have h2 := ev_lcA (K := K) (β := ⟨G, H, none⟩) (wi := iList K (tVar 2)) (env := [Sl.val v0 (.lst (ms.map tupN)), Sl.val v1 (.int most), Sl.val (.ref r) (.lst (L.map tupN)), Sl.val va (.int (at' : Nat)), s4, s5, Sl.un, Sl.un]) (ds := L.map tupN) (F := fun a => rowD L.length (MP.idxT L a))
        (te := tThen (tLc (iList K (tVar 2)) (gName 6) tYes (tBM K "list" (rIndexD K) (tVar 2) (tCons (tCall (spD K R_law_followed) [] E0 (tCons (tVar 7) (tCons (tVar 6) tNil))) tNil)) [6]) (kTup K)) (vs := [7]) (j := 7) (ei_list (ev_var rfl)) (by rw [hlen, sizeLine_eq]; omega) (by decide)
        (fun a v d hd => by
          rw [List.getElem?_map] at hd
          cases ha : L[a]? with
          | none => rw [ha] at hd; cases hd
          | some x =>
          rw [ha] at hd
          cases hd
          have hal : a < L.length := (List.getElem?_eq_some_iff.mp ha).1
          have hxm : x ∈ L := List.mem_of_getElem? ha
          have h1 := ev_lcA (K := K) (β := ⟨G, H, none⟩) (wi := iList K (tVar 2)) (env := [Sl.val v0 (.lst (ms.map tupN)), Sl.val v1 (.int most), Sl.val (.ref r) (.lst (L.map tupN)), Sl.val va (.int (at' : Nat)), s4, s5, Sl.un, Sl.val v (tupN x)]) (ds := L.map tupN) (F := fun b => .int (MP.idxT L a b : Nat))
            (te := tBM K "list" (rIndexD K) (tVar 2) (tCons (tCall (spD K R_law_followed) [] E0 (tCons (tVar 7) (tCons (tVar 6) tNil))) tNil)) (vs := [6]) (j := 6) (ei_list (ev_var rfl)) (by rw [hlen, sizeLine_eq]; omega) (by decide)
            (fun b v d hd => by
              rw [List.getElem?_map] at hd
              cases hb : L[b]? with
              | none => rw [hb] at hd; cases hd
              | some y =>
              rw [hb] at hd
              cases hd
              have hym : y ∈ L := List.mem_of_getElem? hb
              have hxy := hcl x hxm y hym
              have e : MP.idxT L a b = L.idxOf (MP.comp x y) := by
                unfold MP.idxT
                rw [List.getD_eq_getElem?_getD, ha, List.getD_eq_getElem?_getD, hb]
                rfl
              rw [e]
              have hil := List.idxOf_lt_length_iff.mpr hxy
              exact ev_indexTN (L := L) (p := MP.comp x y) (ev_var rfl) (ev_call (ea_cons (ev_var rfl) (ea_cons (ev_var rfl) ea_nil)) ⟨x, y, rfl, rfl, fun i hi => by rw [(hmvL y hym).1]; exact (hmvL x hxm).2 i hi, by rw [(hmvL x hxm).1]; omega, rfl⟩)
                (by rw [List.getElem?_eq_getElem hil, List.getElem_idxOf hil]) (idxOf_first L _))
          rw [hlen] at h1
          exact ev_then h1 un_tupL)
      rw [hlen] at h2
      exact ex_ret (ev_then h2 un_tupL) fun v => rfl

end
end Kx


set_option Elab.async false
set_option linter.all false
set_option maxRecDepth 100000
set_option maxHeartbeats 2000000
namespace Kx
open PySem PySem.Spec PyProof.Rows L2 DL
section
variable {P : Program} {w : World} {K : PySem.W.Frag} {mg : Str → Option Value} {base : Heap}
theorem idxOf_firstN : ∀ (L : List Nat) (a : Nat) (m : Nat), m < L.idxOf a → L[m]? ≠ some a
  | [], a, m, h => by simp at h
  | b :: L, a, m, h => by
    by_cases e : b = a
    · subst e; rw [List.idxOf_cons_self] at h; exact absurd h (Nat.not_lt_zero _)
    · rw [List.idxOf_cons, show (b == a) = false from beq_eq_false_iff_ne.mpr e] at h
      have h : m < L.idxOf a + 1 := h
      cases m with
      | zero => intro z; exact e (Option.some.inj z)
      | succ m => exact idxOf_firstN L a m (Nat.lt_of_succ_lt_succ h)
/-- a draw, and a number more -/
theorem xe_take {K : PySem.W.Frag} {β : Bas} {env : Env'} {n m : Nat} {b : Addr} {bs : List D} {tm : TE} {E : XK} (hi : env[0]? = some (.own b bs)) (hB : BoxD n bs) (hn : n < 1000000000) (hm : EV K β tm env (.int (m : Nat))) (h1 : 1 ≤ m) (h2 : m < 1073741824) :
    XE K β (tCall (spB K 1 R_law_take) [] E (tCons (tVar 0) (tCons tm tNil))) env (fun _ d e => ∃ t : Nat, t < m ∧ d = .int (t : Nat) ∧ ∃ bs', BoxD (n + 1) bs' ∧ e = env.set 0 (.own b bs')) :=
  (xe_callB hi hB (by omega) (ea_cons hm ea_nil) (take_ok h1 h2)).imp fun v d e ⟨⟨t, ht, hd⟩, h⟩ => ⟨t, ht, hd, h⟩
theorem xe_cTake {K : PySem.W.Frag} {β : Bas} {env : Env'} {n m c : Nat} {b : Addr} {bs : List D} {tm : TE} {E : XK} (hi : env[0]? = some (.own b bs)) (hB : BoxD n bs) (hn : n < 1000000000) (hm : EV K β tm env (.int (m : Nat))) (h1 : 1 ≤ m) (h2 : m < 1073741824) :
    XE K β (tOp (rI0 fun i j => .int (i + j)) (tC (.int (c : Nat))) (tCall (spB K 1 R_law_take) [] E (tCons (tVar 0) (tCons tm tNil)))) env (fun _ d e => ∃ t : Nat, t < m ∧ d = .int ((c + t : Nat) : Int) ∧ ∃ bs', BoxD (n + 1) bs' ∧ e = env.set 0 (.own b bs')) :=
  xe_op (P2 := fun _ v d e => ∃ t : Nat, t < m ∧ d = .int (t : Nat) ∧ ∃ bs', BoxD (n + 1) bs' ∧ e = env.set 0 (.own b bs')) (ev_int (i := (c : Nat))).xe (fun v1 d1 e1 h => by obtain ⟨_, rfl⟩ := h; exact xe_take hi hB hn hm h1 h2) fun v1 d1 e1 v2 d2 e2 p1 p2 => by
    obtain ⟨rfl, _⟩ := p1
    obtain ⟨t, ht, rfl, h⟩ := p2
    exact ⟨_, op_addI, fun v => ⟨t, ht, by rw [show ((c + t : Nat) : Int) = (c : Int) + (t : Int) by omega], h⟩⟩
def R_law_relabelled : List D → D → Prop
  | [t, nm], d => ∃ (n : Nat) (f : Nat → Nat → Nat) (ns : List Nat), t = tblD n f ∧ TabOk n f ∧ nm = .lst (lstN ns) ∧ ns.Perm (List.range n) ∧ d = tblD n (MP.relF f ns)
  | _, _ => False
theorem ok_law_relabelled (T : Tx K mg) : FnOk P w K mg base CX0 1 T.f_law_relabelled T.d_law_relabelled p_law_relabelled (spD K R_law_relabelled) := by
  refine T.F_law_relabelled.ok sc_law_relabelled (fun vs H Q E h => ?_) (fun cdv A outer s H vs Q E hr h => ?_)
  · obtain ⟨G, ds, d, e, hd, hR, q⟩ := h
    rw [hd.length]
    match ds, hR with
    | [_, _], _ => rfl
  · refine ⟨_, (pss_cons (ps_set (i := 2) sc_law_relabelled.nd rfl (.inr rfl) (pe_lc (own := [("k", 3)]) rfl sc_law_relabelled.nd (pi_range1 (by rfl) T.m_range (pa_cons (pe_callB (call_lenK K) (by rfl) T.m_len (by decide +kernel) (pa_cons (pv 1) pa_nil)) pa_nil)) (blkOk_by (by rfl)) (fun _ _ _ _ _ => pg_name (i := 3) sc_law_relabelled.nd rfl (by first | exact .inl rfl | exact .inr rfl)) (fun _ _ _ _ _ => pts_nil) (fun _ _ _ _ _ => (pe_bmK K PySem.F.plainAttrs_list PySem.F.slot_list_index PySem.F.type_list_index (mt_indexK K) (pv 1) (pa_cons (pv 3) pa_nil)))))
      (pss_one (ps_ret (pe_tupleOfK K (by rfl) T.m_tuple (pe_lc (own := [("x", 5)]) rfl sc_law_relabelled.nd (pi_range1 (by rfl) T.m_range (pa_cons (pe_callB (call_lenK K) (by rfl) T.m_len (by decide +kernel) (pa_cons (pv 0) pa_nil)) pa_nil)) (blkOk_by (by rfl)) (fun _ _ _ _ _ => pg_name (i := 5) sc_law_relabelled.nd rfl (by first | exact .inl rfl | exact .inr rfl)) (fun _ _ _ _ _ => pts_nil) (fun _ _ _ _ _ => (pe_tupleOfK K (by rfl) T.m_tuple (pe_lc (own := [("y", 4)]) rfl sc_law_relabelled.nd (pi_range1 (by rfl) T.m_range (pa_cons (pe_callB (call_lenK K) (by rfl) T.m_len (by decide +kernel) (pa_cons (pv 0) pa_nil)) pa_nil)) (blkOk_by (by rfl)) (fun _ _ _ _ _ => pg_name (i := 4) sc_law_relabelled.nd rfl (by first | exact .inl rfl | exact .inr rfl)) (fun _ _ _ _ _ => pts_nil) (fun _ _ _ _ _ => (pe_ix (ix_seqK K) (pv 1) (pe_ix (ix_seqK K) (pe_ix (ix_seqK K) (pv 0) (pe_ix (ix_seqK K) (pv 2) (pv 5) (fun _ _ => rfl)) (fun _ _ => rfl)) (pe_ix (ix_seqK K) (pv 2) (pv 4) (fun _ _ => rfl)) (fun _ _ => rfl)) (fun _ _ => rfl))))))))))), ?_⟩
    obtain ⟨G, ds, d, e, hd, hR, q⟩ := h
    have hl : ∃ x0 x1, ds = [x0, x1] := by
      match ds, hR with
      | [x0, x1], _ => exact ⟨x0, x1, rfl⟩
    obtain ⟨x0, x1, rfl⟩ := hl
    cases hd with
    | @cons v0 vs0 _ _ dv0 hd =>
    cases hd with
    | @cons v1 vs1 _ _ dv1 hd =>
    cases hd
    refine EX.fin (W := fun _ _ _ _ => False) (good_start e ((.cons dv0 (.cons dv1 .nil))) n_law_relabelled) q ?_
    show EX K ⟨G, H, none⟩ _ _ [Sl.val v0 x0, Sl.val v1 x1, Sl.un, Sl.un, Sl.un, Sl.un] _
    obtain ⟨n, f, ns, rfl, hf, rfl, hp, rfl⟩ := hR
    obtain ⟨h1, h2, h3, h4⟩ := MP.perm_facts hp
    have hn := hf.n10
    refine ex_let (ev_lcR (n := n) (F := fun k => .int (ns.idxOf k : Nat)) (ev_is (ev_cb (ea_cons (ev_var rfl) ea_nil) cb_lenL) (by rw [lstN_len, h1])) (by omega) (by decide) fun k vk hk => ?_) fun vb => ?_
    · have hil := List.idxOf_lt_length_iff.mpr (h2 k hk)
      exact ev_indexN (ms := ns) (p := k) (ev_var rfl) (ev_var rfl) (by rw [List.getElem?_eq_getElem hil, List.getElem_idxOf hil]) (idxOf_firstN ns k)
    refine ex_ret (ev_tab (f := MP.relF f ns) (by omega) (ev_cb (ea_cons (ev_var rfl) ea_nil) cb_lenTbl) (by decide) (by decide) (fun x v hx => ev_cb (ea_cons (ev_var rfl) ea_nil) cb_lenTbl) fun x y vx vy hx hy => ?_) fun v => rfl
    have ix := MP.idx_lt hp hx
    have iy := MP.idx_lt hp hy
    have hl := hf.cl _ _ ix iy
    refine ev_op (ev_var rfl) (ev_row (ev_tbl (ev_var rfl) (ev_op (ev_var rfl) (ev_var rfl) (op_ixR (f := fun k => ns.idxOf k) hx)) ix) (ev_op (ev_var rfl) (ev_var rfl) (op_ixR (f := fun k => ns.idxOf k) hy)) iy) (op_ixN ?_)
    show ns[f (ns.idxOf x) (ns.idxOf y)]? = some (ns.getD (f (ns.idxOf x) (ns.idxOf y)) 0)
    rw [List.getD_eq_getElem?_getD, List.getElem?_eq_getElem (by rw [h1]; exact hl)]
    rfl

end
end Kx


set_option Elab.async false
set_option linter.all false
set_option maxRecDepth 100000
set_option maxHeartbeats 2000000
namespace Kx
open PySem PySem.Spec PyProof.Rows L2 DL
section
variable {P : Program} {w : World} {K : PySem.W.Frag} {mg : Str → Option Value} {base : Heap}
def R_law_plain : List D → (D → Prop) → Prop
  | [mo], Pd => ∃ most : Nat, mo = .int (most : Nat) ∧ 1 ≤ most ∧ most ≤ 10 ∧ ∀ n f, SgOk n f → n ≤ most → Pd (tblD n f)
  | _, _ => False
theorem int_mod (a m : Nat) : ((a : Int) % (m : Int)) = ((a % m : Nat) : Int) := rfl
theorem int_div (a m : Nat) : ((a : Int) / (m : Int)) = ((a / m : Nat) : Int) := rfl
theorem int_mul (a m : Nat) : ((a : Int) * (m : Int)) = ((a * m : Nat) : Int) := rfl
theorem int_add (a m : Nat) : ((a : Int) + (m : Int)) = ((a + m : Nat) : Int) := rfl
theorem rep_row (x m : Nat) : D.tup (List.replicate ((m : Nat) : Int).toNat [D.int (x : Nat)]).flatten = rowD m (fun _ => x) := by
  rw [Int.toNat_natCast, rep_map]
  rfl
theorem rg_row (m : Nat) : D.tup (rgD 0 ((m : Nat) : Int).toNat) = rowD m (fun y => y) := by
  rw [Int.toNat_natCast, rgD_nat]
  rfl
theorem ok_law_plain (T : Tx K mg) : FnOk P w K mg base CX0 2 T.f_law_plain T.d_law_plain p_law_plain (spB K 5 R_law_plain) := by
  refine T.F_law_plain.ok sc_law_plain (fun vs H Q E h => ?_) (fun cdv A outer s H vs Q E hr h => ?_)
  · obtain ⟨G, b, n, xs, bs, ws, ds, Pd, rfl, hG, hH, hx, hbx, hn, e, hd, hR, q⟩ := h
    rw [List.length_cons, hd.length]
    match ds, hR with
    | [_], _ => rfl
  · refine ⟨_, (pss_cons (ps_set (i := 2) sc_law_plain.nd rfl (.inr rfl) (pe_op op_add pe_int (pe_call (ok_law_take T) (hr.mono (by omega)) (by rfl) T.g_law_take T.F_law_take.kp T.b_law_take .nil pass0 (pa_cons (pv 0) (pa_cons (pv 1) pa_nil)))))
      (pss_cons (ps_set (i := 3) sc_law_plain.nd rfl (.inl rfl) (pe_call (ok_law_take T) (hr.mono (by omega)) (by rfl) T.g_law_take T.F_law_take.kp T.b_law_take .nil pass0 (pa_cons (pv 0) (pa_cons pe_int pa_nil))))
      (pss_cons (ps_if (pt_cmpR op_eq (pv 3) pe_int (nomark _)) (pss_one (ps_ret (pe_tupleOfK K (by rfl) T.m_tuple (pe_lc (own := [("x", 9)]) rfl sc_law_plain.nd (pi_range1 (by rfl) T.m_range (pa_cons (pv 2) pa_nil)) (blkOk_by (by rfl)) (fun _ _ _ _ _ => pg_name (i := 9) sc_law_plain.nd rfl (by first | exact .inl rfl | exact .inr rfl)) (fun _ _ _ _ _ => pts_nil) (fun _ _ _ _ _ => (pe_tupleOfK K (by rfl) T.m_tuple (pe_op op_rep (pe_lst (pa_cons (pv 9) pa_nil)) (pv 2)))))))) pss_nil)
      (pss_cons (ps_if (pt_cmpR op_eq (pv 3) pe_int (nomark _)) (pss_one (ps_ret (pe_tupleOfK K (by rfl) T.m_tuple (pe_lc (own := [("x", 9)]) rfl sc_law_plain.nd (pi_range1 (by rfl) T.m_range (pa_cons (pv 2) pa_nil)) (blkOk_by (by rfl)) (fun _ _ _ _ _ => pg_name (i := 9) sc_law_plain.nd rfl (by first | exact .inl rfl | exact .inr rfl)) (fun _ _ _ _ _ => pts_nil) (fun _ _ _ _ _ => (pe_tupRg rfl (by rfl) T.m_tuple (prg_1 (by rfl) T.m_range (pv 2)))))))) pss_nil)
      (pss_cons (ps_if (pt_cmpR op_eq (pv 3) pe_int (nomark _)) (pss_one (ps_ret (pe_tupleOfK K (by rfl) T.m_tuple (pe_lc (own := [("x", 9)]) rfl sc_law_plain.nd (pi_range1 (by rfl) T.m_range (pa_cons (pv 2) pa_nil)) (blkOk_by (by rfl)) (fun _ _ _ _ _ => pg_name (i := 9) sc_law_plain.nd rfl (by first | exact .inl rfl | exact .inr rfl)) (fun _ _ _ _ _ => pts_nil) (fun _ _ _ _ _ => (pe_tupleOfK K (by rfl) T.m_tuple (pe_op op_rep (pe_lst (pa_cons pe_int pa_nil)) (pv 2)))))))) pss_nil)
      (pss_cons (ps_if (pt_cmpR op_eq (pv 3) pe_int (nomark _)) (pss_one (ps_ret (pe_tupleOfK K (by rfl) T.m_tuple (pe_lc (own := [("x", 9)]) rfl sc_law_plain.nd (pi_range1 (by rfl) T.m_range (pa_cons (pv 2) pa_nil)) (blkOk_by (by rfl)) (fun _ _ _ _ _ => pg_name (i := 9) sc_law_plain.nd rfl (by first | exact .inl rfl | exact .inr rfl)) (fun _ _ _ _ _ => pts_nil) (fun _ _ _ _ _ => (pe_tupleOfK K (by rfl) T.m_tuple (pe_lc (own := [("y", 10)]) rfl sc_law_plain.nd (pi_range1 (by rfl) T.m_range (pa_cons (pv 2) pa_nil)) (blkOk_by (by rfl)) (fun _ _ _ _ _ => pg_name (i := 10) sc_law_plain.nd rfl (by first | exact .inl rfl | exact .inr rfl)) (fun _ _ _ _ _ => pts_nil) (fun _ _ _ _ _ => (pe_callB (call_min2 rfl) (by rfl) T.m_min (by decide +kernel) (pa_cons (pv 9) (pa_cons (pv 10) pa_nil))))))))))) pss_nil)
      (pss_cons (ps_if (pt_cmpR op_eq (pv 3) pe_int (nomark _)) (pss_one (ps_ret (pe_tupleOfK K (by rfl) T.m_tuple (pe_lc (own := [("x", 9)]) rfl sc_law_plain.nd (pi_range1 (by rfl) T.m_range (pa_cons (pv 2) pa_nil)) (blkOk_by (by rfl)) (fun _ _ _ _ _ => pg_name (i := 9) sc_law_plain.nd rfl (by first | exact .inl rfl | exact .inr rfl)) (fun _ _ _ _ _ => pts_nil) (fun _ _ _ _ _ => (pe_tupleOfK K (by rfl) T.m_tuple (pe_lc (own := [("y", 10)]) rfl sc_law_plain.nd (pi_range1 (by rfl) T.m_range (pa_cons (pv 2) pa_nil)) (blkOk_by (by rfl)) (fun _ _ _ _ _ => pg_name (i := 10) sc_law_plain.nd rfl (by first | exact .inl rfl | exact .inr rfl)) (fun _ _ _ _ _ => pts_nil) (fun _ _ _ _ _ => (pe_op op_mod (pe_callTy call_int1 (by rfl) T.m_int (by decide +kernel) (pa_cons (pe_op op_add (pv 9) (pv 10)) pa_nil)) (pv 2)))))))))) pss_nil)
      (pss_cons (ps_if (pt_cmpR op_eq (pv 3) pe_int (nomark _)) (pss_cons (ps_set (i := 4) sc_law_plain.nd rfl (.inr rfl) (pe_op op_add pe_int (pe_call (ok_law_take T) (hr.mono (by omega)) (by rfl) T.g_law_take T.F_law_take.kp T.b_law_take .nil pass0 (pa_cons (pv 0) (pa_cons (pv 2) pa_nil)))))
      (pss_cons (ps_set (i := 5) sc_law_plain.nd rfl (.inr rfl) (pe_op op_sub (pe_op op_add (pv 2) pe_int) (pv 4)))
      (pss_cons (ps_set (i := 6) sc_law_plain.nd rfl (.inr rfl) (pe_lc (own := [("k", 11)]) rfl sc_law_plain.nd (pi_range1 (by rfl) T.m_range (pa_cons (pe_op op_add (pe_op op_mul pe_int (pv 2)) pe_int) pa_nil)) (blkOk_by (by rfl)) (fun _ _ _ _ _ => pg_name (i := 11) sc_law_plain.nd rfl (by first | exact .inl rfl | exact .inr rfl)) (fun _ _ _ _ _ => pts_nil) (fun _ _ _ _ _ => (pe_ifExp (pt_cmpR op_lt (pv 11) (pv 2) (nomark _)) (pv 11) (pe_op op_add (pe_op op_sub (pv 4) pe_int) (pe_op op_mod (pe_callTy call_int1 (by rfl) T.m_int (by decide +kernel) (pa_cons (pe_op op_add (pe_op op_sub (pv 11) (pv 4)) pe_int) pa_nil)) (pv 5)))))))
      (pss_one (ps_ret (pe_tupleOfK K (by rfl) T.m_tuple (pe_lc (own := [("x", 9)]) rfl sc_law_plain.nd (pi_range1 (by rfl) T.m_range (pa_cons (pv 2) pa_nil)) (blkOk_by (by rfl)) (fun _ _ _ _ _ => pg_name (i := 9) sc_law_plain.nd rfl (by first | exact .inl rfl | exact .inr rfl)) (fun _ _ _ _ _ => pts_nil) (fun _ _ _ _ _ => (pe_tupleOfK K (by rfl) T.m_tuple (pe_lc (own := [("y", 10)]) rfl sc_law_plain.nd (pi_range1 (by rfl) T.m_range (pa_cons (pv 2) pa_nil)) (blkOk_by (by rfl)) (fun _ _ _ _ _ => pg_name (i := 10) sc_law_plain.nd rfl (by first | exact .inl rfl | exact .inr rfl)) (fun _ _ _ _ _ => pts_nil) (fun _ _ _ _ _ => (pe_ix (ix_seqK K) (pv 6) (pe_op op_add (pe_op op_add (pv 9) (pv 10)) pe_int) (fun _ _ => rfl))))))))))))) pss_nil)
      (pss_cons (ps_set (i := 7) sc_law_plain.nd rfl (.inr rfl) (pe_op op_add pe_int (pe_call (ok_law_take T) (hr.mono (by omega)) (by rfl) T.g_law_take T.F_law_take.kp T.b_law_take .nil pass0 (pa_cons (pv 0) (pa_cons pe_int pa_nil)))))
      (pss_cons (ps_set (i := 8) sc_law_plain.nd rfl (.inr rfl) (pe_callB (call_max2 rfl) (by rfl) T.m_max (by decide +kernel) (pa_cons pe_int (pa_cons (pe_op op_fdiv (pv 1) (pv 7)) pa_nil))))
      (pss_cons (ps_set (i := 8) sc_law_plain.nd rfl (.inr rfl) (pe_op op_add pe_int (pe_call (ok_law_take T) (hr.mono (by omega)) (by rfl) T.g_law_take T.F_law_take.kp T.b_law_take .nil pass0 (pa_cons (pv 0) (pa_cons (pe_callB (call_min2 rfl) (by rfl) T.m_min (by decide +kernel) (pa_cons pe_int (pa_cons (pv 8) pa_nil))) pa_nil)))))
      (pss_cons (ps_if (pt_cmpR op_gt (pe_op op_mul (pv 7) (pv 8)) (pv 1) (nomark _)) (pss_one (ps_asg (pe_tup (pa_cons pe_int (pa_cons (pe_callB (call_min2 rfl) (by rfl) T.m_min (by decide +kernel) (pa_cons (pv 1) (pa_cons pe_int pa_nil))) pa_nil))) (pg_tupK K rfl (pgs_cons (pg_name (i := 7) sc_law_plain.nd rfl (.inr rfl)) (pgs_cons (pg_name (i := 8) sc_law_plain.nd rfl (.inr rfl)) pgs_nil))))) pss_nil)
      (pss_one (ps_ret (pe_tupleOfK K (by rfl) T.m_tuple (pe_lc (own := [("x", 9)]) rfl sc_law_plain.nd (pi_range1 (by rfl) T.m_range (pa_cons (pe_op op_mul (pv 7) (pv 8)) pa_nil)) (blkOk_by (by rfl)) (fun _ _ _ _ _ => pg_name (i := 9) sc_law_plain.nd rfl (by first | exact .inl rfl | exact .inr rfl)) (fun _ _ _ _ _ => pts_nil) (fun _ _ _ _ _ => (pe_tupleOfK K (by rfl) T.m_tuple (pe_lc (own := [("y", 10)]) rfl sc_law_plain.nd (pi_range1 (by rfl) T.m_range (pa_cons (pe_op op_mul (pv 7) (pv 8)) pa_nil)) (blkOk_by (by rfl)) (fun _ _ _ _ _ => pg_name (i := 10) sc_law_plain.nd rfl (by first | exact .inl rfl | exact .inr rfl)) (fun _ _ _ _ _ => pts_nil) (fun _ _ _ _ _ => (pe_op op_add (pe_op op_mul (pe_op op_fdiv (pv 9) (pv 8)) (pv 8)) (pe_op op_mod (pe_callTy call_int1 (by rfl) T.m_int (by decide +kernel) (pa_cons (pv 10) pa_nil)) (pv 8))))))))))))))))))))))), ?_⟩
    obtain ⟨G, b, n, xs, bs, ws, ds, Pd, rfl, hG, hH, hx, hbx, hn, e, hd, hR, q⟩ := h
    have hl : ∃ x1, ds = [x1] := by
      match ds, hR with
      | [x1], _ => exact ⟨x1, rfl⟩
    obtain ⟨x1, rfl⟩ := hl
    cases hd with
    | @cons v1 vs0 _ _ dv1 hd =>
    cases hd
    refine EX.finB (W := fun _ _ _ _ => False) (k := 5) (n := n) (env := [Sl.own b bs, Sl.val v1 x1, Sl.un, Sl.un, Sl.un, Sl.un, Sl.un, Sl.un, Sl.un, Sl.un, Sl.un, Sl.un]) rfl (good_box e hG hH hx ((.cons dv1 .nil)) n_law_plain) q ?_
    obtain ⟨most, rfl, h1, h10, hP⟩ := hR
    refine ex_letX (xe_cTake (c := 1) rfl hbx (by omega) (ev_var rfl) h1 (by omega)) fun v2 d env' h => ?_
    obtain ⟨t, ht, rfl, bs1, hB1, rfl⟩ := h
    obtain ⟨m, hm1, hmm, hme⟩ : ∃ m, 1 ≤ m ∧ m ≤ most ∧ 1 + t = m := ⟨1 + t, by omega, by omega, rfl⟩
    rw [hme]
    clear hme ht
    refine ex_letX (xe_take (m := 7) rfl hB1 (by omega) (ev_int (i := 7)) (by decide) (by decide)) fun v3 d env' h => ?_
    obtain ⟨wy, hwy, rfl, bs2, hB2, rfl⟩ := h
    have fin : ∀ {f}, MP.Semi m f → Pd (tblD m f) := fun h => hP m _ (SgOk.of h hm1 (by omega)) hmm
    have hmi : EV K ⟨G, H, some b⟩ (tVar 2) [Sl.own b bs2, Sl.val v1 (.int most), Sl.val v2 (.int (m : Nat)), Sl.val v3 (.int (wy : Nat)), Sl.un, Sl.un, Sl.un, Sl.un, Sl.un, Sl.un, Sl.un, Sl.un] (.int (m : Nat)) := ev_var rfl
    refine ex_when (et_test (ev_op (ev_var rfl) ev_int op_eqI)) (fun _ => ?_) fun h0 => ?_
    · exact ex_ret (ev_rows (f := fun x _ => x) (by omega) hmi (by decide) fun x v hx => ev_is (ev_then (ev_op (ev_lst (ea_cons (ev_var rfl) ea_nil) (sz 1)) (ev_var rfl) (op_repLD (by omega) (by omega) (by rw [sizeLine_eq]; simp; omega))) un_tupL) (rep_row x m)) fun v => ⟨fin (MP.semi_left m), bs2, hB2.mono (by omega), rfl⟩
    refine ex_when (et_test (ev_op (ev_var rfl) ev_int op_eqI)) (fun _ => ?_) fun h1' => ?_
    · exact ex_ret (ev_rows (f := fun _ y => y) (by omega) hmi (by decide) fun x v hx => ev_is (ev_tupRg1 (ev_var rfl) (by omega) (by omega)) (rg_row m)) fun v => ⟨fin (MP.semi_right m), bs2, hB2.mono (by omega), rfl⟩
    refine ex_when (et_test (ev_op (ev_var rfl) ev_int op_eqI)) (fun _ => ?_) fun h2' => ?_
    · exact ex_ret (ev_rows (f := fun _ _ => 0) (by omega) hmi (by decide) fun x v hx => ev_is (ev_then (ev_op (ev_lst (ea_cons ev_int ea_nil) (sz 1)) (ev_var rfl) (op_repLD (by omega) (by omega) (by rw [sizeLine_eq]; simp; omega))) un_tupL) (rep_row 0 m)) fun v => ⟨fin (MP.semi_null (by omega)), bs2, hB2.mono (by omega), rfl⟩
    refine ex_when (et_test (ev_op (ev_var rfl) ev_int op_eqI)) (fun _ => ?_) fun h3' => ?_
    · refine ex_ret (ev_tab (f := fun x y => if y < x then y else x) (by omega) hmi (by decide) (by decide) (fun x v hx => ev_var rfl) fun x y vx vy hx hy => ev_is (ev_cb (ea_cons (ev_var rfl) (ea_cons (ev_var rfl) ea_nil)) cb_min2) ?_) fun v => ⟨fin (MP.semi_min m), bs2, hB2.mono (by omega), rfl⟩
      congr 1
      by_cases c : y < x
      · rw [if_pos c, if_pos (by omega)]
      · rw [if_neg c, if_neg (by omega)]
    refine ex_when (et_test (ev_op (ev_var rfl) ev_int op_eqI)) (fun _ => ?_) fun h4' => ?_
    · exact ex_ret (ev_tab (f := fun x y => (x + y) % m) (by omega) hmi (by decide) (by decide) (fun x v hx => ev_var rfl) fun x y vx vy hx hy => ev_is (ev_op (ev_cb (ea_cons (ev_op (ev_var rfl) (ev_var rfl) op_addI) ea_nil) cb_int) (ev_var rfl) (op_modI (by omega))) rfl) fun v => ⟨fin (MP.semi_clock (by omega)), bs2, hB2.mono (by omega), rfl⟩
    refine ex_when (et_test (ev_op (ev_var rfl) ev_int op_eqI)) (fun _ => ?_) fun h5' => ?_
    · refine ex_letX (xe_cTake (c := 1) rfl hB2 (by omega) (ev_var rfl) hm1 (by omega)) fun v4 d env' h => ?_
      obtain ⟨t, ht, rfl, bs3, hB3, rfl⟩ := h
      obtain ⟨i, hi1, him, hie⟩ : ∃ i, 1 ≤ i ∧ i ≤ m ∧ 1 + t = i := ⟨1 + t, by omega, by omega, rfl⟩
      rw [hie]
      clear hie ht
      refine ex_let (d := .int ((m + 1 - i : Nat) : Int)) (ev_is (ev_op (ev_op (ev_var rfl) (ev_int (i := 1)) op_addI) (ev_var rfl) op_subI) (by congr 1; omega)) fun v5 => ?_
      refine ex_let (ev_lcR (n := 2 * m + 1) (F := fun k => .int (MP.stp i m k : Nat)) (ev_is (ev_op (ev_op (ev_int (i := 2)) (ev_var (i := 2) rfl) (op_mulI (.inl ⟨by decide, by decide⟩))) (ev_int (i := 1)) op_addI) rfl) (by omega) (by decide) fun k vk hk => ?_) fun v6 => ?_
      · refine ev_if (et_test (ev_op (ev_var rfl) (ev_var rfl) op_ltI)) (fun h => ev_is (ev_var rfl) ?_) fun h => ev_is (ev_op (ev_op (ev_var rfl) (ev_int (i := 1)) op_subI) (ev_op (ev_cb (ea_cons (ev_op (ev_op (ev_var rfl) (ev_var rfl) op_subI) (ev_int (i := 1)) op_addI) ea_nil) cb_int) (ev_var rfl) (op_modI (by omega))) op_addI) ?_
        · have := of_decide_eq_true h
          unfold MP.stp
          rw [if_pos (by omega)]
        · have := of_decide_eq_false h
          unfold MP.stp
          rw [if_neg (by omega)]
          congr 1
          rw [show ((k : Int) - (i : Int) + 1) = ((k + 1 - i : Nat) : Int) by omega, int_mod]
          omega
      · exact ex_ret (ev_tab (f := fun x y => MP.stp i m (x + y + 1)) (by omega) (ev_var rfl) (by decide) (by decide) (fun x v hx => ev_var rfl) fun x y vx vy hx hy => ev_op (ev_var rfl) (ev_is (ev_op (ev_op (ev_var (i := 9) rfl) (ev_var (i := 10) rfl) op_addI) (ev_int (i := 1)) op_addI) (show _ = D.int ((x + y + 1 : Nat) : Int) from rfl)) (op_ixR (f := fun k => MP.stp i m k) (by omega))) fun v => ⟨fin (MP.semi_mono hi1 him), bs3, hB3.mono (by omega), rfl⟩
    refine ex_letX (xe_cTake (c := 1) (m := 3) rfl hB2 (by omega) (ev_int (i := 3)) (by decide) (by decide)) fun v7 d env' h => ?_
    obtain ⟨t, ht, rfl, bs3, hB3, rfl⟩ := h
    obtain ⟨l, hl1, hl3, hle⟩ : ∃ l, 1 ≤ l ∧ l ≤ 3 ∧ 1 + t = l := ⟨1 + t, by omega, by omega, rfl⟩
    rw [hle]
    clear hle ht
    obtain ⟨r0, hr1, hr0⟩ : ∃ r0 : Nat, 1 ≤ r0 ∧ (if ((most / l : Nat) : Int) > 1 then ((most / l : Nat) : Int) else 1) = ((r0 : Nat) : Int) := by
      by_cases c : ((most / l : Nat) : Int) > 1
      · exact ⟨most / l, by omega, if_pos c⟩
      · exact ⟨1, by omega, if_neg c⟩
    refine ex_let (d := .int (r0 : Nat)) (ev_is (ev_cb (ea_cons ev_int (ea_cons (ev_op (ev_var rfl) (ev_var rfl) (op_fdivI (by omega))) ea_nil)) cb_max2) (by rw [int_div, hr0])) fun v8 => ?_
    obtain ⟨r1, hr11, hr13, hr1e⟩ : ∃ r1 : Nat, 1 ≤ r1 ∧ r1 ≤ 3 ∧ (if ((r0 : Nat) : Int) < 3 then ((r0 : Nat) : Int) else 3) = ((r1 : Nat) : Int) := by
      by_cases c : ((r0 : Nat) : Int) < 3
      · exact ⟨r0, by omega, by omega, if_pos c⟩
      · exact ⟨3, by omega, by omega, if_neg c⟩
    refine ex_letX (xe_cTake (c := 1) (m := r1) rfl hB3 (by omega) (ev_is (ev_cb (ea_cons (ev_int (i := 3)) (ea_cons (ev_var rfl) ea_nil)) cb_min2) (by rw [hr1e])) hr11 (by omega)) fun v8' d env' h => ?_
    obtain ⟨t, ht, rfl, bs4, hB4, rfl⟩ := h
    refine ex_seq (N := fun e => ∃ l r va vb, 1 ≤ l ∧ 1 ≤ r ∧ l ≤ 10 ∧ r ≤ 10 ∧ l * r ≤ most ∧ e = [Sl.own b bs4, Sl.val v1 (.int most), Sl.val v2 (.int (m : Nat)), Sl.val v3 (.int (wy : Nat)), Sl.un, Sl.un, Sl.un, Sl.val va (.int (l : Nat)), Sl.val vb (.int (r : Nat)), Sl.un, Sl.un, Sl.un]) ?_ fun env' h => ?_
    · refine ex_if (et_test (ev_op (ev_op (ev_var rfl) (ev_var rfl) (op_mulI (.inl ⟨by omega, by omega⟩))) (ev_var rfl) op_gtI)) (fun h => ?_) fun h => ?_
      · obtain ⟨r2, h21, h22, h23⟩ : ∃ r2 : Nat, 1 ≤ r2 ∧ r2 ≤ most ∧ (if (2 : Int) < ((most : Nat) : Int) then (2 : Int) else ((most : Nat) : Int)) = ((r2 : Nat) : Int) := by
          by_cases c : (2 : Int) < ((most : Nat) : Int)
          · exact ⟨2, by omega, by omega, if_pos c⟩
          · exact ⟨most, by omega, by omega, if_neg c⟩
        exact ex_asgG (d := .tup [.int ((1 : Nat) : Int), .int (r2 : Nat)]) (ev_tup (ea_cons (ev_int (i := 1)) (ea_cons (ev_is (ev_cb (ea_cons (ev_var rfl) (ea_cons ev_int ea_nil)) cb_min2) (by rw [h23])) ea_nil)) (sz 2)) (fun v => eg_two) fun e ⟨w1, w2, he⟩ => ⟨1, r2, w1, w2, by omega, h21, by omega, by omega, by omega, he⟩
      · have := of_decide_eq_false h
        rw [int_mul] at this
        exact ex_next ⟨l, 1 + t, v7, v8', hl1, by omega, by omega, by omega, by omega, rfl⟩
    · obtain ⟨l, r, va, vb, hl, hr, hl', hr', hlr, rfl⟩ := h
      have hn : ∀ {e}, EV K ⟨G, H, some b⟩ (tVar 7) e (.int (l : Nat)) → EV K ⟨G, H, some b⟩ (tVar 8) e (.int (r : Nat)) → EV K ⟨G, H, some b⟩ (tOp (rI CMul fun i j => .int (i * j)) (tVar 7) (tVar 8)) e (.int ((l * r : Nat) : Int)) := fun h1 h2 => ev_is (ev_op h1 h2 (op_mulI (.inl ⟨by omega, by omega⟩))) (by rw [int_mul])
      have hlr1 : 1 ≤ l * r := Nat.mul_pos hl hr
      refine ex_ret (ev_tab (f := fun x y => x / r * r + y % r) (by omega) (hn (ev_var rfl) (ev_var rfl)) (by decide) (by decide) (fun x v hx => hn (ev_var rfl) (ev_var rfl)) fun x y vx vy hx hy => ?_) fun v => ⟨hP _ _ (SgOk.of (MP.semi_rect hr) hlr1 (by omega)) hlr, bs4, hB4.mono (by omega), rfl⟩
      refine ev_is (ev_op (ev_op (ev_op (ev_var (i := 9) rfl) (ev_var (i := 8) rfl) (op_fdivI (by omega))) (ev_var (i := 8) rfl) (op_mulI (.inr ⟨by omega, by omega⟩))) (ev_op (ev_cb (ea_cons (ev_var (i := 10) rfl) ea_nil) cb_int) (ev_var (i := 8) rfl) (op_modI (by omega))) op_addI) ?_
      rfl

end
end Kx


set_option Elab.async false
set_option linter.all false
set_option maxRecDepth 100000
set_option maxHeartbeats 2000000
namespace Kx
open PySem PySem.Spec PyProof.Rows L2 DL
section
variable {P : Program} {w : World} {K : PySem.W.Frag} {mg : Str → Option Value} {base : Heap}
def R_law_drawn : List D → (D → Prop) → Prop
  | [mo], Pd => ∃ most : Nat, mo = .int (most : Nat) ∧ 1 ≤ most ∧ most ≤ 10 ∧ ∀ n f, SgOk n f → n ≤ most → Pd (tblD n f)
  | _, _ => False
/-- a table of a semigroup of at most so many elements -/
def IsSg (most : Nat) (d : D) : Prop := ∃ m f, SgOk m f ∧ m ≤ most ∧ d = tblD m f
theorem fmD_ok {ms : List (List Nat)} {p most : Nat} (hm : ∀ m ∈ ms, MP.Mv p m) (hne : ms ≠ []) (h10 : most ≤ 10) : fmD ms most = .non ∨ IsSg most (fmD ms most) := by
  unfold fmD
  cases q : MP.fmL ms most (most + 2) (dd [] ms) 0 with
  | none => exact .inl rfl
  | some L =>
    obtain ⟨⟨at2, h1, h2⟩, h3, h4⟩ := MP.fmL_inv _ _ _ L (inv0 hm) (.inl rfl) (dd_ne hne) q
    exact .inr ⟨L.length, MP.idxT L, SgOk.of (MP.semi_idx (fun x hx => (h2.gen x hx).mv hm) fun x hx y hy => h2.closed h1 hx hy) (List.length_pos_iff.mpr h4) (by omega), h3, rfl⟩
theorem row_more {n : Nat} {f : Nat → Nat} {y : Nat} : D.tup (((List.range n).map fun y => D.int (f y : Nat)) ++ [D.int (y : Nat)]) = rowD (n + 1) (fun b => if b < n then f b else y) := by
  unfold rowD
  rw [List.range_succ, List.map_append]
  congr 2
  · refine List.map_congr_left fun b hb => ?_
    show D.int (f b : Nat) = D.int ((if b < n then f b else y : Nat) : Int)
    rw [if_pos (List.mem_range.mp hb)]
  · show [D.int (y : Nat)] = [D.int ((if n < n then f n else y : Nat) : Int)]
    rw [if_neg (Nat.lt_irrefl n)]
theorem tbl_more {n : Nat} {g : Nat → Nat → Nat} : D.tup (((List.range n).map fun x => rowD (n + 1) (g x)) ++ [rowD (n + 1) (g n)]) = tblD (n + 1) g := by
  unfold tblD
  rw [List.range_succ, List.map_append]
  rfl
theorem rowD_congr {n : Nat} {f g : Nat → Nat} (h : ∀ y, y < n → f y = g y) : rowD n f = rowD n g := by
  unfold rowD
  congr 1
  exact List.map_congr_left fun y hy => by rw [h y (List.mem_range.mp hy)]
theorem ok_law_drawn (T : Tx K mg) : FnOk P w K mg base CX0 3 T.f_law_drawn T.d_law_drawn p_law_drawn (spB K 80 R_law_drawn) := by
  refine T.F_law_drawn.ok sc_law_drawn (fun vs H Q E h => ?_) (fun cdv A outer s H vs Q E hr h => ?_)
  · obtain ⟨G, b, n, xs, bs, ws, ds, Pd, rfl, hG, hH, hx, hbx, hn, e, hd, hR, q⟩ := h
    rw [List.length_cons, hd.length]
    match ds, hR with
    | [_], _ => rfl
  · refine ⟨_, (pss_cons (ps_asg (pe_tup (pa_cons pe_non (pa_cons (pe_call (ok_law_take T) (hr.mono (by omega)) (by rfl) T.g_law_take T.F_law_take.kp T.b_law_take .nil pass0 (pa_cons (pv 0) (pa_cons pe_int pa_nil))) pa_nil))) (pg_tupK K rfl (pgs_cons (pg_name (i := 2) sc_law_drawn.nd rfl (.inr rfl)) (pgs_cons (pg_name (i := 3) sc_law_drawn.nd rfl (.inl rfl)) pgs_nil))))
      (pss_cons (ps_for PassesOwn.never rfl (pi_range1 (by rfl) T.m_range (pa_cons (pv 3) pa_nil)) (pg_name (i := 4) sc_law_drawn.nd rfl (.inl rfl))
      (pss_cons (ps_set (i := 5) sc_law_drawn.nd rfl (.inr rfl) (pe_op op_add pe_int (pe_call (ok_law_take T) (hr.mono (by omega)) (by rfl) T.g_law_take T.F_law_take.kp T.b_law_take .nil pass0 (pa_cons (pv 0) (pa_cons pe_int pa_nil)))))
      (pss_cons (ps_setLc (i := 6) (own := [("m", 11)]) rfl sc_law_drawn.nd rfl rfl (sw_true rfl rfl rfl (by decide +kernel)) (pi_range1 (by rfl) T.m_range (pa_cons (pe_op op_add pe_int (pe_call (ok_law_take T) (hr.mono (by omega)) (by rfl) T.g_law_take T.F_law_take.kp T.b_law_take .nil pass0 (pa_cons (pv 0) (pa_cons pe_int pa_nil)))) pa_nil)) (blkOk_by (by rfl)) (fun _ _ _ _ _ => pg_name (i := 11) sc_law_drawn.nd rfl (by first | exact .inl rfl | exact .inr rfl)) (fun _ _ _ _ _ => pts_nil) (fun _ _ _ _ _ => (pe_tupleOfK K (by rfl) T.m_tuple (pe_lc (own := [("k", 10)]) rfl sc_law_drawn.nd (pi_range1 (by rfl) T.m_range (pa_cons (pv 5) pa_nil)) (blkOk_by (by rfl)) (fun _ _ _ _ _ => pg_name (i := 10) sc_law_drawn.nd rfl (by first | exact .inl rfl | exact .inr rfl)) (fun _ _ _ _ _ => pts_nil) (fun _ _ _ _ _ => (pe_call (ok_law_take T) (hr.mono (by omega)) (by rfl) T.g_law_take T.F_law_take.kp T.b_law_take .nil pass0 (pa_cons (pv 0) (pa_cons (pv 5) pa_nil))))))))
      (pss_cons (ps_set (i := 7) sc_law_drawn.nd rfl (.inl rfl) (pe_call (ok_law_from_moves T) (hr.mono (by omega)) (by rfl) T.g_law_from_moves T.F_law_from_moves.kp T.b_law_from_moves .nil pass0 (pa_cons (pv 6) (pa_cons (pv 1) pa_nil))))
      (pss_one (ps_if (PW.pt (pw_and (pt_cmpR op_notN1 (pv 7) pe_non (nomark _)) (pw_and1 (PW.pt (pw_or (pt_cmpR op_isN1 (pv 2) pe_non (nomark _)) (pw_or1 (pt_cmpR op_gt (pe_callB (call_lenK K) (by rfl) T.m_len (by decide +kernel) (pa_cons (pv 7) pa_nil)) (pe_callB (call_lenK K) (by rfl) T.m_len (by decide +kernel) (pa_cons (pv 2) pa_nil)) (nomark _)))))))) (pss_one (ps_set (i := 2) sc_law_drawn.nd rfl (.inr rfl) (pv 7))) pss_nil))))))
      (pss_cons (ps_if (pt_cmpR op_isN1 (pv 2) pe_non (nomark _)) (pss_one (ps_set (i := 2) sc_law_drawn.nd rfl (.inr rfl) (pe_call (ok_law_plain T) (hr.mono (by omega)) (by rfl) T.g_law_plain T.F_law_plain.kp T.b_law_plain .nil pass0 (pa_cons (pv 0) (pa_cons (pv 1) pa_nil))))) pss_nil)
      (pss_cons (ps_if (PW.pt (pw_and (pt_cmpR op_lt (pe_callB (call_lenK K) (by rfl) T.m_len (by decide +kernel) (pa_cons (pv 2) pa_nil)) (pv 1) (nomark _)) (pw_and1 (pt_cmpR op_eq (pe_call (ok_law_take T) (hr.mono (by omega)) (by rfl) T.g_law_take T.F_law_take.kp T.b_law_take .nil pass0 (pa_cons (pv 0) (pa_cons pe_int pa_nil))) pe_int (nomark _))))) (pss_cons (ps_asg (pe_tup (pa_cons (pe_callB (call_lenK K) (by rfl) T.m_len (by decide +kernel) (pa_cons (pv 2) pa_nil)) (pa_cons (pe_call (ok_law_take T) (hr.mono (by omega)) (by rfl) T.g_law_take T.F_law_take.kp T.b_law_take .nil pass0 (pa_cons (pv 0) (pa_cons pe_int pa_nil))) pa_nil))) (pg_tupK K rfl (pgs_cons (pg_name (i := 8) sc_law_drawn.nd rfl (.inr rfl)) (pgs_cons (pg_name (i := 9) sc_law_drawn.nd rfl (.inr rfl)) pgs_nil))))
      (pss_cons (ps_set (i := 2) sc_law_drawn.nd rfl (.inr rfl) (pe_tupleOfK K (by rfl) T.m_tuple (pe_lc (own := [("x", 12)]) rfl sc_law_drawn.nd (pi_range1 (by rfl) T.m_range (pa_cons (pv 8) pa_nil)) (blkOk_by (by rfl)) (fun _ _ _ _ _ => pg_name (i := 12) sc_law_drawn.nd rfl (by first | exact .inl rfl | exact .inr rfl)) (fun _ _ _ _ _ => pts_nil) (fun _ _ _ _ _ => (pe_op (op_catTK K) (pe_ix (ix_seqK K) (pv 2) (pv 12) (fun _ _ => rfl)) (pe_tup (pa_cons (pe_ifExp (pt_cmpR op_eq (pv 9) pe_int (nomark _)) (pv 12) (pv 8)) pa_nil)))))))
      (pss_one (ps_set (i := 2) sc_law_drawn.nd rfl (.inr rfl) (pe_op (op_catTK K) (pv 2) (pe_tup (pa_cons (pe_ifExp (pt_cmpR op_eq (pv 9) pe_int (nomark _)) (pe_op (op_catTK K) (pe_tupRg rfl (by rfl) T.m_tuple (prg_1 (by rfl) T.m_range (pv 8))) (pe_tup (pa_cons (pv 8) pa_nil))) (pe_op (op_repT2K (K := K)) (pe_tup (pa_cons (pv 8) pa_nil)) (pe_op op_add (pv 8) pe_int))) pa_nil))))))) pss_nil)
      (pss_one (ps_ret (pe_call (ok_law_relabelled T) (hr.mono (by omega)) (by rfl) T.g_law_relabelled T.F_law_relabelled.kp T.b_law_relabelled .nil pass0 (pa_cons (pv 2) (pa_cons (pe_call (ok_law_mixed T) (hr.mono (by omega)) (by rfl) T.g_law_mixed T.F_law_mixed.kp T.b_law_mixed .nil pass0 (pa_cons (pv 0) (pa_cons (pe_listRg rfl (by rfl) T.m_list (prg_1 (by rfl) T.m_range (pe_callB (call_lenK K) (by rfl) T.m_len (by decide +kernel) (pa_cons (pv 2) pa_nil)))) pa_nil))) pa_nil))))))))), ?_⟩
    obtain ⟨G, b, n, xs, bs, ws, ds, Pd, rfl, hG, hH, hx, hbx, hn, e, hd, hR, q⟩ := h
    have hl : ∃ x1, ds = [x1] := by
      match ds, hR with
      | [x1], _ => exact ⟨x1, rfl⟩
    obtain ⟨x1, rfl⟩ := hl
    cases hd with
    | @cons v1 vs0 _ _ dv1 hd =>
    cases hd
    refine EX.finB (W := fun _ _ _ _ => False) (k := 80) (n := n) (env := [Sl.own b bs, Sl.val v1 x1, Sl.un, Sl.un, Sl.un, Sl.un, Sl.un, Sl.un, Sl.un, Sl.un, Sl.un, Sl.un, Sl.un]) rfl (good_box e hG hH hx ((.cons dv1 .nil)) n_law_drawn) q ?_
    obtain ⟨most, rfl, h1, h10, hP⟩ := hR
    refine ex_asgX2S (i := 2) (j := 3) (xe_tup (xa_ev ev_non (xe_take (m := 6) rfl hbx (by omega) (ev_int (i := 6)) (by decide) (by decide))) (P := fun _ d e => ∃ t bs', t < 6 ∧ d = .tup [.non, .int (t : Nat)] ∧ BoxD (n + 1) bs' ∧ e = [Sl.own b bs', Sl.val v1 (.int most), Sl.un, Sl.un, Sl.un, Sl.un, Sl.un, Sl.un, Sl.un, Sl.un, Sl.un, Sl.un, Sl.un]) fun vs ds e h => ?_) fun v d e h => ?_
    · obtain ⟨v2, d2, rfl, t, ht, rfl, bs', hB, rfl⟩ := h
      exact ⟨sz 2, fun v => ⟨t, bs', ht, rfl, hB, rfl⟩⟩
    obtain ⟨number, bs1, hnum, rfl, hB1, rfl⟩ := h
    refine ⟨.non, .int (number : Nat), rfl, fun v2 v3 => ?_⟩
    refine ex_forRS (n := number) (fun i e => ∃ bs' vt dt s4 s5 s6 s7, (dt = .non ∨ IsSg most dt) ∧ BoxD (n + 1 + 10 * i) bs' ∧ e = [Sl.own b bs', Sl.val v1 (.int most), Sl.val vt dt, Sl.val v3 (.int (number : Nat)), s4, s5, s6, s7, Sl.un, Sl.un, Sl.un, Sl.un, Sl.un])
      (ev_var rfl) (by omega) ⟨bs1, v2, .non, _, _, _, _, .inl rfl, hB1, rfl⟩ ?_ fun env' h => ?_
    · rintro i env' v4 hi ⟨bs2, vt, dt, s4, s5, s6, s7, hdt, hB2, rfl⟩
      refine ex_forget 5 (ex_forget 6 (ex_forget 7 ?_))
      refine ex_letX (xe_cTake (c := 2) (m := 3) rfl hB2 (by omega) (ev_int (i := 3)) (by decide) (by decide)) fun v5 d e h => ?_
      obtain ⟨t, ht, rfl, bs3, hB3, rfl⟩ := h
      obtain ⟨p, hp2, hp4, hpe⟩ : ∃ p, 2 ≤ p ∧ p ≤ 4 ∧ 2 + t = p := ⟨2 + t, by omega, by omega, rfl⟩
      rw [hpe]
      clear hpe ht
      refine ex_letX (P := fun _ d e => ∃ ms bs', d = .lst (ms.map tupN) ∧ (∀ m ∈ ms, MP.Mv p m) ∧ ms ≠ [] ∧ ms.length ≤ 2 ∧ BoxD (n + 1 + 10 * i + 10) bs' ∧ e = [Sl.own b bs', Sl.val v1 (.int most), Sl.val vt dt, Sl.val v3 (.int (number : Nat)), Sl.val v4 (.int (i : Nat)), Sl.val v5 (.int (p : Nat)), Sl.un, Sl.un, Sl.un, Sl.un, Sl.un, Sl.un, Sl.un]) (xe_lc (vs := [11]) (j := 11)
        (PI := fun ds e => ∃ c bs', 1 ≤ c ∧ c ≤ 2 ∧ ds = rgD 0 c ∧ BoxD (n + 1 + 10 * i + 2) bs' ∧ e = [Sl.own b bs', Sl.val v1 (.int most), Sl.val vt dt, Sl.val v3 (.int (number : Nat)), Sl.val v4 (.int (i : Nat)), Sl.val v5 (.int (p : Nat)), Sl.un, Sl.un, Sl.un, Sl.un, Sl.un, Sl.un, Sl.un])
        (xi_rng1 (xe_cTake (c := 1) (m := 2) rfl hB3 (by omega) (ev_int (i := 2)) (by decide) (by decide)) fun v d e h => ?_) (by decide) fun ds e h => ?_) fun v6 d e h => ?_
      · obtain ⟨t, ht, rfl, bs', hB, rfl⟩ := h
        exact ⟨1 + t, rfl, by omega, 1 + t, bs', by omega, by omega, rfl, hB, rfl⟩
      · obtain ⟨c, bs4, hc1, hc2, rfl, hB4, rfl⟩ := h
        refine ⟨by rw [rgD_length, sizeLine_eq]; omega, fun k L e => ∃ (ms : List (List Nat)) (bs' : List D), ms.length = k ∧ (∀ m ∈ ms, MP.Mv p m) ∧ L = ms.map tupN ∧ BoxD (n + 1 + 10 * i + 2 + 4 * k) bs' ∧ e = [Sl.own b bs', Sl.val v1 (.int most), Sl.val vt dt, Sl.val v3 (.int (number : Nat)), Sl.val v4 (.int (i : Nat)), Sl.val v5 (.int (p : Nat)), Sl.un, Sl.un, Sl.un, Sl.un, Sl.un, Sl.un, Sl.un], ?_, ?_, ?_⟩
        · exact ⟨[], bs4, rfl, (by intro m hm; cases hm), rfl, hB4, rfl⟩
        · rintro k L e' vm dm hdm ⟨ms, bs5, hk, hms, rfl, hB5, rfl⟩ -
          have hkc : k < c := by have := (List.getElem?_eq_some_iff.mp hdm).1; rw [rgD_length] at this; exact this
          refine ⟨rfl, ?_⟩
          refine xe_then (P1 := fun _ d e => ∃ a bs', d = .lst (lstN a) ∧ MP.Mv p a ∧ BoxD (n + 1 + 10 * i + 2 + 4 * k + 4) bs' ∧ e = [Sl.own b bs', Sl.val v1 (.int most), Sl.val vt dt, Sl.val v3 (.int (number : Nat)), Sl.val v4 (.int (i : Nat)), Sl.val v5 (.int (p : Nat)), Sl.un, Sl.un, Sl.un, Sl.un, Sl.un, Sl.val vm dm, Sl.un])
            (xe_lc (vs := [10]) (j := 10) (EVI.xi (ei_rng1 (n := (p : Nat)) (ea_cons (ev_var rfl) ea_nil) (by omega) (by omega))) (by decide) fun ds e h => ?_) fun v d e h => ?_
          · obtain ⟨rfl, rfl⟩ := h
            have el : (rgD 0 ((p : Nat) : Int).toNat).length = p := by rw [rgD_length, Int.toNat_natCast]
            refine ⟨by rw [el, sizeLine_eq]; omega, fun y L e => ∃ (a : List Nat) (bs' : List D), a.length = y ∧ (∀ m ∈ a, m < p) ∧ L = lstN a ∧ BoxD (n + 1 + 10 * i + 2 + 4 * k + y) bs' ∧ e = [Sl.own b bs', Sl.val v1 (.int most), Sl.val vt dt, Sl.val v3 (.int (number : Nat)), Sl.val v4 (.int (i : Nat)), Sl.val v5 (.int (p : Nat)), Sl.un, Sl.un, Sl.un, Sl.un, Sl.un, Sl.val vm dm, Sl.un], ?_, ?_, ?_⟩
            · exact ⟨[], bs5, rfl, (by intro m hm; cases hm), rfl, hB5, rfl⟩
            · rintro y L e' vy dy hdy ⟨a, bs6, hy, ha, rfl, hB6, rfl⟩ -
              have hyp : y < p := by have := (List.getElem?_eq_some_iff.mp hdy).1; rw [el] at this; exact this
              refine ⟨rfl, (xe_take (m := p) rfl hB6 (by omega) (ev_var rfl) (by omega) (by omega)).imp fun v d e h => ?_⟩
              obtain ⟨t, ht, rfl, bs7, hB7, rfl⟩ := h
              refine ⟨⟨a ++ [t], bs7, by rw [List.length_append, hy]; rfl, fun m hm => ?_, by rw [lstN_app], by rw [show n + 1 + 10 * i + 2 + 4 * k + (y + 1) = n + 1 + 10 * i + 2 + 4 * k + y + 1 by omega]; exact hB7, rfl⟩, rfl⟩
              rcases List.mem_append.mp hm with hm | hm
              · exact ha m hm
              · rw [List.mem_singleton.mp hm]; exact ht
            · rintro L e' ⟨a, bs6, hy, ha, rfl, hB6, rfl⟩ v
              rw [el] at hy hB6
              exact ⟨a, bs6, rfl, ⟨hy, ha⟩, hB6.mono (by omega), rfl⟩
          · obtain ⟨a, bs6, rfl, ha, hB6, rfl⟩ := h
            refine ⟨tupN a, un_tupL, fun u => ⟨⟨ms ++ [a], bs6, by rw [List.length_append, hk]; rfl, fun m hm => ?_, by rw [List.map_append]; rfl, by rw [show n + 1 + 10 * i + 2 + 4 * (k + 1) = n + 1 + 10 * i + 2 + 4 * k + 4 by omega]; exact hB6, rfl⟩, rfl⟩⟩
            rcases List.mem_append.mp hm with hm | hm
            · exact hms m hm
            · rw [List.mem_singleton.mp hm]; exact ha
        · rintro L e' ⟨ms, bs5, hk, hms, rfl, hB5, rfl⟩ v
          rw [rgD_length] at hk hB5
          refine ⟨ms, bs5, rfl, hms, fun z => ?_, by omega, hB5.mono (by omega), rfl⟩
          rw [z] at hk
          simp at hk
          omega
      · obtain ⟨ms, bs5, rfl, hms, hne, hl2, hB5, rfl⟩ := h
        refine ex_let (ev_call (ea_cons (ev_var rfl) (ea_cons (ev_var rfl) ea_nil)) ⟨ms, p, most, rfl, rfl, hms, hne, by omega, by omega, by omega, rfl⟩) fun v7 => ?_
        rcases fmD_ok hms hne h10 with hf | ⟨m, f, hsg, hm, hf⟩
        · rw [hf]
          refine ex_if (b := false) (et_is (et_and (b := false) (et_test (ev_op (ev_var rfl) ev_non op_notNN)) fun z => nomatch z) rfl) (fun z => nomatch z) fun _ => ?_
          exact ex_next ⟨bs5, vt, dt, _, _, _, _, hdt, hB5.mono (by omega), rfl⟩
        · rw [hf]
          have hT : ∃ bb, EVT K ⟨G, H, some b⟩ (tOr (tTest (tOp rIsN (tVar 2) (tC V.non))) (tTest (tOp (rI0 fun i j => V.bl (decide (j < i))) (tCB (DL.rLen K) (tCons (tVar 7) tNil)) (tCB (DL.rLen K) (tCons (tVar 2) tNil)))))
              [Sl.own b bs5, Sl.val v1 (.int most), Sl.val vt dt, Sl.val v3 (.int (number : Nat)), Sl.val v4 (.int (i : Nat)), Sl.val v5 (.int (p : Nat)), Sl.val v6 (.lst (ms.map tupN)), Sl.val v7 (tblD m f), Sl.un, Sl.un, Sl.un, Sl.un, Sl.un] bb := by
            rcases hdt with rfl | ⟨m', f', _, _, rfl⟩
            · exact ⟨_, et_or (b := false) (et_test (ev_op (ev_var rfl) ev_non op_isNN)) fun z => nomatch z⟩
            · exact ⟨_, et_or (et_test (ev_op (ev_var rfl) ev_non op_isNT)) fun _ => et_test (ev_op (ev_cb (ea_cons (ev_var rfl) ea_nil) cb_lenTbl) (ev_cb (ea_cons (ev_var rfl) ea_nil) cb_lenTbl) op_gtI)⟩
          obtain ⟨bb, hT⟩ := hT
          refine ex_if (et_and (et_test (ev_op (ev_var rfl) ev_non op_notNT)) fun _ => hT) (fun _ => ?_) fun _ => ?_
          · exact ex_asg (ev_var rfl) fun v => ⟨bs5, v, tblD m f, _, _, _, _, .inr ⟨m, f, hsg, hm, rfl⟩, hB5.mono (by omega), rfl⟩
          · exact ex_next ⟨bs5, vt, dt, _, _, _, _, hdt, hB5.mono (by omega), rfl⟩
    obtain ⟨bs2, vt, dt, s4, s5, s6, s7, hdt, hB2, rfl⟩ := h
    refine ex_forget 4 (ex_forget 5 (ex_forget 6 (ex_forget 7 ?_)))
    refine ex_seq (N := fun e => ∃ bs' vt m f, SgOk m f ∧ m ≤ most ∧ BoxD (n + 60) bs' ∧ e = [Sl.own b bs', Sl.val v1 (.int most), Sl.val vt (tblD m f), Sl.val v3 (.int (number : Nat)), Sl.un, Sl.un, Sl.un, Sl.un, Sl.un, Sl.un, Sl.un, Sl.un, Sl.un]) ?_ fun env' h => ?_
    · rcases hdt with rfl | ⟨m, f, hsg, hm, rfl⟩
      · refine ex_if (b := true) (et_test (ev_op (ev_var rfl) ev_non op_isNN)) (fun _ => ?_) fun z => nomatch z
        refine ex_asgX (xe_callB (Pd := IsSg most) rfl hB2 (by omega) (ea_cons (ev_var rfl) ea_nil) ⟨most, rfl, h1, h10, fun m f hs hm => ⟨m, f, hs, hm, rfl⟩⟩) fun v d e h => ?_
        obtain ⟨⟨m, f, hsg, hm, rfl⟩, bs3, hB3, rfl⟩ := h
        exact ⟨bs3, v, m, f, hsg, hm, hB3.mono (by omega), rfl⟩
      · refine ex_if (b := false) (et_test (ev_op (ev_var rfl) ev_non op_isNT)) (fun z => nomatch z) fun _ => ?_
        exact ex_next ⟨bs2, vt, m, f, hsg, hm, hB2.mono (by omega), rfl⟩
    obtain ⟨bs3, vt, m, f, hsg, hm, hB3, rfl⟩ := h
    refine ex_seq (N := fun e => ∃ bs' vt m f s8 s9, SgOk m f ∧ m ≤ most ∧ BoxD (n + 62) bs' ∧ e = [Sl.own b bs', Sl.val v1 (.int most), Sl.val vt (tblD m f), Sl.val v3 (.int (number : Nat)), Sl.un, Sl.un, Sl.un, Sl.un, s8, s9, Sl.un, Sl.un, Sl.un]) ?_ fun env' h => ?_
    · refine ex_ifX (xt_and (et_test (ev_op (ev_cb (ea_cons (ev_var rfl) ea_nil) cb_lenTbl) (ev_var rfl) op_ltI)) fun _ => xt_test (P2 := fun _ e => ∃ bs', BoxD (n + 61) bs' ∧ e = [Sl.own b bs', Sl.val v1 (.int most), Sl.val vt (tblD m f), Sl.val v3 (.int (number : Nat)), Sl.un, Sl.un, Sl.un, Sl.un, Sl.un, Sl.un, Sl.un, Sl.un, Sl.un])
        (xe_op (P := fun _ d e => ∃ bb, d = .bl bb ∧ ∃ bs', BoxD (n + 61) bs' ∧ e = [Sl.own b bs', Sl.val v1 (.int most), Sl.val vt (tblD m f), Sl.val v3 (.int (number : Nat)), Sl.un, Sl.un, Sl.un, Sl.un, Sl.un, Sl.un, Sl.un, Sl.un, Sl.un]) (P2 := fun _ _ d e => d = .int 0 ∧ ∃ bs', BoxD (n + 61) bs' ∧ e = [Sl.own b bs', Sl.val v1 (.int most), Sl.val vt (tblD m f), Sl.val v3 (.int (number : Nat)), Sl.un, Sl.un, Sl.un, Sl.un, Sl.un, Sl.un, Sl.un, Sl.un, Sl.un])
          (xe_take (m := 4) rfl hB3 (by omega) (ev_int (i := 4)) (by decide) (by decide)) (fun v d e h => ?_) fun v1' d1 e1 v2' d2 e2 h1' h2' => ?_) fun v d e h => ?_) (fun e h => ?_) fun e h => ?_
      · obtain ⟨t, ht, rfl, bs4, hB4, rfl⟩ := h
        exact ev_int.xe.imp fun v d e h => ⟨h.1, bs4, hB4, h.2⟩
      · obtain ⟨t, ht, rfl, _⟩ := h1'
        obtain ⟨rfl, bs4, hB4, rfl⟩ := h2'
        exact ⟨_, op_eqI, fun v => ⟨_, rfl, bs4, hB4, rfl⟩⟩
      · obtain ⟨bb, rfl, h⟩ := h
        exact ⟨bb, rfl, h⟩
      · rcases h with ⟨hlt, bs4, hB4, rfl⟩ | ⟨_, z, _⟩
        · have hlt' := of_decide_eq_true hlt
          have hmm : m < most := by omega
          refine ex_asgX2S (i := 8) (j := 9) (xe_tup (xa_ev (ev_cb (ea_cons (ev_var rfl) ea_nil) cb_lenTbl) (xe_take (m := 2) rfl hB4 (by omega) (ev_int (i := 2)) (by decide) (by decide))) (P := fun _ d e => ∃ t bs', t < 2 ∧ d = .tup [.int (m : Nat), .int (t : Nat)] ∧ BoxD (n + 62) bs' ∧ e = [Sl.own b bs', Sl.val v1 (.int most), Sl.val vt (tblD m f), Sl.val v3 (.int (number : Nat)), Sl.un, Sl.un, Sl.un, Sl.un, Sl.un, Sl.un, Sl.un, Sl.un, Sl.un]) fun vs ds e h => ?_) fun v d e h => ?_
          · obtain ⟨v2, d2, rfl, t, ht, rfl, bs', hB, rfl⟩ := h
            exact ⟨sz 2, fun v => ⟨t, bs', ht, rfl, hB, rfl⟩⟩
          obtain ⟨wy, bs5, hwy, rfl, hB5, rfl⟩ := h
          refine ⟨.int (m : Nat), .int (wy : Nat), rfl, fun v8 v9 => ?_⟩
          have hm10 : m ≤ 10 := by omega
          have hm1 := hsg.1.n1
          let g : Nat → Nat → Nat := fun x y => if x < m then (if y < m then f x y else if wy = 0 then x else m) else (if wy = 0 then y else m)
          refine ex_let (d := .tup ((List.range m).map fun x => rowD (m + 1) (g x))) (ev_then (ev_lcR (n := m) (F := fun x => rowD (m + 1) (g x)) (ev_var rfl) (by omega) (by decide) fun x vx hx => ?_) un_tupL) fun vt2 => ?_
          · have hlast : EV K ⟨G, H, some b⟩ (tTup (tCons (tIf (tTest (tOp rEq (tVar 9) (tC (V.int 0)))) (tVar 12) (tVar 8)) tNil)) [Sl.own b bs5, Sl.val v1 (.int most), Sl.val vt (tblD m f), Sl.val v3 (.int (number : Nat)), Sl.un, Sl.un, Sl.un, Sl.un, Sl.val v8 (.int (m : Nat)), Sl.val v9 (.int (wy : Nat)), Sl.un, Sl.un, Sl.val vx (.int (x : Nat))] (.tup [.int ((if wy = 0 then x else m : Nat) : Int)]) :=
              ev_tup (ea_cons (ev_if (et_test (ev_op (ev_var rfl) ev_int op_eqI)) (fun z => ev_is (ev_var rfl) (by have := of_decide_eq_true z; rw [if_pos (by omega)])) fun z => ev_is (ev_var rfl) (by have := of_decide_eq_false z; rw [if_neg (by omega)])) ea_nil) (sz 1)
            refine ev_is (ev_op (ev_tbl (ev_var rfl) (ev_var rfl) hx) hlast (op_catTD (by simp; rw [sizeLine_eq]; omega) (fun z => ?_) (fun z => nomatch z))) ?_
            · have := congrArg List.length z
              simp at this
              omega
            · rw [row_more]
              refine rowD_congr fun y hy => ?_
              show _ = if x < m then _ else _
              rw [if_pos hx]
          · refine ex_asg (d := tblD (m + 1) g) (ev_is (ev_op (ev_var rfl) (y := .tup [rowD (m + 1) (g m)]) (ev_tup (ea_cons (ev_if (et_test (ev_op (ev_var rfl) ev_int op_eqI)) (fun z => ?_) fun z => ?_) ea_nil) (sz 1)) (op_catTD (by simp; rw [sizeLine_eq]; omega) (fun z => ?_) (fun z => nomatch z))) tbl_more) fun v => ⟨bs5, v, m + 1, g, _, _, ?_, by omega, hB5, rfl⟩
            · have hw := of_decide_eq_true z
              refine ev_is (ev_op (ev_tupRg1 (ev_var rfl) (by omega) (by omega)) (ev_tup (ea_cons (ev_var rfl) ea_nil) (sz 1)) (op_catTD (by rw [rgD_length]; simp; rw [sizeLine_eq]; omega) (fun z => ?_) (fun z => nomatch z))) ?_
              · have := congrArg List.length z
                rw [rgD_length] at this
                simp at this
                omega
              · rw [Int.toNat_natCast, rgD_nat]
                refine (row_more (n := m) (f := fun y => y) (y := m)).trans (rowD_congr fun y hy => ?_)
                show _ = if m < m then _ else _
                rw [if_neg (Nat.lt_irrefl m), if_pos (show wy = 0 by omega)]
                split <;> omega
            · have hw := of_decide_eq_false z
              refine ev_is (ev_op (ev_tup (ea_cons (ev_var rfl) ea_nil) (sz 1)) (ev_op (ev_var rfl) (ev_int (i := 1)) op_addI) (op_repTD (by omega) (by omega) (fun z => nomatch z) (by simp))) ?_
              rw [show ((m : Int) + 1).toNat = m + 1 by omega, rep_map]
              refine rowD_congr (f := fun _ => m) fun y hy => ?_
              show _ = if m < m then _ else _
              rw [if_neg (Nat.lt_irrefl m), if_neg (by omega)]
            · have := congrArg List.length z
              simp at this
              omega
            · have hs : MP.Semi (m + 1) g := by
                by_cases hw : wy = 0
                · refine (MP.semi_id hsg.2).congr fun x y hx hy => ?_
                  show (if x < m then _ else _) = MP.idF m f x y
                  unfold MP.idF
                  rw [if_pos hw, if_pos hw]
                · refine (MP.semi_ze hsg.2).congr fun x y hx hy => ?_
                  show (if x < m then _ else _) = MP.zeF m f x y
                  unfold MP.zeF
                  rw [if_neg hw, if_neg hw]
              exact SgOk.of hs (by omega) (by omega)
        · cases z
      · rcases h with ⟨hlt, bs4, hB4, rfl⟩ | ⟨_, _, rfl⟩
        · exact ex_next ⟨bs4, vt, m, f, _, _, hsg, hm, hB4.mono (by omega), rfl⟩
        · exact ex_next ⟨bs3, vt, m, f, _, _, hsg, hm, hB3.mono (by omega), rfl⟩
    obtain ⟨bs4, vt, m, f, s8, s9, hsg, hm, hB4, rfl⟩ := h
    refine ex_forget 8 (ex_forget 9 ?_)
    have hm10 := hsg.1.n10
    refine ex_retX (xe_call (P := fun _ d e => IsSg most d ∧ ∃ bs', BoxD (n + 72) bs' ∧ e[0]? = some (.own b bs')) (xa_ev (d1 := tblD m f) (ev_var rfl) (xe_callB (Pd := fun d => ∃ ns, d = .lst (lstN ns) ∧ ns.Perm (List.range m)) rfl hB4 (by omega) (ea_cons (ev_lstRg1 (ev_cb (ea_cons (ev_var rfl) ea_nil) cb_lenTbl) (by omega) (by omega)) ea_nil) ⟨List.range m, by rw [Int.toNat_natCast, rgD_nat], by simp; omega, fun ns hns => ⟨ns, rfl, hns⟩⟩)) fun vs ds e h => ?_) fun v d e h => ?_
    · obtain ⟨v2, d2, rfl, ⟨ns, rfl, hns⟩, bs5, hB5, rfl⟩ := h
      exact ⟨tblD m (MP.relF f ns), ⟨m, f, ns, rfl, hsg.1, rfl, hns, rfl⟩, fun v => ⟨⟨m, _, SgOk.of (MP.semi_rel hsg.2 hns) hsg.1.n1 hm10, hm, rfl⟩, bs5, hB5, rfl⟩⟩
    · obtain ⟨⟨m', f', hs', hm', rfl⟩, bs5, hB5, he⟩ := h
      exact ⟨hP _ _ hs' hm', bs5, hB5.mono (by omega), he⟩

end
end Kx


set_option Elab.async false
set_option linter.all false
set_option maxRecDepth 100000
set_option maxHeartbeats 2000000
namespace Kx
open PySem PySem.Spec PyProof.Rows L2 DL
section
variable {P : Program} {w : World} {K : PySem.W.Frag} {mg : Str → Option Value} {base : Heap}
/-- equal data, at most n deep -/
def isAtom : D → Bool
  | .non => true | .bl _ => true | .int _ => true | .str _ => true | _ => false
def Sm : Nat → D → D → Prop
  | 0, x, y => x.top = y.top ∧ isAtom y.top = true
  | n + 1, x, y => (x.top = y.top ∧ isAtom y.top = true) ∨ ∃ xs ys, ((x.top = .tup xs ∧ y.top = .tup ys) ∨ (x.top = .lst xs ∧ y.top = .lst ys)) ∧ xs.length = ys.length ∧ ys.length < 10000 ∧ ∀ (i : Nat) (a b : D), xs[i]? = some a → ys[i]? = some b → Sm n a b
def R_same (n : Nat) : List D → D → Prop
  | [x, y], d => Sm n x y ∧ d = .bl true
  | _, _ => False
/-- the same small dict -/
def spSD (K : PySem.W.Frag) : Sp := fun vs H Q _ => ∃ (a : Addr) (kvs : List (Key × V)), vs = [.ref a, .ref a] ∧ H a = some (.dK kvs) ∧ (kvs = [] ∨ ∃ k i, kvs = [(k, .int i)]) ∧ ∀ H', Ex H H' → Q (.bl true) H'
def spSm (K : PySem.W.Frag) : Nat → Sp
  | 0 => fun _ _ _ _ => False
  | n + 1 => fun vs H Q E => spD K (R_same n) vs H Q E ∨ (1 ≤ n ∧ spSD K vs H Q E)
theorem spSm_len {n : Nat} {vs : List V} {H : Hp} {Q : VK} {E : XK} (h : spSm K n vs H Q E) : vs.length = 2 := by
  cases n with
  | zero => exact h.elim
  | succ n =>
    rcases h with ⟨G, ds, d, e, hd, hR, q⟩ | ⟨_, a, kvs, rfl, _⟩
    · rw [hd.length]
      match ds, hR with
      | [_, _], _ => rfl
    · rfl
variable {β : Bas} {env : Env'} {te : TE}
theorem ev_isN {d : D} {t : String} (h : EV K β te env d) (ht : tyD d = some t) : EV K β (tOp rIsN te (tC .non)) env (.bl (decide (t = "NoneType"))) := fun σ G H g Q q =>
  h σ G H g _ fun v G1 H1 t1 dv => ⟨rfl, by
    have e : decide (v = .non) = decide (t = "NoneType") := by
      have dt := Dat.top dv
      rw [← tyD_top] at ht
      have nt := top_no (d := d)
      generalize d.top = y at dt ht nt
      cases dt with
      | non => cases ht; rfl
      | bl => cases ht; rfl
      | int => cases ht; rfl
      | str => cases ht; rfl
      | tup => cases ht; rfl
      | lst => cases ht; rfl
      | dct => cases ht; rfl
      | op => cases ht
      | rng => cases ht
      | exc => cases ht
      | set => cases ht
      | idn a => exact absurd rfl (nt _ _)
    rw [e]
    exact q _ G1 H1 t1 (.bl _)⟩
theorem ev_isT {d : D} {t T : String} {b : Bool} (h : EV K β te env d) (ht : tyD d = some t) (hk : kitB t T = some b) : EV K β (tCB (rIsi K) (tCons te (tCons (tC (.ty T)) tNil))) env (.bl b) :=
  ev_cb (ea_cons h (ea_cons ev_c ea_nil)) (cb_isi ht hk)
def rLenB (K : PySem.W.Frag) : List V → Hp → VK → Prop := fun xs H Q => DL.rLen K xs H Q ∨ ∃ a kvs, xs = [V.ref a] ∧ H a = some (.dK kvs) ∧ Q (.int kvs.length) H
theorem call_lenB {X : Cx} (K : PySem.W.Frag) (h : X.K = K := by rfl) : CallR X (.builtin "len") (rLenB K) := fun pins s σ H xs us Q I r hh => by
  rcases hh with hh | hh
  · exact call_lenK K h pins s σ H xs us Q I r hh
  · exact call_lenD pins s σ H xs us Q I r hh
theorem cb_or1 {r r' : List V → Hp → VK → Prop} {xs : List D} {z : D} (h : CbD K r xs z) : CbD K (fun xs H Q => r xs H Q ∨ r' xs H Q) xs z := fun G H vs e dl Q q => .inl (h G H vs e dl Q q)
theorem cb_lenB {x : D} {ds : List D} (h : x = .tup ds ∨ x = .lst ds) : CbD K (rLenB K) [x] (.int ds.length) := by
  rcases h with rfl | rfl
  · exact cb_or1 cb_lenT
  · exact cb_or1 cb_lenL
theorem ev_callSm {n : Nat} {ta : TA} {a b : D} {E : XK} (he : EVA K β ta env [a, b]) (h : Sm n a b) : EV K β (tCall (spSm K (n + 1)) [] E ta) env (.bl true) := fun σ G H g Q q =>
  he σ G H g _ fun vs G1 H1 t1 d1 => by
    show spSm K (n + 1) (vs ++ []) H1 Q E
    rw [List.append_nil]
    exact .inl ⟨G1, [a, b], _, t1.gh, d1, ⟨h, rfl⟩, fun v G2 H2 t2 dv => q v G2 H2 (t1.trans t2) dv⟩
theorem ev_dlc {m : Nat} {a : Addr} {kds : List (Key × D)} {E : XK} (h0 : env[0]? = some (.val (.ref a) (.dct kds))) (h1 : env[1]? = some (.val (.ref a) (.dct kds))) (hk : kds = [] ∨ ∃ k i, kds = [(k, .int i)]) (hl : env.length = 4) :
    EV K β (tLockE (tLc (iKeys (tVar 1)) (gName 2) (tOr (tB (tDNotIn (tVar 2) (tVar 0))) (tNot (tB (tCall (spSm K (m + 1)) [] E (tCons (tDGet (tVar 0) (tVar 2)) (tCons (tDGet (tVar 1) (tVar 2)) tNil)))))) (tVar 2) [2])) env (.lst []) := fun σ G H g Q q => by
  obtain ⟨o0, z0, rfl, d0⟩ := g.sl.get h0
  obtain ⟨o1, z1, rfl, d1⟩ := g.sl.get h1
  cases d1 with
  | @dct _ kvs _ ga dk =>
  have hH : H a = some (.dK kvs) := g.gh _ _ ga
  have hkv : kvs = [] ∨ ∃ k i, kvs = [(k, V.int i)] := by
    rcases hk with rfl | ⟨k, i, rfl⟩
    · cases dk; exact .inl rfl
    · cases dk with
      | cons x r => cases r; cases x; exact .inr ⟨k, i, rfl⟩
  have lenσ : σ.length = 4 := by
    have : ∀ {σ : Sg} {env : Env'}, SlsOk K β G H σ env → σ.length = env.length := by
      intro σ env s
      induction s with
      | nil => rfl
      | cons _ _ ih => simp [ih]
    rw [this g.sl, hl]
  refine ⟨a, .dK kvs, hH, trivial, fun od => ⟨.ref a, z1, a, od, rfl, .inl ⟨kvs, upd_same, ?_⟩⟩⟩
  intro Dl hD
  have hDa : Dl ≠ a := fun z => by rw [z, upd_same] at hD; cases hD
  have hDH : H Dl = none := by rw [upd_ne hDa] at hD; exact hD
  -- the state between the turns
  refine ⟨fun i mm H' => mm = kvs.length - i ∧ i ≤ kvs.length ∧ H' Dl = some (.lst []) ∧ H' a = some (.frz od (.dK kvs)) ∧ ∀ b o, b ≠ a → H b = some o → H' b = some o, ⟨kvs.length, by simp, Nat.zero_le _, upd_same, by rw [upd_ne (Ne.symm hDa), upd_same], fun b o hb e => ?_⟩, ?_⟩
  · rw [upd_ne (fun z => by rw [z, hDH] at e; cases e), upd_ne hb]; exact e
  rintro i mm H' ⟨rfl, hi, hDl, hfa, hold⟩
  by_cases hlt : i < kvs.length
  · refine .inr ⟨⟨hfa, hlt⟩, fun H' => i + 1 ≤ kvs.length ∧ H' Dl = some (.lst []) ∧ H' a = some (.frz od (.dK kvs)) ∧ ∀ b o, b ≠ a → H b = some o → H' b = some o, fun H'' ⟨z1, z2, z3, z4⟩ => ⟨kvs.length - (i + 1), by omega, rfl, z1, z2, z3, z4⟩, fun x H'' hy => ?_⟩
    obtain ⟨rfl, k, v, hkv2, rfl⟩ := hy
    have hv : ∃ j, v = V.int j := by
      rcases hkv with rfl | ⟨k', j, rfl⟩
      · cases hkv2
      · cases i with
        | zero => cases hkv2; exact ⟨j, rfl⟩
        | succ i => simp at hkv2
    obtain ⟨j, rfl⟩ := hv
    have hval : valV kvs k = some (V.int j) := by
      rcases hkv with rfl | ⟨k', j', rfl⟩
      · cases hkv2
      · cases i with
        | zero => cases hkv2; simp [valV]
        | succ i => simp at hkv2
    refine ⟨wipe_set σ [2] 2 _ (by decide), ?_⟩
    have w0 : ((L2.wipe σ [2]).set 2 (some (kV k)))[0]? = some (some (V.ref a)) := by
      show ((σ.set 2 none).set 2 (some (kV k)))[0]? = _
      rw [List.getElem?_set_ne (by decide), List.getElem?_set_ne (by decide)]; exact z0
    have w1 : ((L2.wipe σ [2]).set 2 (some (kV k)))[1]? = some (some (V.ref a)) := by
      show ((σ.set 2 none).set 2 (some (kV k)))[1]? = _
      rw [List.getElem?_set_ne (by decide), List.getElem?_set_ne (by decide)]; exact z1
    have w2 : ((L2.wipe σ [2]).set 2 (some (kV k)))[2]? = some (some (kV k)) := by
      show ((σ.set 2 none).set 2 (some (kV k)))[2]? = _
      rw [List.getElem?_set_self (by rw [List.length_set, lenσ]; decide)]
    have gt : DGet H'' a (kV k) (some (V.int j)) := .inl ⟨kvs, k, .inr ⟨_, hfa⟩, rfl, hval.symm⟩
    refine ⟨_, w2, _, w0, a, _, rfl, gt, false, rfl, ?_⟩
    show _
    refine ⟨_, w0, _, w2, a, _, rfl, gt, _, w1, _, w2, a, _, rfl, gt, ?_⟩
    refine .inl ⟨fun _ => none, [.int j, .int j], _, (fun _ _ e => by cases e), .cons (.int j) (.cons (.int j) .nil), ⟨?_, rfl⟩, fun v G2 H2 t2 dv => ?_⟩
    · cases m with
      | zero => exact ⟨rfl, rfl⟩
      | succ m => exact .inl ⟨rfl, rfl⟩
    · obtain rfl := dv.blV
      refine ⟨true, rfl, ?_⟩
      show (if (!true) = true then _ else _)
      rw [if_neg (by decide)]
      exact ⟨hlt, t2.hh _ _ hDl, t2.hh _ _ hfa, fun b o hb e => t2.hh _ _ (hold b o hb e)⟩
  · have hil : kvs.length ≤ i := by omega
    refine .inl ⟨⟨hfa, hil⟩, hfa, ?_⟩
    refine q (.ref Dl) (upd G Dl (.lst [])) (upd H' a (.dK kvs)) ⟨.new (g.gh.back hDH), fun b o e => ?_, fun b o e => ?_, fun b e1 e2 => ?_⟩ (.lst upd_same .nil)
    · by_cases hb : b = a
      · rw [hb, upd_same]; rw [hb, hH] at e; exact e
      · rw [upd_ne hb]; exact hold b o hb e
    · by_cases hb : b = Dl
      · rw [hb, upd_same] at e; rw [hb, upd_ne hDa, hDl]; exact e
      · rw [upd_ne hb] at e
        by_cases hb2 : b = a
        · rw [hb2, upd_same]; rw [hb2, ga] at e; exact e
        · rw [upd_ne hb2]; exact hold b o hb2 (g.gh _ _ e)
    · rw [upd_ne (fun z => e2 (by rw [z]; exact hDH))]; exact e1
theorem cb_or2 {r r' : List V → Hp → VK → Prop} {xs : List D} {z : D} (h : CbD K r' xs z) : CbD K (fun xs H Q => r xs H Q ∨ r' xs H Q) xs z := fun G H vs e dl Q q => .inr (h G H vs e dl Q q)
theorem DatK.length {G : Hp} : ∀ {vs : List (Key × V)} {ds : List (Key × D)}, DatK K G vs ds → vs.length = ds.length
  | _, _, .nil => rfl
  | _, _, .cons _ t => by rw [List.length_cons, List.length_cons, DatK.length t]
theorem cb_lenBD {kds : List (Key × D)} : CbD K (rLenB K) [.dct kds] (.int kds.length) := cb_or2 fun G H vs e dl Q q => by
  cases dl with | cons a t =>
  cases t
  cases a with
  | dct h1 h2 => exact ⟨_, _, rfl, e _ _ h1, by rw [DatK.length h2]; exact q _ G H (.refl e) (.int _)⟩
theorem ok_same_step (T : Tx K mg) (n : Nat) (ih : FnOk P w K mg base CX0 n T.f_law_same T.d_law_same p_law_same (spSm K n)) : FnOk P w K mg base CX0 (n + 1) T.f_law_same T.d_law_same p_law_same (spSm K (n + 1)) := by
  refine T.F_law_same.ok sc_law_same (fun vs H Q E h => ?_) (fun cdv A outer s H vs Q E hr h => ?_)
  · exact spSm_len h
  · refine ⟨_, (pss_cons (ps_if (PW.pt (pw_or (pt_cmpR op_isN1 (pv 1) pe_non (nomark _)) (pw_or1 (pt_val (pe_callB (call_isiK K) (by rfl) T.m_isinstance (by decide +kernel) (pa_cons (pv 1) (pa_cons (pe_bltn (v := .ty "bool") (by rfl) T.m_bool (by decide +kernel) rfl) pa_nil))))))) (pss_one (ps_ret (pe_ifExp (pt_cmpR op_isN1 (pv 1) pe_non (nomark _)) (pe_cmpR op_isN1 (pv 0) pe_non (nomark _)) (pe_and (pe_callB (call_isiK K) (by rfl) T.m_isinstance (by decide +kernel) (pa_cons (pv 0) (pa_cons (pe_bltn (v := .ty "bool") (by rfl) T.m_bool (by decide +kernel) rfl) pa_nil))) (pe_one (pe_cmpR op_eq (pe_cmpR op_isBl (pv 0) pe_bl (nomark _)) (pe_cmpR op_isBl (pv 1) pe_bl (nomark _)) (nomark _))))))) pss_nil)
      (pss_cons (ps_if (pt_val (pe_callB (call_isiK K) (by rfl) T.m_isinstance (by decide +kernel) (pa_cons (pv 1) (pa_cons (pe_bltn (v := .ty "int") (by rfl) T.m_int (by decide +kernel) rfl) pa_nil)))) (pss_one (ps_ret (pe_and (pe_callB (call_isiK K) (by rfl) T.m_isinstance (by decide +kernel) (pa_cons (pv 0) (pa_cons (pe_bltn (v := .ty "int") (by rfl) T.m_int (by decide +kernel) rfl) pa_nil))) (pe_and (pe_not (pe_callB (call_isiK K) (by rfl) T.m_isinstance (by decide +kernel) (pa_cons (pv 0) (pa_cons (pe_bltn (v := .ty "bool") (by rfl) T.m_bool (by decide +kernel) rfl) pa_nil)))) (pe_one (pe_cmpR op_eq (pe_op op_sub (pe_callTy call_int1 (by rfl) T.m_int (by decide +kernel) (pa_cons (pv 0) pa_nil)) (pv 1)) pe_int (nomark _))))))) pss_nil)
      (pss_cons (ps_if (pt_val (pe_callB (call_isiK K) (by rfl) T.m_isinstance (by decide +kernel) (pa_cons (pv 1) (pa_cons (pe_bltn (v := .ty "str") (by rfl) T.m_str (by decide +kernel) rfl) pa_nil)))) (pss_one (ps_ret (pe_and (pe_callB (call_isiK K) (by rfl) T.m_isinstance (by decide +kernel) (pa_cons (pv 0) (pa_cons (pe_bltn (v := .ty "str") (by rfl) T.m_str (by decide +kernel) rfl) pa_nil))) (pe_one (pe_cmpR op_eq (pv 0) (pv 1) (nomark _)))))) pss_nil)
      (pss_cons (ps_if (pt_val (pe_callB (call_isiK K) (by rfl) T.m_isinstance (by decide +kernel) (pa_cons (pv 1) (pa_cons (pe_bltn (v := .ty "dict") (by rfl) T.m_dict (by decide +kernel) rfl) pa_nil)))) (pss_cons (ps_if (PW.pt (pw_or (pt_not (pt_val (pe_callB (call_isiK K) (by rfl) T.m_isinstance (by decide +kernel) (pa_cons (pv 0) (pa_cons (pe_bltn (v := .ty "dict") (by rfl) T.m_dict (by decide +kernel) rfl) pa_nil))))) (pw_or1 (pt_cmpR op_ne (pe_callB (call_lenB K) (by rfl) T.m_len (by decide +kernel) (pa_cons (pv 0) pa_nil)) (pe_callB (call_lenB K) (by rfl) T.m_len (by decide +kernel) (pa_cons (pv 1) pa_nil)) (nomark _))))) (pss_one (ps_ret pe_bl)) pss_nil)
      (pss_one (ps_ret (pe_cmpR (op_eqD hr.units) (pe_lock (pe_lc (own := [("key", 2)]) rfl sc_law_same.nd (pi_keys (pv 1)) (blkOk_by (by rfl)) (fun _ _ _ _ _ => pg_name (i := 2) sc_law_same.nd rfl (by first | exact .inl rfl | exact .inr rfl)) (fun _ _ _ _ _ => (pts_one (PW.pt (pw_or (pt_cmp (pc_dnotin (hu_of hr) (pv 2) (pv 0))) (pw_or1 (pt_not (pt_val (pe_call ih (hr.mono (by omega)) (by rfl) T.g_law_same T.F_law_same.kp T.b_law_same .nil pass0 (pa_cons (pe_dget (hu_of hr) (pv 0) (pv 2) (fun _ _ => rfl)) (pa_cons (pe_dget (hu_of hr) (pv 1) (pv 2) (fun _ _ => rfl)) pa_nil)))))))))) (fun _ _ _ _ _ => (pv 2)))) (pe_lst pa_nil) (nomark _))))) pss_nil)
      (pss_cons (ps_if (PW.pt (pw_or (pt_not (pt_val (pe_callB (call_isiTK K) (by rfl) T.m_isinstance (by decide +kernel) (pa_cons (pv 1) (pa_cons (pe_tup (pa_cons (pe_bltn (v := .ty "list") (by rfl) T.m_list (by decide +kernel) rfl) (pa_cons (pe_bltn (v := .ty "tuple") (by rfl) T.m_tuple (by decide +kernel) rfl) pa_nil))) pa_nil))))) (pw_or1 (pt_not (pt_val (pe_callB (call_isiTK K) (by rfl) T.m_isinstance (by decide +kernel) (pa_cons (pv 0) (pa_cons (pe_tup (pa_cons (pe_bltn (v := .ty "list") (by rfl) T.m_list (by decide +kernel) rfl) (pa_cons (pe_bltn (v := .ty "tuple") (by rfl) T.m_tuple (by decide +kernel) rfl) pa_nil))) pa_nil)))))))) (pss_one (ps_ret pe_bl)) pss_nil)
      (pss_cons (ps_if (PW.pt (pw_or (pt_cmpR op_ne (pe_callB (call_isiK K) (by rfl) T.m_isinstance (by decide +kernel) (pa_cons (pv 0) (pa_cons (pe_bltn (v := .ty "list") (by rfl) T.m_list (by decide +kernel) rfl) pa_nil))) (pe_callB (call_isiK K) (by rfl) T.m_isinstance (by decide +kernel) (pa_cons (pv 1) (pa_cons (pe_bltn (v := .ty "list") (by rfl) T.m_list (by decide +kernel) rfl) pa_nil))) (nomark _)) (pw_or1 (pt_cmpR op_ne (pe_callB (call_lenB K) (by rfl) T.m_len (by decide +kernel) (pa_cons (pv 0) pa_nil)) (pe_callB (call_lenB K) (by rfl) T.m_len (by decide +kernel) (pa_cons (pv 1) pa_nil)) (nomark _))))) (pss_one (ps_ret pe_bl)) pss_nil)
      (pss_one (ps_ret (pe_cmpR (op_eqD hr.units) (pe_lc (own := [("k", 3)]) rfl sc_law_same.nd (pi_range1 (by rfl) T.m_range (pa_cons (pe_callB (call_lenB K) (by rfl) T.m_len (by decide +kernel) (pa_cons (pv 1) pa_nil)) pa_nil)) (blkOk_by (by rfl)) (fun _ _ _ _ _ => pg_name (i := 3) sc_law_same.nd rfl (by first | exact .inl rfl | exact .inr rfl)) (fun _ _ _ _ _ => (pts_one (pt_not (pt_val (pe_call ih (hr.mono (by omega)) (by rfl) T.g_law_same T.F_law_same.kp T.b_law_same .nil pass0 (pa_cons (pe_ix (ix_seqK K) (pv 0) (pv 3) (fun _ _ => rfl)) (pa_cons (pe_ix (ix_seqK K) (pv 1) (pv 3) (fun _ _ => rfl)) pa_nil))))))) (fun _ _ _ _ _ => (pv 3))) (pe_lst pa_nil) (nomark _)))))))))), ?_⟩
    rcases h with ⟨G, ds, d, e, hd, hR, q⟩ | ⟨hn, a, kvs, rfl, ha, hk, q⟩
    · have hl : ∃ x0 x1, ds = [x0, x1] := by
        match ds, hR with
        | [x0, x1], _ => exact ⟨x0, x1, rfl⟩
      obtain ⟨x0, x1, rfl⟩ := hl
      cases hd with
      | @cons v0 vs0 _ _ dv0 hd =>
      cases hd with
      | @cons v1 vs1 _ _ dv1 hd =>
      cases hd
      obtain ⟨hS, rfl⟩ := hR
      refine EX.fin (W := fun _ _ _ _ => False) (good_start e (.cons dv0 (.cons dv1 .nil)) n_law_same) q ?_
      show EX K ⟨G, H, none⟩ _ _ [Sl.val v0 x0, Sl.val v1 x1, Sl.un, Sl.un] _
      have tst : ∀ {t : String} {c : Bool}, tyD x1 = some t → kitB t "bool" = some c → EVT K ⟨G, H, none⟩ (tOr (tTest (tOp rIsN (tVar 1) (tC .non))) (tB (tCB (rIsi K) (tCons (tVar 1) (tCons (tC (.ty "bool")) tNil))))) [Sl.val v0 x0, Sl.val v1 x1, Sl.un, Sl.un] (decide (t = "NoneType") || c) :=
        fun ht hk => et_or (et_test (ev_isN (ev_var rfl) ht)) fun _ => et_B (ev_isT (ev_var rfl) ht hk)
      have hS' : (x0.top = x1.top ∧ isAtom x1.top = true) ∨ ∃ m, n = m + 1 ∧ ∃ xs ys, ((x0.top = .tup xs ∧ x1.top = .tup ys) ∨ (x0.top = .lst xs ∧ x1.top = .lst ys)) ∧ xs.length = ys.length ∧ ys.length < 10000 ∧ ∀ (i : Nat) (a b : D), xs[i]? = some a → ys[i]? = some b → Sm m a b := by
        cases n with
        | zero => exact .inl hS
        | succ m => exact hS.imp id fun h => ⟨m, rfl, h⟩
      rcases hS' with ⟨he, hA⟩ | ⟨m, rfl, xs, ys, hT, hlen, hlt, hall⟩
      · have hty : tyD x0 = tyD x1 := by rw [← tyD_top, he, tyD_top]
        cases h1 : x1.top with
        | non =>
          have ht : tyD x1 = some "NoneType" := by rw [← tyD_top, h1]; rfl
          refine ex_when (tst (c := false) ht rfl) (fun _ => ?_) fun h => absurd h (by decide)
          exact ex_ret (ev_if (et_test (ev_isN (ev_var rfl) ht)) (fun _ => ev_isN (ev_var rfl) (hty.trans ht)) fun h => absurd h (by decide)) fun v => rfl
        | bl b =>
          have ht : tyD x1 = some "bool" := by rw [← tyD_top, h1]; rfl
          refine ex_when (tst (c := true) ht rfl) (fun _ => ?_) fun h => absurd h (by decide)
          refine ex_ret (ev_if (et_test (ev_isN (ev_var rfl) ht)) (fun h => absurd h (by decide)) fun _ => ?_) fun v => rfl
          refine ev_is (ev_and (b := true) (ev_isT (ev_var rfl) (hty.trans ht) rfl) fun _ => ev_is (ev_op (ev_op (ev_tp (ev_var rfl) (he.trans h1)) ev_bl op_isBD) (ev_op (ev_tp (ev_var rfl) h1) ev_bl op_isBD) op_eqB) ?_) rfl
          simp
        | int i =>
          have ht : tyD x1 = some "int" := by rw [← tyD_top, h1]; rfl
          refine ex_when (tst (c := false) ht rfl) (fun h => absurd h (by decide)) fun _ => ?_
          refine ex_when (et_B (ev_isT (ev_var rfl) ht rfl)) (fun _ => ?_) fun h => absurd h (by decide)
          refine ex_ret (ev_is (ev_and (b := true) (ev_isT (b := true) (ev_var rfl) (hty.trans ht) rfl) fun _ => ev_is (ev_and (ev_not (a := false) (ev_isT (b := false) (ev_var rfl) (hty.trans ht) rfl)) fun _ => ev_op (ev_op (ev_cb (ea_cons (ev_tp (ev_var rfl) (he.trans h1)) ea_nil) cb_int) (ev_tp (ev_var rfl) h1) op_subI) ev_int op_eqI) ?_) rfl) fun v => rfl
          simp
        | str i =>
          have ht : tyD x1 = some "str" := by rw [← tyD_top, h1]; rfl
          refine ex_when (tst (c := false) ht rfl) (fun h => absurd h (by decide)) fun _ => ?_
          refine ex_when (et_B (ev_isT (ev_var rfl) ht rfl)) (fun h => absurd h (by decide)) fun _ => ?_
          refine ex_when (et_B (ev_isT (ev_var rfl) ht rfl)) (fun _ => ?_) fun h => absurd h (by decide)
          refine ex_ret (ev_is (ev_and (ev_isT (b := true) (ev_var rfl) (hty.trans ht) rfl) fun _ => ev_op (ev_tp (ev_var rfl) (he.trans h1)) (ev_tp (ev_var rfl) h1) op_eqStr) ?_) fun v => rfl
          simp
        | _ => rw [h1] at hA; cases hA
      · obtain ⟨ty, L, ht0, ht1, hN, hb, hi, hs, hdd, hL, hTu⟩ : ∃ (ty : String) (L : Bool), tyD x0 = some ty ∧ tyD x1 = some ty ∧ decide (ty = "NoneType") = false ∧ kitB ty "bool" = some false ∧ kitB ty "int" = some false ∧ kitB ty "str" = some false ∧ kitB ty "dict" = some false ∧ kitB ty "list" = some L ∧ kitB ty "tuple" = some (!L) := by
          rcases hT with ⟨a0, a1⟩ | ⟨a0, a1⟩
          · exact ⟨"tuple", false, by rw [← tyD_top, a0]; rfl, by rw [← tyD_top, a1]; rfl, rfl, rfl, rfl, rfl, rfl, rfl, rfl⟩
          · exact ⟨"list", true, by rw [← tyD_top, a0]; rfl, by rw [← tyD_top, a1]; rfl, rfl, rfl, rfl, rfl, rfl, rfl, rfl⟩
        have hx0 : x0.top = .tup xs ∨ x0.top = .lst xs := hT.imp (fun h => h.1) (fun h => h.1)
        have hx1 : x1.top = .tup ys ∨ x1.top = .lst ys := hT.imp (fun h => h.2) (fun h => h.2)
        refine ex_when (tst ht1 hb) (fun h => by rw [hN] at h; cases h) fun _ => ?_
        refine ex_when (et_B (ev_isT (ev_var rfl) ht1 hi)) (fun h => nomatch h) fun _ => ?_
        refine ex_when (et_B (ev_isT (ev_var rfl) ht1 hs)) (fun h => nomatch h) fun _ => ?_
        refine ex_when (et_B (ev_isT (ev_var rfl) ht1 hdd)) (fun h => nomatch h) fun _ => ?_
        refine ex_when (b := false) (et_is (et_or (et_not (et_B (ev_isi2 (ev_var rfl) ht1 hL hTu))) fun _ => et_not (et_B (ev_isi2 (ev_var rfl) ht0 hL hTu))) (by cases L <;> rfl)) (fun h => nomatch h) fun _ => ?_
        refine ex_when (b := false) (et_is (et_or (et_test (ev_op (ev_isT (ev_var rfl) ht0 hL) (ev_isT (ev_var rfl) ht1 hL) op_neB)) fun _ => et_test (ev_op (ev_cb (ea_cons (ev_top (ev_var rfl)) ea_nil) (cb_lenB hx0)) (ev_cb (ea_cons (ev_top (ev_var rfl)) ea_nil) (cb_lenB hx1)) op_neI)) (by rw [hlen]; simp)) (fun h => nomatch h) fun _ => ?_
        have hnil : keep (fun _ => false) (fun _ => D.non) ys.length = [] := by unfold keep; simp
        refine ex_ret (ev_op (ev_is (ev_lcRf (n := ys.length) (f := fun _ => false) (F := fun _ => .non) (ev_cb (ea_cons (ev_top (ev_var rfl)) ea_nil) (cb_lenB hx1)) (by omega) (by decide) fun i v hi => ⟨?_, fun h => nomatch h⟩) (by rw [hnil])) (ev_lst ea_nil (sz 0)) op_eqNil) fun v => rfl
        have e0 : xs[i]? = some xs[i] := List.getElem?_eq_getElem (by omega)
        have e1 : ys[i]? = some ys[i] := List.getElem?_eq_getElem hi
        exact et_is (et_not (et_B (ev_callSm (ea_cons (ev_op (ev_top (ev_var rfl)) (ev_var rfl) (op_ix hx0 (atI_natD e0))) (ea_cons (ev_op (ev_top (ev_var rfl)) (ev_var rfl) (op_ix hx1 (atI_natD e1))) ea_nil)) (hall i _ _ e0 e1)))) rfl
    · obtain ⟨m, rfl⟩ : ∃ m, n = m + 1 := ⟨n - 1, by omega⟩
      let kds : List (Key × D) := kvs.map fun kv => (kv.1, match kv.2 with | .int i => D.int i | _ => D.non)
      have hkd : kds = [] ∨ ∃ k i, kds = [(k, .int i)] := by
        rcases hk with rfl | ⟨k, i, rfl⟩
        · exact .inl rfl
        · exact .inr ⟨k, i, rfl⟩
      let G : Hp := fun b => if b = a then H a else none
      have hG : G a = some (.dK kvs) := by show (if a = a then H a else none) = _; rw [if_pos rfl, ha]
      have e : Ex G H := fun b o z => by
        by_cases hb : b = a
        · rw [hb] at z ⊢; rw [hG] at z; rw [ha]; exact z
        · have : G b = none := if_neg hb
          rw [this] at z; cases z
      have dk : DatK K G kvs kds := by
        rcases hk with rfl | ⟨k, i, rfl⟩
        · exact .nil
        · exact .cons (.int i) .nil
      have dv : Dat K G (.ref a) (.dct kds) := .dct hG dk
      refine EX.fin (W := fun _ _ _ _ => False) (d := .bl true) (good_start e (.cons dv (.cons dv .nil)) n_law_same) (fun v G' H' t dv => by obtain rfl := dv.blV; exact q H' t.hh) ?_
      show EX K ⟨G, H, none⟩ _ _ [Sl.val (.ref a) (.dct kds), Sl.val (.ref a) (.dct kds), Sl.un, Sl.un] _
      refine ex_when (b := false) (et_is (et_or (et_test (ev_isN (t := "dict") (ev_var rfl) rfl)) fun _ => et_B (ev_isT (b := false) (ev_var rfl) rfl rfl)) rfl) (fun h => nomatch h) fun _ => ?_
      refine ex_when (b := false) (et_B (ev_isT (ev_var rfl) rfl rfl)) (fun h => nomatch h) fun _ => ?_
      refine ex_when (b := false) (et_B (ev_isT (ev_var rfl) rfl rfl)) (fun h => nomatch h) fun _ => ?_
      refine ex_when (b := true) (et_B (ev_isT (ev_var rfl) rfl rfl)) (fun _ => ?_) fun h => nomatch h
      refine ex_when (b := false) (et_is (et_or (et_not (et_B (ev_isT (b := true) (ev_var rfl) rfl rfl))) fun _ => et_test (ev_op (ev_cb (ea_cons (ev_var rfl) ea_nil) cb_lenBD) (ev_cb (ea_cons (ev_var rfl) ea_nil) cb_lenBD) op_neI)) (by simp)) (fun h => nomatch h) fun _ => ?_
      exact ex_ret (ev_op (ev_dlc rfl rfl hkd rfl) (ev_lst ea_nil (sz 0)) op_eqNil) fun v => rfl
theorem ok_law_same (T : Tx K mg) : ∀ n, FnOk P w K mg base CX0 n T.f_law_same T.d_law_same p_law_same (spSm K n)
  | 0 => ⟨fun vs H Q E h => h.elim, fun _ _ _ _ _ _ _ _ _ _ _ _ _ h => h.elim⟩
  | n + 1 => ok_same_step T n (ok_law_same T n)

theorem ty_dl {x : D} {t : String} (e : tyD x = some t) : (∃ ds, t = "list" ∧ x.top = .lst ds) ∨ (∃ ds, t = "dict" ∧ x.top = .dct ds) ∨ (kitB t "list" = some false ∧ kitB t "dict" = some false) := by
  have nt := top_no (d := x)
  rw [← tyD_top] at e
  generalize x.top = y at e nt
  cases y with
  | lst ds => cases e; exact .inl ⟨ds, rfl, rfl⟩
  | dct ds => cases e; exact .inr (.inl ⟨ds, rfl, rfl⟩)
  | idn v d => exact absurd rfl (nt v d)
  | op v => cases e
  | rng _ _ => cases e
  | exc _ => cases e
  | set _ _ _ => cases e
  | _ => cases e; exact .inr (.inr ⟨rfl, rfl⟩)
def R_law_copy : List D → D → Prop
  | [x], d => tyD x ≠ none ∧ d = x.top
  | _, _ => False
theorem ok_law_copy (T : Tx K mg) : FnOk P w K mg base CX0 1 T.f_law_copy T.d_law_copy p_law_copy (spD K R_law_copy) := by
  refine T.F_law_copy.ok sc_law_copy (fun vs H Q E h => ?_) (fun cdv A outer s H vs Q E hr h => ?_)
  · obtain ⟨G, ds, d, e, hd, hR, q⟩ := h
    rw [hd.length]
    match ds, hR with
    | [_], _ => rfl
  · refine ⟨_, (pss_one (ps_ret (pe_ifExp (pt_val (pe_callB (call_isiK K) (by rfl) T.m_isinstance (by decide +kernel) (pa_cons (pv 0) (pa_cons (pe_bltn (v := .ty "list") (by rfl) T.m_list (by decide +kernel) rfl) pa_nil)))) (pe_callTy (call_list_ofK K) (by rfl) T.m_list (by decide +kernel) (pa_cons (pv 0) pa_nil)) (pe_ifExp (pt_val (pe_callB (call_isiK K) (by rfl) T.m_isinstance (by decide +kernel) (pa_cons (pv 0) (pa_cons (pe_bltn (v := .ty "dict") (by rfl) T.m_dict (by decide +kernel) rfl) pa_nil)))) (pe_callTy call_dictOf (by rfl) T.m_dict (by decide +kernel) (pa_cons (pv 0) pa_nil)) (pv 0))))), ?_⟩
    obtain ⟨G, ds, d, e, hd, hR, q⟩ := h
    have hl : ∃ x0, ds = [x0] := by
      match ds, hR with
      | [x0], _ => exact ⟨x0, rfl⟩
    obtain ⟨x0, rfl⟩ := hl
    cases hd with
    | @cons v0 vs0 _ _ dv0 hd =>
    cases hd
    refine EX.fin (W := fun _ _ _ _ => False) (good_start e ((.cons dv0 .nil)) n_law_copy) q ?_
    show EX K ⟨G, H, none⟩ _ _ [Sl.val v0 x0] _
    obtain ⟨h1, rfl⟩ := hR
    obtain ⟨t, ht⟩ := Option.ne_none_iff_exists'.mp h1
    rcases ty_dl ht with ⟨es, rfl, hx⟩ | ⟨es, rfl, hx⟩ | ⟨h1, h2⟩
    · exact ex_ret (ev_if (b := true) (et_B (ev_isT (ev_var rfl) ht rfl)) (fun _ => by rw [hx]; exact ev_cb (ea_cons (ev_tp (ev_var rfl) hx) ea_nil) cb_listOf) fun h => nomatch h) fun v => rfl
    · exact ex_ret (ev_if (b := false) (et_B (ev_isT (ev_var rfl) ht rfl)) (fun h => nomatch h) fun _ => ev_if (b := true) (et_B (ev_isT (ev_var rfl) ht rfl)) (fun _ => by rw [hx]; exact ev_cb (ea_cons (ev_tp (ev_var rfl) hx) ea_nil) cb_dictOf) fun h => nomatch h) fun v => rfl
    · exact ex_ret (ev_if (b := false) (et_B (ev_isT (ev_var rfl) ht h1)) (fun h => nomatch h) fun _ => ev_if (b := false) (et_B (ev_isT (ev_var rfl) ht h2)) (fun h => nomatch h) fun _ => ev_top (ev_var rfl)) fun v => rfl
theorem go_t {A B : Prop} {b : Bool} (hb : b = true) (h : A) : if b = true then A else B := by rw [if_pos hb]; exact h
theorem go_f {A B : Prop} {b : Bool} (hb : b = false) (h : B) : if b = true then A else B := by rw [hb, if_neg Bool.false_ne_true]; exact h
theorem atom_top {d : D} (h : isAtom d = true) : d.top = d := by cases d <;> first | rfl | cases h
theorem Sm_atom {d : D} (h : isAtom d = true) : ∀ n, Sm n d d
  | 0 => ⟨rfl, by rw [atom_top h]; exact h⟩
  | n + 1 => .inl ⟨rfl, by rw [atom_top h]; exact h⟩
theorem atomsL {G G' : Hp} : ∀ (ds : List D) (xs : List V), (∀ x ∈ ds, isAtom x = true) → DatL K G xs ds → DatL K G' xs ds
  | [], _, _, h => by cases h; exact .nil
  | d :: ds, _, h, hh => by
    cases hh with
    | cons a t =>
      refine .cons ?_ (atomsL ds _ (fun x hx => h x (List.mem_cons_of_mem _ hx)) t)
      have hd := h d List.mem_cons_self
      cases a with
      | non => exact .non
      | bl b => exact .bl b
      | int b => exact .int b
      | str b => exact .str b
      | _ => cases hd
theorem Sm_atoms {ds : List D} {d : D} (hd : d.top = .lst ds) (hl : ds.length < 10000) (h : ∀ x ∈ ds, isAtom x = true) (n : Nat) : Sm (n + 1) d d :=
  .inr ⟨ds, ds, .inr ⟨hd, hd⟩, rfl, hl, fun i a b ha hb => by
    rw [ha] at hb
    obtain rfl := Option.some.inj hb
    exact Sm_atom (h a (List.mem_of_getElem? ha)) n⟩
theorem same_call {H G : Hp} {v : V} {d : D} {Q : VK} {E : XK} {n : Nat} (e : Ex G H) (dv : Dat K G v d) (hs : Sm n d d) (q : ∀ H', Ex H H' → Q (.bl true) H') : spSm K (n + 1) [v, v] H Q E :=
  .inl ⟨G, [d, d], .bl true, e, .cons dv (.cons dv .nil), ⟨hs, rfl⟩, fun u G1 H1 t1 du => by obtain rfl := du.blV; exact q H1 t1.hh⟩
theorem Sm_mono : ∀ {n : Nat} {x y : D}, Sm n x y → Sm (n + 1) x y
  | 0, _, _, h => .inl h
  | n + 1, x, y, h => by
    rcases h with h | ⟨xs, ys, h1, h2, h3, h4⟩
    · exact .inl h
    · exact .inr ⟨xs, ys, h1, h2, h3, fun i a b ha hb => Sm_mono (h4 i a b ha hb)⟩
theorem Sm_le {x y : D} {n m : Nat} (h : Sm n x y) (l : n ≤ m) : Sm m x y := by
  induction l with
  | refl => exact h
  | step _ ih => exact Sm_mono ih
theorem Sm_items {d : D} {ds : List D} (hd : d.top = .lst ds ∨ d.top = .tup ds) (hl : ds.length < 10000) {n : Nat} (h : ∀ x ∈ ds, Sm n x x) : Sm (n + 1) d d :=
  .inr ⟨ds, ds, hd.elim (fun h => .inr ⟨h, h⟩) (fun h => .inl ⟨h, h⟩), rfl, hl, fun i a b ha hb => by
    rw [ha] at hb
    obtain rfl := Option.some.inj hb
    exact h a (List.mem_of_getElem? ha)⟩
def delG (G : Hp) (a : Addr) : Hp := fun b => if b = a then none else G b
theorem delG_ne {G : Hp} {a b : Addr} (h : b ≠ a) : delG G a b = G b := if_neg h
theorem rd_del {G : Hp} {a b : Addr} {u : HO} (hne : b ≠ a) (h : Rd G b u) : Rd (delG G a) b u := by
  rcases h with h | ⟨o, h⟩
  · exact .inl (by rw [delG_ne hne]; exact h)
  · exact .inr ⟨o, by rw [delG_ne hne]; exact h⟩
/-- the items of a list do not lead back to it -/
theorem unself {G : Hp} {a : Addr} {xs : List V} (hG : G a = some (.lst xs)) : ∀ (n : Nat) (ds : List D), DatL K G xs ds → (∀ x ∈ ds, Sm n x x) → ∃ es, es.length = ds.length ∧ DatL K (delG G a) xs es ∧ ∀ x ∈ es, Sm n x x := by
  intro n
  induction n using Nat.strongRecOn with
  | _ n ih =>
    intro ds hd hs
    by_cases c : ∃ k, k < n ∧ ∃ es, DatL K G xs es ∧ ∀ x ∈ es, Sm k x x
    · obtain ⟨k, hk, es, h1, h2⟩ := c
      obtain ⟨es', h3, h4, h5⟩ := ih k hk es h1 h2
      exact ⟨es', by rw [h3, ← h1.length, hd.length], h4, fun x hx => Sm_le (h5 x hx) (by omega)⟩
    · have key : ∀ m, m ≤ n → ∀ (v : V) (d : D), Sm m d d → Dat K G v d → ∃ d', Dat K (delG G a) v d' ∧ Sm m d' d' := by
        intro m
        induction m with
        | zero =>
          intro _ v d h hv
          obtain ⟨_, h⟩ := h
          have hv' := hv.top
          refine ⟨d.top, ?_, ⟨rfl, by rw [atom_top h]; exact h⟩⟩
          generalize d.top = t at h hv'
          cases hv' with
          | non => exact .non
          | bl b => exact .bl b
          | int b => exact .int b
          | str b => exact .str b
          | _ => cases h
        | succ m ihm =>
          intro hm v d h hv
          have hv' := hv.top
          have hL : ∀ (ys : List V) (cs : List D), DatL K G ys cs → (∀ x ∈ cs, Sm m x x) → ∃ cs', cs'.length = cs.length ∧ DatL K (delG G a) ys cs' ∧ ∀ x ∈ cs', Sm m x x := by
            intro ys cs
            induction cs generalizing ys with
            | nil => intro h _; cases h; exact ⟨[], rfl, .nil, fun x hx => nomatch hx⟩
            | cons c cs ihc =>
              intro h hh
              cases h with
              | cons p q =>
              obtain ⟨c', h1, h2⟩ := ihm (by omega) _ _ (hh c List.mem_cons_self) p
              obtain ⟨cs', h3, h4, h5⟩ := ihc _ q fun x hx => hh x (List.mem_cons_of_mem _ hx)
              exact ⟨c' :: cs', by rw [List.length_cons, List.length_cons, h3], .cons h1 h4, fun x hx => by
                rcases List.mem_cons.mp hx with rfl | hx
                · exact h2
                · exact h5 x hx⟩
          rcases h with ⟨_, h⟩ | ⟨ys, zs, h1, h2, h3, h4⟩
          · refine ⟨d.top, ?_, Sm_le (n := 0) ⟨rfl, by rw [atom_top h]; exact h⟩ (by omega)⟩
            generalize d.top = t at h hv'
            cases hv' with
            | non => exact .non
            | bl b => exact .bl b
            | int b => exact .int b
            | str b => exact .str b
            | _ => cases h
          · rcases h1 with ⟨e1, e2⟩ | ⟨e1, e2⟩
            · rw [e1] at e2 hv'
              cases e2
              have hh : ∀ x ∈ ys, Sm m x x := fun x hx => by
                obtain ⟨i, hi⟩ := List.mem_iff_getElem?.mp hx
                exact h4 i x x hi hi
              obtain ⟨p, us, rfl, hp, hu⟩ := hv'.tupV
              obtain ⟨cs', g1, g2, g3⟩ := hL us ys hu hh
              refine ⟨.tup cs', .tup ?_ g2, Sm_items (.inr rfl) (by rw [g1]; exact h3) g3⟩
              rcases hp with hp | hp
              · refine .inl (rd_del (fun z => ?_) hp)
                subst z
                rcases hp with hp | ⟨o, hp⟩
                · rw [hG] at hp; cases hp
                · rw [hG] at hp; cases hp
              · exact .inr hp
            · rw [e1] at e2 hv'
              cases e2
              have hh : ∀ x ∈ ys, Sm m x x := fun x hx => by
                obtain ⟨i, hi⟩ := List.mem_iff_getElem?.mp hx
                exact h4 i x x hi hi
              obtain ⟨p, us, rfl, hp, hu⟩ := hv'.lstV
              by_cases z : p = a
              · subst z
                rw [hG] at hp
                cases hp
                exact absurd ⟨m, by omega, ys, hu, hh⟩ c
              · obtain ⟨cs', g1, g2, g3⟩ := hL us ys hu hh
                exact ⟨.lst cs', .lst (by rw [delG_ne z]; exact hp) g2, Sm_items (.inl rfl) (by rw [g1]; exact h3) g3⟩
      have all : ∀ (ys : List V) (cs : List D), DatL K G ys cs → (∀ x ∈ cs, Sm n x x) → ∃ cs', cs'.length = cs.length ∧ DatL K (delG G a) ys cs' ∧ ∀ x ∈ cs', Sm n x x := by
        intro ys cs
        induction cs generalizing ys with
        | nil => intro h _; cases h; exact ⟨[], rfl, .nil, fun x hx => nomatch hx⟩
        | cons c cs ihc =>
          intro h hh
          cases h with
          | cons p q =>
          obtain ⟨c', h1, h2⟩ := key n (Nat.le_refl _) _ _ (hh c List.mem_cons_self) p
          obtain ⟨cs', h3, h4, h5⟩ := ihc _ q fun x hx => hh x (List.mem_cons_of_mem _ hx)
          exact ⟨c' :: cs', by rw [List.length_cons, List.length_cons, h3], .cons h1 h4, fun x hx => by
            rcases List.mem_cons.mp hx with rfl | hx
            · exact h2
            · exact h5 x hx⟩
      exact all xs ds hd hs
/-- a value that may stand as a wrong argument -/
def OkV (d : D) : Prop := (Sm 5 d d ∧ ∃ t, tyD d = some t ∧ kitB t "list" = some false ∧ kitB t "dict" = some false) ∨ (∃ ds, d.top = .lst ds ∧ ds.length < 1000 ∧ ∀ x ∈ ds, Sm 4 x x) ∨ d.top = .dct []
def spSO (K : PySem.W.Frag) : Sp := fun vs H Q _ => ∃ (G : Hp) (v : V) (d : D), vs = [v, v] ∧ Ex G H ∧ Dat K G v d ∧ OkV d ∧ ∀ H', Ex H H' → Q (.bl true) H'
theorem ok_law_same_object (T : Tx K mg) : FnOk P w K mg base CX0 7 T.f_law_same_object T.d_law_same_object p_law_same_object (spSO K) := by
  refine T.F_law_same_object.ok sc_law_same_object (fun vs H Q E h => ?_) (fun cdv A outer s H vs Q E hr h => ?_)
  · obtain ⟨_, _, _, rfl, _⟩ := h; rfl
  · refine ⟨_, (pss_cons (ps_if (pt_not (pt_val (pe_call (ok_law_same T 6) (hr.mono (by omega)) (by rfl) T.g_law_same T.F_law_same.kp T.b_law_same .nil pass0 (pa_cons (pv 0) (pa_cons (pv 1) pa_nil))))) (pss_one (ps_ret pe_bl)) pss_nil)
      (pss_cons (ps_if (pt_val (pe_callB (call_isiK K) (by rfl) T.m_isinstance (by decide +kernel) (pa_cons (pv 1) (pa_cons (pe_bltn (v := .ty "list") (by rfl) T.m_list (by decide +kernel) rfl) pa_nil)))) (pss_cons (ps_expr (pe_bmK K PySem.F.plainAttrs_list PySem.F.slot_list_append PySem.F.type_list_append mt_append (pv 1) (pa_cons pe_str pa_nil)))
      (pss_cons (ps_set (i := 2) sc_law_same_object.nd rfl (.inl rfl) (pe_call (ok_law_same T 6) (hr.mono (by omega)) (by rfl) T.g_law_same T.F_law_same.kp T.b_law_same .nil pass0 (pa_cons (pv 0) (pa_cons (pv 1) pa_nil))))
      (pss_cons (ps_expr (pe_bm0 PySem.F.plainAttrs_list PySem.F.slot_list_pop PySem.F.type_list_pop mt_pop (pv 1)))
      (pss_one (ps_ret (pv 2)))))) pss_nil)
      (pss_cons (ps_if (pt_val (pe_callB (call_isiK K) (by rfl) T.m_isinstance (by decide +kernel) (pa_cons (pv 1) (pa_cons (pe_bltn (v := .ty "dict") (by rfl) T.m_dict (by decide +kernel) rfl) pa_nil)))) (pss_cons (ps_dput (hu_of hr) (pv 1) pe_str pe_int (by rfl))
      (pss_cons (ps_set (i := 2) sc_law_same_object.nd rfl (.inl rfl) (pe_call (ok_law_same T 6) (hr.mono (by omega)) (by rfl) T.g_law_same T.F_law_same.kp T.b_law_same .nil pass0 (pa_cons (pv 0) (pa_cons (pv 1) pa_nil))))
      (pss_cons (ps_expr (pe_dpop1 (pv 1) pe_str ⟨by rfl, by rfl, by rfl, by rfl⟩))
      (pss_one (ps_ret (pv 2)))))) pss_nil)
      (pss_one (ps_ret pe_bl))))), ?_⟩
    obtain ⟨G, v, d, rfl, e, dv, hd, q⟩ := h
    rcases hd with ⟨hs, t, ht, h1, h2⟩ | ⟨ds, hx, hl, hat⟩ | hx
    · refine ⟨v, rfl, v, rfl, same_call e dv hs fun H1 e1 => ⟨true, rfl, go_f rfl ?_⟩⟩
      refine ⟨v, rfl, _, _, _, _, false, rfl, .ty _, dv.ty (e.trans e1) ht, kit_ty h1, _, rfl, go_f rfl ?_⟩
      refine ⟨v, rfl, _, _, _, _, false, rfl, .ty _, dv.ty (e.trans e1) ht, kit_ty h2, _, rfl, go_f rfl ?_⟩
      exact q H1 e1
    · have hd := dv.top
      rw [hx] at hd
      cases hd with
      | @lst a xs _ ga dx =>
      have hlx : xs.length < 1000 := by rw [dx.length]; exact hl
      obtain ⟨es, hel, des, hes⟩ := unself ga 4 ds dx hat
      refine ⟨.ref a, rfl, .ref a, rfl, same_call e dv (Sm_items (.inl hx) (by omega) hat) fun H1 e1 => ⟨true, rfl, go_f rfl ?_⟩⟩
      have h1 : H1 a = some (.lst xs) := e1 _ _ (e _ _ ga)
      refine ⟨.ref a, rfl, _, _, _, _, true, rfl, .ty _, .base (.lst h1), kit_ty (a := "list") rfl, _, rfl, go_t rfl ?_⟩
      refine ⟨.ref a, rfl, .inl ⟨rfl, xs, .of h1⟩, a, xs, _, rfl, rfl, h1, small1000 (by omega), ?_⟩
      have eD : Ex (delG G a) (upd (delG G a) a (.lst (xs ++ [.str "more"]))) := .new (if_pos rfl)
      have hat2 : ∀ x ∈ es ++ [D.str "more"], Sm 4 x x := fun x hx => by
        rcases List.mem_append.mp hx with h | h
        · exact hes x h
        · rw [List.mem_singleton.mp h]; exact Sm_atom rfl 4
      refine ⟨.ref a, rfl, .ref a, rfl, same_call (G := upd (delG G a) a (.lst (xs ++ [.str "more"]))) (d := .lst (es ++ [.str "more"])) (fun b o z => ?_) (.lst upd_same ((des.up eD).append (.one (.str _)))) (Sm_items (.inl rfl) (by rw [List.length_append, hel]; show ds.length + 1 < 10000; omega) hat2) fun H3 e3 => ?_⟩
      · by_cases hb : b = a
        · rw [hb, upd_same] at z ⊢; exact z
        · rw [upd_ne hb, delG_ne hb] at z
          rw [upd_ne hb]
          exact e1 _ _ (e _ _ z)
      have h3 : H3 a = some (.lst (xs ++ [.str "more"])) := e3 _ _ upd_same
      refine ⟨.ref a, rfl, .inl ⟨rfl, _, .of h3⟩, a, _, .str "more", rfl, rfl, h3, by simp, ?_⟩
      refine ⟨.bl true, rfl, q _ fun b o z => ?_⟩
      by_cases hb : b = a
      · rw [hb, upd_same, List.dropLast_concat]
        rw [hb, e _ _ ga] at z
        exact z
      · rw [upd_ne hb]
        exact e3 _ _ (by rw [upd_ne hb]; exact e1 _ _ z)
    · have hd := dv.top
      rw [hx] at hd
      cases hd with
      | @dct a kvs _ ga dk =>
      cases dk
      have ha := e _ _ ga
      refine ⟨.ref a, rfl, .ref a, rfl, .inr ⟨by decide, a, [], rfl, ha, .inl rfl, fun H1 e1 => ⟨true, rfl, go_f rfl ?_⟩⟩⟩
      have h1 : H1 a = some (.dK []) := e1 _ _ ha
      refine ⟨.ref a, rfl, _, _, _, _, false, rfl, .ty _, .base (.dK h1), kit_ty (a := "dict") rfl, _, rfl, go_f rfl ?_⟩
      refine ⟨.ref a, rfl, _, _, _, _, true, rfl, .ty _, .base (.dK h1), kit_ty (a := "dict") rfl, _, rfl, go_t rfl ?_⟩
      refine ⟨.ref a, rfl, a, _, rfl, DPut.k (k := .inr "more") h1 (small1000 (by decide)), ?_⟩
      refine ⟨.ref a, rfl, .ref a, rfl, .inr ⟨by decide, a, _, rfl, upd_same, .inr ⟨.inr "more", 1, rfl⟩, fun H3 e3 => ?_⟩⟩
      have h3 : H3 a = some (.dK [(.inr "more", .int 1)]) := e3 _ _ upd_same
      refine ⟨.ref a, rfl, a, rfl, .inl ⟨_, .inl h3⟩, _, .inr "more", _, h3, rfl, rfl, ?_⟩
      refine ⟨.bl true, rfl, q _ fun b o z => ?_⟩
      by_cases hb : b = a
      · rw [hb, upd_same]
        rw [hb, ha] at z
        exact z
      · rw [upd_ne hb]
        exact e3 _ _ (by rw [upd_ne hb]; exact e1 _ _ z)

end
end Kx


set_option Elab.async false
set_option linter.all false
set_option maxRecDepth 100000
set_option maxHeartbeats 2000000
namespace Kx
open PySem PySem.Spec PyProof.Rows L2 DL
section
variable {P : Program} {w : World} {K : PySem.W.Frag} {mg : Str → Option Value} {base : Heap}
theorem cb_listOfT {K : PySem.W.Frag} {ds : List D} : CbD K (rListOf K) [.tup ds] (.lst ds) := fun G H vs e dl Q q => by
  cases dl with | cons dv t =>
  cases t
  obtain ⟨a, xs, rfl, ht, hd⟩ := dv.tupV
  exact ⟨a, xs, rfl, .inr (ex_t e ht), fun p hp => q _ (upd G p (.lst xs)) _ (.new e hp) (.lst upd_same (hd.up (.new (e.back hp))))⟩
theorem ev_catOwn {K : PySem.W.Frag} {β : Bas} {env : Env'} {te : TE} {i : Nat} {a : Addr} {ds es : List D} (hi : env[i]? = some (.own a ds)) (he : EV K β te env (.lst es)) (hl : ds.length + es.length ≤ sizeLine) : EV K β (tOp rCat (tVar i) te) env (.lst (ds ++ es)) := fun σ G H g Q q => by
  obtain ⟨h1, _⟩ := g.own hi
  refine ⟨.ref a, h1, he σ G H g _ fun v2 G2 H2 t2 d2 => ?_⟩
  obtain ⟨_, _, _, xs, h4, h5⟩ := (g.up t2).own hi
  obtain ⟨b, ys, rfl, hb, hy⟩ := d2.lstV
  exact ⟨a, b, xs, ys, rfl, rfl, h4, t2.gh _ _ hb, by rw [h5.length, hy.length]; exact hl, fun p hp => q _ (upd G2 p (.lst (xs ++ ys))) _ (t2.trans (.new t2.gh hp)) (.lst upd_same ((h5.append hy).up (.new (t2.gh.back hp))))⟩
def oddsD (n : Nat) : List D := [.int (n : Nat), .int (-1), .bl true, .non, .str "0", .tup [.int 0], .lst [.int 0], .int (10 ^ 30)]
def oddT (n : Nat) (f : Nat → Nat → Nat) (o : D) : D := .tup ((rowsT n f).dropLast ++ [.tup ((rowL n (f (n - 1))).dropLast ++ [o])])
def noA (n : Nat) (f : Nat → Nat → Nat) : List D := [.non, .int 7, .int (-1), .str "0", .str "", .bl true, .tup [], .lst [], .dct [], .lst (rowsL n f), .lst (rowsT n f), .tup (rowsL n f), .tup (rowsT n f).tail, .tup (rowsT n f ++ [rowD n (f 0)]),
  .tup ([.tup (rowL n (f 0)).tail] ++ (rowsT n f).tail), .tup ([.tup (rowL n (f 0) ++ [.int 0])] ++ (rowsT n f).tail)]
def noC (n : Nat) (f : Nat → Nat → Nat) : List D := [.tup (List.replicate 11 (.tup (List.replicate 11 (.int 0)))), .tup (List.replicate (n + 1) (rowD n (f 0))), .tup [.tup []], .tup (List.replicate n (.int 0))]
def noTabs (n : Nat) (f : Nat → Nat → Nat) : List D := noA n f ++ (oddsD n).map (oddT n f) ++ noC n f
def R_law_no_tables : List D → D → Prop
  | [t], d => ∃ (n : Nat) (f : Nat → Nat → Nat), t = tblD n f ∧ TabOk n f ∧ d = .lst (noTabs n f)
  | _, _ => False
theorem rep1 {α : Type} (a : α) (k : Nat) : (List.replicate k [a]).flatten = List.replicate k a := by
  induction k with
  | zero => rfl
  | succ k ih => rw [List.replicate_succ, List.flatten_cons, ih]; rfl
theorem atI_rowsLast {n : Nat} {f : Nat → Nat → Nat} (h : 1 ≤ n) : atI (rowsT n f) (-1) = some (rowD n (f (n - 1))) := by
  have h2 : (rowsT n f).length = n := by unfold rowsT; simp
  unfold atI ixN
  rw [h2, if_neg (by decide), if_pos (by omega)]
  show (rowsT n f)[((-1 : Int) + (n : Int)).toNat]? = _
  rw [show ((-1 : Int) + (n : Int)).toNat = n - 1 by omega]
  unfold rowsT
  rw [List.getElem?_map, List.getElem?_range (by omega)]
  rfl
theorem ok_law_no_tables (T : Tx K mg) : FnOk P w K mg base CX0 1 T.f_law_no_tables T.d_law_no_tables p_law_no_tables (spD K R_law_no_tables) := by
  refine T.F_law_no_tables.ok sc_law_no_tables (fun vs H Q E h => ?_) (fun cdv A outer s H vs Q E hr h => ?_)
  · obtain ⟨G, ds, d, e, hd, hR, q⟩ := h
    rw [hd.length]
    match ds, hR with
    | [_], _ => rfl
  · refine ⟨_, (pss_cons (ps_set (i := 1) sc_law_no_tables.nd rfl (.inl rfl) (pe_callB (call_lenK K) (by rfl) T.m_len (by decide +kernel) (pa_cons (pv 0) pa_nil)))
      (pss_cons (ps_par (i := 2) (j := 3) rfl sc_law_no_tables.nd rfl rfl (by decide) rfl rfl (pa_cons (pe_lc (own := [("row", 6)]) rfl sc_law_no_tables.nd (pi_tupK K (pv 0)) (blkOk_by (by rfl)) (fun _ _ _ _ _ => pg_name (i := 6) sc_law_no_tables.nd rfl (by first | exact .inl rfl | exact .inr rfl)) (fun _ _ _ _ _ => pts_nil) (fun _ _ _ _ _ => (pe_callTy (call_list_ofK K) (by rfl) T.m_list (by decide +kernel) (pa_cons (pv 6) pa_nil)))) (pa_cons (pe_ix (ix_seqK K) (pv 0) pe_int (fun _ _ => rfl)) pa_nil)) (by rfl))
      (pss_cons (ps_set (i := 4) sc_law_no_tables.nd rfl (.inl rfl) (pe_lst (pa_cons pe_non (pa_cons pe_int (pa_cons (pe_un un_neg pe_int) (pa_cons pe_str (pa_cons pe_str (pa_cons pe_bl (pa_cons (pe_tup pa_nil) (pa_cons (pe_lst pa_nil) (pa_cons pe_dnewK (pa_cons (pv 2) (pa_cons (pe_callTy (call_list_ofK K) (by rfl) T.m_list (by decide +kernel) (pa_cons (pv 0) pa_nil)) (pa_cons (pe_tupleOfK K (by rfl) T.m_tuple (pv 2)) (pa_cons (pe_slice (sl_tupAK K) (pv 0) (po_some pe_int) po_none) (pa_cons (pe_op (op_catAK K) (pv 0) (pe_tup (pa_cons (pv 3) pa_nil))) (pa_cons (pe_op (op_catAK K) (pe_tup (pa_cons (pe_slice (sl_tupAK K) (pv 3) (po_some pe_int) po_none) pa_nil)) (pe_slice (sl_tupAK K) (pv 0) (po_some pe_int) po_none)) (pa_cons (pe_op (op_catAK K) (pe_tup (pa_cons (pe_op (op_catAK K) (pv 3) (pe_tup (pa_cons pe_int pa_nil))) pa_nil)) (pe_slice (sl_tupAK K) (pv 0) (po_some pe_int) po_none)) pa_nil))))))))))))))))))
      (pss_cons (ps_for PassesOwn.never rfl (pi_listK K (pe_lst (pa_cons (pv 1) (pa_cons (pe_un un_neg pe_int) (pa_cons pe_bl (pa_cons pe_non (pa_cons pe_str (pa_cons (pe_tup (pa_cons pe_int pa_nil)) (pa_cons (pe_lst (pa_cons pe_int pa_nil)) (pa_cons (pe_op op_pow pe_int pe_int) pa_nil)))))))))) (pg_name (i := 5) sc_law_no_tables.nd rfl (.inl rfl))
      (pss_one (ps_expr (pe_bmK K PySem.F.plainAttrs_list PySem.F.slot_list_append PySem.F.type_list_append mt_append (pv 4) (pa_cons (pe_op (op_catAK K) (pe_slice (sl_tupAK K) (pv 0) po_none (po_some (pe_un un_neg pe_int))) (pe_tup (pa_cons (pe_op (op_catAK K) (pe_slice (sl_tupAK K) (pe_ix (ix_seqK K) (pv 0) (pe_un un_neg pe_int) (fun _ _ => rfl)) po_none (po_some (pe_un un_neg pe_int))) (pe_tup (pa_cons (pv 5) pa_nil))) pa_nil))) pa_nil)))))
      (pss_one (ps_ret (pe_op op_cat (pv 4) (pe_lst (pa_cons (pe_op (op_repT2K (K := K)) (pe_tup (pa_cons (pe_op (op_repT2K (K := K)) (pe_tup (pa_cons pe_int pa_nil)) pe_int) pa_nil)) pe_int) (pa_cons (pe_op (op_repT2K (K := K)) (pe_tup (pa_cons (pv 3) pa_nil)) (pe_op op_add (pv 1) pe_int)) (pa_cons (pe_tup (pa_cons (pe_tup pa_nil) pa_nil)) (pa_cons (pe_op (op_repT2K (K := K)) (pe_tup (pa_cons pe_int pa_nil)) (pv 1)) pa_nil)))))))))))), ?_⟩
    obtain ⟨G, ds, d, e, hd, hR, q⟩ := h
    have hl : ∃ x0, ds = [x0] := by
      match ds, hR with
      | [x0], _ => exact ⟨x0, rfl⟩
    obtain ⟨x0, rfl⟩ := hl
    cases hd with
    | @cons v0 vs0 _ _ dv0 hd =>
    cases hd
    refine EX.fin (W := fun _ _ _ _ => False) (good_start e ((.cons dv0 .nil)) n_law_no_tables) q ?_
    show EX K ⟨G, H, none⟩ _ _ [Sl.val v0 x0, Sl.un, Sl.un, Sl.un, Sl.un, Sl.un, Sl.un] _
    obtain ⟨n, f, rfl, hf, rfl⟩ := hR
    have h10 := hf.n10
    have h1 := hf.n1
    have hT : ∀ {e : Env'}, e[0]? = some (.val v0 (tblD n f)) → EV K ⟨G, H, none⟩ (tVar 0) e (.tup (rowsT n f)) := fun h => ev_var h
    have lT : (rowsT n f).length = n := by unfold rowsT; simp
    have lR : ∀ x, (rowL n (f x)).length = n := fun x => by unfold rowL; simp
    have lL : (rowsL n f).length = n := by unfold rowsL; simp
    refine ex_let (ev_cb (ea_cons (ev_var rfl) ea_nil) cb_lenTbl) fun v1 => ?_
    refine ex_parS (d1 := .lst (rowsL n f)) (d2 := rowD n (f 0)) (ea_cons ?_ (ea_cons (ev_op (hT rfl) (ev_int (i := 0)) (op_ix (.inl rfl) ?_)) ea_nil)) fun v2 v3 => ?_
    · have := ev_lcA (K := K) (β := ⟨G, H, none⟩) (wi := iTup K (tVar 0)) (env := [Sl.val v0 (tblD n f), Sl.val v1 (.int n), Sl.un, Sl.un, Sl.un, Sl.un, Sl.un]) (ds := rowsT n f) (F := fun x => .lst (rowL n (f x))) (te := tCB (rListOf K) (tCons (tVar 6) tNil)) (vs := [6]) (j := 6) (ei_tup (hT rfl)) (by rw [lT, sizeLine_eq]; omega) (by decide) (fun x v d hd => by
        unfold rowsT at hd
        rw [List.getElem?_map] at hd
        cases hx : (List.range n)[x]? with
        | none => rw [hx] at hd; cases hd
        | some y =>
        rw [hx] at hd
        cases hd
        have hxn : x < n := by have := (List.getElem?_eq_some_iff.mp hx).1; simpa using this
        rw [List.getElem?_range hxn] at hx
        cases hx
        exact ev_cb (ea_cons (ev_var rfl) ea_nil) cb_listOfT)
      rw [lT] at this
      exact this
    · unfold atI ixN
      rw [lT, if_pos (by decide), if_pos (by omega)]
      show (rowsT n f)[(0 : Int).toNat]? = _
      unfold rowsT
      rw [List.getElem?_map, show (0 : Int).toNat = 0 from rfl, List.getElem?_range (by omega)]
      rfl
    have hneT : rowsT n f ≠ [] := fun z => by rw [z] at lT; simp at lT; omega
    refine ex_newS (ds := noA n f) (ea_cons ev_non (ea_cons ev_int (ea_cons (ev_un ev_int un_negI) (ea_cons ev_str (ea_cons ev_str (ea_cons ev_bl (ea_cons (ev_tup ea_nil (sz 0)) (ea_cons (ev_lst ea_nil (sz 0)) (ea_cons ev_dnew (ea_cons (ev_var rfl)
      (ea_cons (ev_cb (ea_cons (hT rfl) ea_nil) cb_listOfT) (ea_cons (ev_then (ev_var rfl) un_tupL) (ea_cons (ev_tl (hT rfl)) (ea_cons (ev_op (hT rfl) (ev_tup (ea_cons (ev_var rfl) ea_nil) (sz 1)) (op_catAD (by rw [lT, sizeLine_eq]; simp; omega)))
      (ea_cons (ev_op (ev_tup (ea_cons (ev_tl (ds := rowL n (f 0)) (ev_var rfl)) ea_nil) (sz 1)) (ev_tl (hT rfl)) (op_catAD (by rw [List.length_tail, lT, sizeLine_eq]; simp; omega)))
      (ea_cons (ev_op (ev_tup (ea_cons (ev_op (x := .tup (rowL n (f 0))) (ev_var rfl) (ev_tup (ea_cons ev_int ea_nil) (sz 1)) (op_catAD (by rw [lR, sizeLine_eq]; simp; omega))) ea_nil) (sz 1)) (ev_tl (hT rfl)) (op_catAD (by rw [List.length_tail, lT, sizeLine_eq]; simp; omega))) ea_nil)))))))))))))))) (sz 16) fun p => ?_
    refine ex_forNS (fun i e => ∃ s, e = [Sl.val v0 (tblD n f), Sl.val v1 (.int n), Sl.val v2 (.lst (rowsL n f)), Sl.val v3 (rowD n (f 0)), Sl.own p (noA n f ++ ((oddsD n).take i).map (oddT n f)), s, Sl.un]) (ei_list (ev_lst (ds := oddsD n) (ea_cons (ev_var rfl) (ea_cons (ev_un ev_int un_negI) (ea_cons ev_bl (ea_cons ev_non (ea_cons ev_str (ea_cons (ev_tup (ea_cons ev_int ea_nil) (sz 1)) (ea_cons (ev_lst (ea_cons ev_int ea_nil) (sz 1)) (ea_cons (ev_op ev_int ev_int (op_powI ⟨by decide, by decide, by decide⟩)) ea_nil)))))))) (sz 8))) ⟨_, rfl⟩ ?_ ?_
    · rintro i env' vo o ho ⟨s, rfl⟩
      have hi8 : i < 8 := (List.getElem?_eq_some_iff.mp ho).1
      have hneR : rowL n (f (n - 1)) ≠ [] := fun z => by have := lR (n - 1); rw [z] at this; simp at this; omega
      refine ex_app rfl (d := oddT n f o) (ev_op (ev_init hneT (hT rfl)) (ev_tup (ea_cons (ev_op (ev_init (ds := rowL n (f (n - 1))) hneR (ev_op (hT rfl) (ev_un ev_int un_negI) (op_ix (.inl rfl) (atI_rowsLast h1)))) (ev_tup (ea_cons (ev_var rfl) ea_nil) (sz 1)) (op_catAD (by rw [List.length_dropLast, lR, sizeLine_eq]; simp; omega))) ea_nil) (sz 1)) (op_catAD (by rw [List.length_dropLast, lT, sizeLine_eq]; simp; omega))) ?_ ⟨Sl.val vo o, ?_⟩
      · rw [List.length_append, List.length_map, List.length_take, sizeLine_eq]
        have : (noA n f).length = 16 := rfl
        omega
      · rw [List.take_add_one, ho, List.map_append, ← List.append_assoc]
        rfl
    · rintro env' ⟨s, rfl⟩
      have e8 : (oddsD n).take (oddsD n).length = oddsD n := List.take_length
      rw [e8]
      refine ex_ret (ev_catOwn (es := noC n f) rfl (ev_lst (ea_cons (ev_is (ev_op (ev_tup (ea_cons (ev_op (ev_tup (ea_cons ev_int ea_nil) (sz 1)) ev_int (op_repTD (by decide) (by decide) (fun z => nomatch z) (by decide))) ea_nil) (sz 1)) ev_int (op_repTD (by decide) (by decide) (fun z => nomatch z) (by decide))) ?_)
        (ea_cons (ev_is (ev_op (ev_tup (ea_cons (ev_var rfl) ea_nil) (sz 1)) (ev_op (ev_var rfl) (ev_int (i := 1)) op_addI) (op_repTD (by omega) (by omega) (fun z => nomatch z) (by simp))) ?_)
        (ea_cons (ev_tup (ea_cons (ev_tup ea_nil (sz 0)) ea_nil) (sz 1)) (ea_cons (ev_is (ev_op (ev_tup (ea_cons ev_int ea_nil) (sz 1)) (ev_var rfl) (op_repTD (by omega) (by omega) (fun z => nomatch z) (by simp))) ?_) ea_nil)))) (sz 4)) ?_) fun v => rfl
      · rw [rep1, rep1]
        rfl
      · rw [rep1, show ((n : Int) + 1).toNat = n + 1 by omega]
      · rw [rep1, Int.toNat_natCast]
      · rw [List.length_append, List.length_map, sizeLine_eq]
        have : (noA n f).length = 16 := rfl
        have : (oddsD n).length = 8 := rfl
        have : (noC n f).length = 4 := rfl
        omega

end
end Kx


set_option Elab.async false
set_option linter.all false
set_option maxRecDepth 100000
set_option maxHeartbeats 2000000
namespace Kx
open PySem PySem.Spec PyProof.Rows L2 DL
section
variable {P : Program} {w : World} {K : PySem.W.Frag} {mg : Str → Option Value} {base : Heap}
/-- what a wrong value is like -/
structure Wr (x : D) : Prop where
  top : x.top = x
  ty : tyD x ≠ none
  ok : OkV x
  t3 : Ty3 x
theorem atom_ty {x : D} (h : isAtom x = true) : tyD x ≠ none := by cases x <;> first | (cases h; done) | (intro z; cases z)
theorem atom_items {x : D} (h : isAtom x = true) : itemsD x = none := by cases x <;> first | (cases h; done) | rfl
theorem sm_ty : ∀ {n : Nat} {x : D}, Sm n x x → tyD x ≠ none := by
  intro n x h
  rw [← tyD_top]
  cases n with
  | zero => exact atom_ty h.2
  | succ n =>
    rcases h with h | ⟨ys, zs, h, _⟩
    · exact atom_ty h.2
    · rcases h with ⟨h, _⟩ | ⟨h, _⟩ <;> rw [h] <;> intro z <;> cases z
theorem itemsD_eq {x : D} {es : List D} (h : x.top = .lst es ∨ x.top = .tup es) : itemsD x = some es := by
  unfold itemsD
  rcases h with h | h <;> rw [h]
theorem itemsD_tt {x y : D} (h : x.top = y) (hy : isAtom y = true) : itemsD x = none := by
  unfold itemsD
  rw [h]
  cases y <;> first | (cases hy; done) | rfl
theorem sm_sub {n : Nat} {x : D} {es : List D} (h : Sm n x x) (he : itemsD x = some es) : es.length < 10000 ∧ ∀ z ∈ es, Sm (n - 1) z z := by
  cases n with
  | zero => rw [itemsD_tt rfl h.2] at he; cases he
  | succ n =>
    rcases h with h | ⟨ys, zs, h, h1, h2, h3⟩
    · rw [itemsD_tt rfl h.2] at he; cases he
    · have e1 : itemsD x = some ys := itemsD_eq (h.elim (fun h => .inr h.1) fun h => .inl h.1)
      have e2 : itemsD x = some zs := itemsD_eq (h.elim (fun h => .inr h.2) fun h => .inl h.2)
      rw [e2] at e1 he
      cases e1
      cases he
      exact ⟨h2, fun z hz => by
        obtain ⟨i, hi⟩ := List.mem_iff_getElem?.mp hz
        exact h3 i z z hi hi⟩
theorem ty3_of {x : D} {n : Nat} (h : Sm n x x) : Ty3 x := ⟨sm_ty h, fun ds hd => by
  obtain ⟨h1, h2⟩ := sm_sub h hd
  exact ⟨h1, fun y hy => ⟨sm_ty (h2 y hy), fun es he => by
    obtain ⟨h3, h4⟩ := sm_sub (h2 y hy) he
    exact ⟨h3, fun z hz => sm_ty (h4 z hz)⟩⟩⟩⟩
theorem wr_atom {x : D} (h : isAtom x = true) : Wr x := ⟨atom_top h, atom_ty h, .inl ⟨Sm_atom h 5, by
  cases x <;> first | (cases h; done) | exact ⟨_, rfl, rfl, rfl⟩⟩, ty3_of (Sm_atom h 5)⟩
theorem wr_tup {ds : List D} (hl : ds.length < 10000) (h : ∀ y ∈ ds, Sm 4 y y) : Wr (.tup ds) :=
  have hs : Sm 5 (.tup ds) (.tup ds) := Sm_items (.inr rfl) hl h
  ⟨rfl, sm_ty hs, .inl ⟨hs, _, rfl, rfl, rfl⟩, ty3_of hs⟩
theorem wr_lst {ds : List D} (hl : ds.length < 1000) (h : ∀ y ∈ ds, Sm 4 y y) : Wr (.lst ds) :=
  have hs : Sm 5 (.lst ds) (.lst ds) := Sm_items (.inl rfl) (by omega) h
  ⟨rfl, sm_ty hs, .inr (.inl ⟨ds, rfl, hl, h⟩), ty3_of hs⟩
theorem wr_dct : Wr (.dct []) := ⟨rfl, (fun z => nomatch z), .inr (.inr rfl), ⟨(fun z => nomatch z), fun ds h => nomatch h⟩⟩
theorem smA {ds : List D} (hl : ds.length < 10000) (h : ∀ y ∈ ds, isAtom y = true) : Sm 4 (.tup ds) (.tup ds) := Sm_le (Sm_items (n := 0) (.inr rfl) hl fun y hy => Sm_atom (h y hy) 0) (by omega)
theorem smAL {ds : List D} (hl : ds.length < 10000) (h : ∀ y ∈ ds, isAtom y = true) : Sm 4 (.lst ds) (.lst ds) := Sm_le (Sm_items (n := 0) (.inl rfl) hl fun y hy => Sm_atom (h y hy) 0) (by omega)
theorem rowL_atoms {n : Nat} {f : Nat → Nat} : ∀ y ∈ rowL n f, isAtom y = true := fun y hy => by
  unfold rowL at hy
  obtain ⟨i, _, rfl⟩ := List.mem_map.mp hy
  rfl
theorem sm_row {n : Nat} {f : Nat → Nat} (h : n < 10000) : Sm 4 (rowD n f) (rowD n f) := smA (ds := rowL n f) (by rw [rowL_len]; exact h) rowL_atoms
theorem rowsT_sm {n : Nat} {f : Nat → Nat → Nat} (h : n < 10000) : ∀ y ∈ rowsT n f, Sm 4 y y := fun y hy => by
  unfold rowsT at hy
  obtain ⟨i, _, rfl⟩ := List.mem_map.mp hy
  exact sm_row h
theorem rowsL_sm {n : Nat} {f : Nat → Nat → Nat} (h : n < 10000) : ∀ y ∈ rowsL n f, Sm 4 y y := fun y hy => by
  unfold rowsL at hy
  obtain ⟨i, _, rfl⟩ := List.mem_map.mp hy
  exact smAL (by rw [rowL_len]; exact h) rowL_atoms
theorem isTab_no {ds : List D} {y : D} (hy : y ∈ ds) (h : isTupOf y ds.length = false ∨ areEl y ds.length = false) : isTab (.tup ds) = false := by
  cases q : isTab (.tup ds) with
  | false => rfl
  | true =>
    have q' : (decide (1 ≤ ds.length) && decide (ds.length ≤ 10) && ds.all fun l => isTupOf l ds.length && areEl l ds.length) = true := q
    simp only [Bool.and_eq_true, List.all_eq_true] at q'
    obtain ⟨h1, h2⟩ := q'.2 y hy
    rcases h with h | h
    · rw [h] at h1; cases h1
    · rw [h] at h2; cases h2
theorem tupOf_no {es : List D} {k : Nat} (h : es.length ≠ k) : isTupOf (.tup es) (k : Nat) = false := by
  show decide ((es.length : Int) = (k : Int)) = false
  exact decide_eq_false (by omega)
theorem odd_sm {n : Nat} {o : D} (hn : n ≤ 10) (h : o ∈ oddsD n) : Sm 3 o o ∧ inRg o 0 ((n : Int) - 1) = false := by
  have a : ∀ {x : D}, isAtom x = true → Sm 3 x x := fun h => Sm_atom h 3
  unfold oddsD at h
  simp only [List.mem_cons, List.not_mem_nil, or_false] at h
  rcases h with rfl | rfl | rfl | rfl | rfl | rfl | rfl | rfl
  · refine ⟨a rfl, ?_⟩
    show (decide ((0 : Int) ≤ (n : Int)) && decide ((n : Int) ≤ (n : Int) - 1)) = false
    rw [decide_eq_false (by omega : ¬ (n : Int) ≤ (n : Int) - 1), Bool.and_false]
  · exact ⟨a rfl, rfl⟩
  · exact ⟨a rfl, rfl⟩
  · exact ⟨a rfl, rfl⟩
  · exact ⟨a rfl, rfl⟩
  · exact ⟨Sm_le (Sm_items (n := 0) (.inr rfl) (by decide) fun y hy => by rw [List.mem_singleton.mp hy]; exact Sm_atom rfl 0) (by decide), rfl⟩
  · exact ⟨Sm_le (Sm_items (n := 0) (.inl rfl) (by decide) fun y hy => by rw [List.mem_singleton.mp hy]; exact Sm_atom rfl 0) (by decide), rfl⟩
  · refine ⟨a rfl, ?_⟩
    show (decide ((0 : Int) ≤ 10 ^ 30) && decide ((10 ^ 30 : Int) ≤ (n : Int) - 1)) = false
    rw [decide_eq_false (by omega : ¬ (10 ^ 30 : Int) ≤ (n : Int) - 1), Bool.and_false]
theorem noTabs_wr {n : Nat} {f : Nat → Nat → Nat} (hf : TabOk n f) {x : D} (h : x ∈ noTabs n f) : Wr x ∧ isTab x = false := by
  have h1 := hf.n1
  have h10 := hf.n10
  have hneT : rowsT n f ≠ [] := fun z => by have := rowsT_len (n := n) (f := f); rw [z] at this; simp at this; omega
  unfold noTabs at h
  rcases List.mem_append.mp h with h | h
  rcases List.mem_append.mp h with h | h
  · unfold noA at h
    simp only [List.mem_cons, List.not_mem_nil, or_false] at h
    rcases h with rfl | rfl | rfl | rfl | rfl | rfl | rfl | rfl | rfl | rfl | rfl | rfl | rfl | rfl | rfl | rfl
    · exact ⟨wr_atom rfl, rfl⟩
    · exact ⟨wr_atom rfl, rfl⟩
    · exact ⟨wr_atom rfl, rfl⟩
    · exact ⟨wr_atom rfl, rfl⟩
    · exact ⟨wr_atom rfl, rfl⟩
    · exact ⟨wr_atom rfl, rfl⟩
    · exact ⟨wr_tup (by decide) (fun y hy => nomatch hy), rfl⟩
    · exact ⟨wr_lst (by decide) (fun y hy => nomatch hy), rfl⟩
    · exact ⟨wr_dct, rfl⟩
    · exact ⟨wr_lst (by rw [rowsL_len]; omega) (rowsL_sm (by omega)), rfl⟩
    · exact ⟨wr_lst (by rw [rowsT_len]; omega) (rowsT_sm (by omega)), rfl⟩
    · refine ⟨wr_tup (by rw [rowsL_len]; omega) (rowsL_sm (by omega)), isTab_no (y := .lst (rowL n (f 0))) ?_ (.inl rfl)⟩
      unfold rowsL
      exact List.mem_map.mpr ⟨0, List.mem_range.mpr (by omega), rfl⟩
    · refine ⟨wr_tup (by rw [List.length_tail, rowsT_len]; omega) fun y hy => rowsT_sm (by omega) y (List.mem_of_mem_tail hy), ?_⟩
      by_cases c : n = 1
      · have e : (rowsT n f).tail = [] := List.eq_nil_of_length_eq_zero (by rw [List.length_tail, rowsT_len]; omega)
        rw [e]; rfl
      · refine isTab_no (y := rowD n (f 1)) ?_ (.inl (tupOf_no (es := rowL n (f 1)) ?_))
        · unfold rowsT
          obtain ⟨k, rfl⟩ : ∃ k, n = k + 2 := ⟨n - 2, by omega⟩
          rw [List.range_succ_eq_map, List.map_cons, List.tail_cons, List.map_map]
          exact List.mem_map.mpr ⟨0, List.mem_range.mpr (by omega), rfl⟩
        · rw [rowL_len, List.length_tail, rowsT_len]; omega
    · refine ⟨wr_tup (by rw [List.length_append, rowsT_len]; simp <;> omega) fun y hy => ?_, isTab_no (y := rowD n (f 0)) (List.mem_append.mpr (.inr List.mem_cons_self)) (.inl (tupOf_no (es := rowL n (f 0)) ?_))⟩
      · rcases List.mem_append.mp hy with hy | hy
        · exact rowsT_sm (by omega) y hy
        · rw [List.mem_singleton.mp hy]; exact sm_row (by omega)
      · rw [rowL_len, List.length_append, rowsT_len]; simp
    · refine ⟨wr_tup (by rw [List.length_append, List.length_tail, rowsT_len]; simp <;> omega) fun y hy => ?_, isTab_no (y := .tup (rowL n (f 0)).tail) (List.mem_append.mpr (.inl List.mem_cons_self)) (.inl (tupOf_no ?_))⟩
      · rcases List.mem_append.mp hy with hy | hy
        · rw [List.mem_singleton.mp hy]; exact smA (by rw [List.length_tail, rowL_len]; omega) fun z hz => rowL_atoms z (List.mem_of_mem_tail hz)
        · exact rowsT_sm (by omega) y (List.mem_of_mem_tail hy)
      · rw [List.length_tail, rowL_len, List.length_append, List.length_tail, rowsT_len]; simp <;> omega
    · refine ⟨wr_tup (by rw [List.length_append, List.length_tail, rowsT_len]; simp <;> omega) fun y hy => ?_, isTab_no (y := .tup (rowL n (f 0) ++ [.int 0])) (List.mem_append.mpr (.inl List.mem_cons_self)) (.inl (tupOf_no ?_))⟩
      · rcases List.mem_append.mp hy with hy | hy
        · rw [List.mem_singleton.mp hy]
          refine smA (by rw [List.length_append, rowL_len]; simp <;> omega) fun z hz => ?_
          rcases List.mem_append.mp hz with hz | hz
          · exact rowL_atoms z hz
          · rw [List.mem_singleton.mp hz]; rfl
        · exact rowsT_sm (by omega) y (List.mem_of_mem_tail hy)
      · rw [List.length_append, rowL_len, List.length_append, List.length_tail, rowsT_len]; simp <;> omega
  · obtain ⟨o, ho, rfl⟩ := List.mem_map.mp h
    obtain ⟨s1, s2⟩ := odd_sm h10 ho
    have hlast : Sm 4 (.tup ((rowL n (f (n - 1))).dropLast ++ [o])) (.tup ((rowL n (f (n - 1))).dropLast ++ [o])) := Sm_items (.inr rfl) (by rw [List.length_append, List.length_dropLast, rowL_len]; simp <;> omega) fun z hz => by
      rcases List.mem_append.mp hz with hz | hz
      · exact Sm_atom (rowL_atoms z ((List.dropLast_sublist _).subset hz)) 3
      · rw [List.mem_singleton.mp hz]; exact s1
    refine ⟨wr_tup (by rw [List.length_append, List.length_dropLast, rowsT_len]; simp <;> omega) fun y hy => ?_, isTab_no (y := .tup ((rowL n (f (n - 1))).dropLast ++ [o])) (List.mem_append.mpr (.inr List.mem_cons_self)) (.inr ?_)⟩
    · rcases List.mem_append.mp hy with hy | hy
      · exact rowsT_sm (by omega) y ((List.dropLast_sublist _).subset hy)
      · rw [List.mem_singleton.mp hy]; exact hlast
    · rw [show ((((rowsT n f).dropLast ++ [D.tup ((rowL n (f (n - 1))).dropLast ++ [o])]).length : Nat) : Int) = (n : Int) by rw [List.length_append, List.length_dropLast, rowsT_len]; simp <;> omega]
      show (((rowL n (f (n - 1))).dropLast ++ [o]).all fun y => inRg y 0 ((n : Int) - 1)) = false
      rw [List.all_append, List.all_cons, s2]
      simp
  · unfold noC at h
    simp only [List.mem_cons, List.not_mem_nil, or_false] at h
    rcases h with rfl | rfl | rfl | rfl
    · exact ⟨wr_tup (by decide) fun y hy => by rw [List.eq_of_mem_replicate hy]; exact smA (by decide) fun z hz => by rw [List.eq_of_mem_replicate hz]; rfl, rfl⟩
    · refine ⟨wr_tup (by simp; omega) fun y hy => by rw [List.eq_of_mem_replicate hy]; exact sm_row (by omega), isTab_no (y := rowD n (f 0)) (List.mem_replicate.mpr ⟨by omega, rfl⟩) (.inl (tupOf_no (es := rowL n (f 0)) ?_))⟩
      rw [rowL_len]; simp
    · exact ⟨wr_tup (by decide) fun y hy => by rw [List.mem_singleton.mp hy]; exact smA (by decide) (fun z hz => nomatch hz), rfl⟩
    · exact ⟨wr_tup (by simp; omega) fun y hy => by rw [List.eq_of_mem_replicate hy]; exact Sm_atom rfl 4, isTab_no (y := .int 0) (List.mem_replicate.mpr ⟨by omega, rfl⟩) (.inl rfl)⟩
theorem tbl_wr {n : Nat} {f : Nat → Nat → Nat} (h : n ≤ 10) : Wr (tblD n f) := wr_tup (ds := rowsT n f) (by rw [rowsT_len]; omega) (rowsT_sm (by omega))
theorem isSemi_no {x : D} (h : isTab x = false) : isSemi x = false := by unfold isSemi; rw [h]; rfl

def nsF (x y : Nat) : Nat := if x = 1 ∧ y = 0 then 1 else 0
def R_law_no_semigroup : List D → D → Prop
  | [m], d => ∃ k : Nat, 2 ≤ k ∧ k ≤ 6 ∧ m = .int (k : Nat) ∧ d = tblD k nsF
  | _, _ => False
theorem ok_law_no_semigroup (T : Tx K mg) : FnOk P w K mg base CX0 1 T.f_law_no_semigroup T.d_law_no_semigroup p_law_no_semigroup (spD K R_law_no_semigroup) := by
  refine T.F_law_no_semigroup.ok sc_law_no_semigroup (fun vs H Q E h => ?_) (fun cdv A outer s H vs Q E hr h => ?_)
  · obtain ⟨G, ds, d, e, hd, hR, q⟩ := h
    rw [hd.length]
    match ds, hR with
    | [_], _ => rfl
  · refine ⟨_, (pss_one (ps_ret (pe_op (op_catAK K) (pe_tup (pa_cons (pe_op (op_repT2K (K := K)) (pe_tup (pa_cons pe_int pa_nil)) (pv 0)) (pa_cons (pe_op (op_catTK K) (pe_tup (pa_cons pe_int pa_nil)) (pe_op (op_repT2K (K := K)) (pe_tup (pa_cons pe_int pa_nil)) (pe_op op_sub (pv 0) pe_int))) pa_nil))) (pe_op (op_repT3K K) (pe_tup (pa_cons (pe_op (op_repT2K (K := K)) (pe_tup (pa_cons pe_int pa_nil)) (pv 0)) pa_nil)) (pe_op op_sub (pv 0) pe_int))))), ?_⟩
    obtain ⟨G, ds, d, e, hd, hR, q⟩ := h
    have hl : ∃ x0, ds = [x0] := by
      match ds, hR with
      | [x0], _ => exact ⟨x0, rfl⟩
    obtain ⟨x0, rfl⟩ := hl
    cases hd with
    | @cons v0 vs0 _ _ dv0 hd =>
    cases hd
    refine EX.fin (W := fun _ _ _ _ => False) (good_start e ((.cons dv0 .nil)) n_law_no_semigroup) q ?_
    show EX K ⟨G, H, none⟩ _ _ [Sl.val v0 x0] _
    obtain ⟨k, h2, h6, rfl, rfl⟩ := hR
    have r0 : EV K ⟨G, H, none⟩ (tOp (rRepT2 K) (tTup (tCons (tC (V.int 0)) tNil)) (tVar 0)) [Sl.val v0 (.int (k : Nat))] (.tup (List.replicate k (.int 0))) := ev_is (ev_op (ev_tup (ea_cons ev_int ea_nil) (sz 1)) (ev_var rfl) (op_repTD (by omega) (by omega) (fun z => nomatch z) (by simp))) (by rw [rep1, Int.toNat_natCast])
    refine ex_ret (ev_is (ev_op (ev_tup (ea_cons r0 (ea_cons (ev_op (ev_tup (ea_cons ev_int ea_nil) (sz 1)) (ev_op (ev_tup (ea_cons ev_int ea_nil) (sz 1)) (ev_op (ev_var rfl) (ev_int (i := 1)) op_subI) (op_repTD (by omega) (by omega) (fun z => nomatch z) (by simp))) (op_catTD (by rw [rep1, sizeLine_eq]; simp <;> omega) (fun z => nomatch z) (fun z => by rw [rep1] at z; have := congrArg List.length z; simp at this; omega))) ea_nil)) (sz 2))
      (ev_op (ev_tup (ea_cons r0 ea_nil) (sz 1)) (ev_is (ev_op (ev_var rfl) (ev_int (i := 2)) op_subI) (show _ = D.int ((k - 2 : Nat) : Int) by congr 1; omega)) (op_repT3D (by omega) (fun z => nomatch z) (by simp))) (op_catAD (by rw [rep1, sizeLine_eq]; simp <;> omega))) ?_) fun v => rfl
    rw [rep1, rep1, show ((k : Int) - 1).toNat = k - 1 by omega]
    obtain rfl | rfl | rfl | rfl | rfl : k = 2 ∨ k = 3 ∨ k = 4 ∨ k = 5 ∨ k = 6 := by omega
    all_goals rfl
theorem isSemi_ns {k : Nat} (h2 : 2 ≤ k) (h6 : k ≤ 6) : isSemi (tblD k nsF) = false := by
  obtain rfl | rfl | rfl | rfl | rfl : k = 2 ∨ k = 3 ∨ k = 4 ∨ k = 5 ∨ k = 6 := by omega
  all_goals rfl

end
end Kx


set_option Elab.async false
set_option linter.all false
set_option maxRecDepth 100000
set_option maxHeartbeats 2000000
namespace Kx
open PySem PySem.Spec PyProof.Rows L2 DL
section
variable {P : Program} {w : World} {K : PySem.W.Frag} {mg : Str → Option Value} {base : Heap}
def noLstsD (m : Nat) : List D := [.non, .int 7, .str "0", .dct [], .lst [.int (m : Nat)], .lst [.int (-1)], .lst [.bl true], .lst [.str "0"], .lst [.non], .lst [.tup [.int 0]], .tup [.int (m : Nat)], .lst [.lst [.int 0]], .lst [.int (10 ^ 30)]]
def R_law_no_lists_of : List D → D → Prop
  | [m], d => ∃ k : Nat, m = .int (k : Nat) ∧ d = .lst (noLstsD k)
  | _, _ => False
theorem ok_law_no_lists_of (T : Tx K mg) : FnOk P w K mg base CX0 1 T.f_law_no_lists_of T.d_law_no_lists_of p_law_no_lists_of (spD K R_law_no_lists_of) := by
  refine T.F_law_no_lists_of.ok sc_law_no_lists_of (fun vs H Q E h => ?_) (fun cdv A outer s H vs Q E hr h => ?_)
  · obtain ⟨G, ds, d, e, hd, hR, q⟩ := h
    rw [hd.length]
    match ds, hR with
    | [_], _ => rfl
  · refine ⟨_, (pss_one (ps_ret (pe_lst (pa_cons pe_non (pa_cons pe_int (pa_cons pe_str (pa_cons pe_dnewK (pa_cons (pe_lst (pa_cons (pv 0) pa_nil)) (pa_cons (pe_lst (pa_cons (pe_un un_neg pe_int) pa_nil)) (pa_cons (pe_lst (pa_cons pe_bl pa_nil)) (pa_cons (pe_lst (pa_cons pe_str pa_nil)) (pa_cons (pe_lst (pa_cons pe_non pa_nil)) (pa_cons (pe_lst (pa_cons (pe_tup (pa_cons pe_int pa_nil)) pa_nil)) (pa_cons (pe_tup (pa_cons (pv 0) pa_nil)) (pa_cons (pe_lst (pa_cons (pe_lst (pa_cons pe_int pa_nil)) pa_nil)) (pa_cons (pe_lst (pa_cons (pe_op op_pow pe_int pe_int) pa_nil)) pa_nil)))))))))))))))), ?_⟩
    obtain ⟨G, ds, d, e, hd, hR, q⟩ := h
    have hl : ∃ x0, ds = [x0] := by
      match ds, hR with
      | [x0], _ => exact ⟨x0, rfl⟩
    obtain ⟨x0, rfl⟩ := hl
    cases hd with
    | @cons v0 vs0 _ _ dv0 hd =>
    cases hd
    refine EX.fin (W := fun _ _ _ _ => False) (good_start e ((.cons dv0 .nil)) n_law_no_lists_of) q ?_
    show EX K ⟨G, H, none⟩ _ _ [Sl.val v0 x0] _
    obtain ⟨k, rfl, rfl⟩ := hR
    exact ex_ret (ev_lst (ds := noLstsD k) (ea_cons ev_non (ea_cons ev_int (ea_cons ev_str (ea_cons ev_dnew (ea_cons (ev_lst (ea_cons (ev_var rfl) ea_nil) (sz 1)) (ea_cons (ev_lst (ea_cons (ev_un ev_int un_negI) ea_nil) (sz 1)) (ea_cons (ev_lst (ea_cons ev_bl ea_nil) (sz 1)) (ea_cons (ev_lst (ea_cons ev_str ea_nil) (sz 1)) (ea_cons (ev_lst (ea_cons ev_non ea_nil) (sz 1)) (ea_cons (ev_lst (ea_cons (ev_tup (ea_cons ev_int ea_nil) (sz 1)) ea_nil) (sz 1)) (ea_cons (ev_tup (ea_cons (ev_var rfl) ea_nil) (sz 1)) (ea_cons (ev_lst (ea_cons (ev_lst (ea_cons ev_int ea_nil) (sz 1)) ea_nil) (sz 1)) (ea_cons (ev_lst (ea_cons (ev_op ev_int ev_int (op_powI ⟨by decide, by decide, by decide⟩)) ea_nil) (sz 1)) ea_nil))))))))))))) (sz 13)) fun v => rfl
theorem wr_lst1 {x : D} (h : Sm 4 x x) : Wr (.lst [x]) := wr_lst (by show 1 < 1000; decide) fun y hy => by rw [List.mem_singleton.mp hy]; exact h
theorem wr_tyL {x : D} (h : Wr x) : TyL x := ⟨h.ty, fun ds hd => ⟨(h.t3.2 ds hd).1, fun y hy => ((h.t3.2 ds hd).2 y hy).1⟩⟩
theorem noLsts_wr {m : Nat} {x : D} (h : x ∈ noLstsD m) : Wr x ∧ (m ≤ 10 → areEl x (m : Nat) = false) := by
  unfold noLstsD at h
  simp only [List.mem_cons, List.not_mem_nil, or_false] at h
  have hmm : inRg (.int (m : Nat)) 0 ((m : Int) - 1) = false := by
    show (decide ((0 : Int) ≤ (m : Int)) && decide ((m : Int) ≤ (m : Int) - 1)) = false
    rw [decide_eq_false (by omega : ¬ (m : Int) ≤ (m : Int) - 1), Bool.and_false]
  have one : ∀ {y : D}, inRg y 0 ((m : Int) - 1) = false → areEl (.lst [y]) (m : Nat) = false := fun {y} h => by
    show ([y].all fun y => inRg y 0 ((m : Int) - 1)) = false
    rw [List.all_cons, h]; rfl
  have oneT : ∀ {y : D}, inRg y 0 ((m : Int) - 1) = false → areEl (.tup [y]) (m : Nat) = false := fun {y} h => by
    show ([y].all fun y => inRg y 0 ((m : Int) - 1)) = false
    rw [List.all_cons, h]; rfl
  rcases h with rfl | rfl | rfl | rfl | rfl | rfl | rfl | rfl | rfl | rfl | rfl | rfl | rfl
  · exact ⟨wr_atom rfl, fun _ => rfl⟩
  · exact ⟨wr_atom rfl, fun _ => rfl⟩
  · exact ⟨wr_atom rfl, fun _ => rfl⟩
  · exact ⟨wr_dct, fun _ => rfl⟩
  · exact ⟨wr_lst1 (Sm_atom rfl 4), fun _ => one hmm⟩
  · exact ⟨wr_lst1 (Sm_atom rfl 4), fun _ => one rfl⟩
  · exact ⟨wr_lst1 (Sm_atom rfl 4), fun _ => one rfl⟩
  · exact ⟨wr_lst1 (Sm_atom rfl 4), fun _ => one rfl⟩
  · exact ⟨wr_lst1 (Sm_atom rfl 4), fun _ => one rfl⟩
  · exact ⟨wr_lst1 (smA (ds := [.int 0]) (by decide) fun y hy => by rw [List.mem_singleton.mp hy]; rfl), fun _ => one rfl⟩
  · exact ⟨wr_tup (by show 1 < 10000; decide) fun y hy => by rw [List.mem_singleton.mp hy]; exact Sm_atom rfl 4, fun _ => oneT hmm⟩
  · exact ⟨wr_lst1 (smAL (ds := [.int 0]) (by decide) fun y hy => by rw [List.mem_singleton.mp hy]; rfl), fun _ => one rfl⟩
  · refine ⟨wr_lst1 (Sm_atom rfl 4), fun hm => one ?_⟩
    show (decide ((0 : Int) ≤ 10 ^ 30) && decide ((10 ^ 30 : Int) ≤ (m : Int) - 1)) = false
    rw [decide_eq_false (by omega : ¬ (10 ^ 30 : Int) ≤ (m : Int) - 1), Bool.and_false]

end
end Kx


set_option Elab.async false
set_option linter.all false
set_option maxRecDepth 100000
set_option maxHeartbeats 2000000
namespace Kx
open PySem PySem.Spec PyProof.Rows L2 DL
section
variable {P : Program} {w : World} {K : PySem.W.Frag} {mg : Str → Option Value} {base : Heap}
theorem Sm_pair {s : Str} {x y : D} {k : Nat} (h : Sm k x y) : Sm (k + 1) (.lst [.str s, x]) (.lst [.str s, y]) :=
  .inr ⟨_, _, .inr ⟨rfl, rfl⟩, rfl, by show 2 < 10000; decide, fun i a b ha hb => by
    match i, ha, hb with
    | 0, ha, hb => cases ha; cases hb; exact Sm_atom rfl k
    | 1, ha, hb => cases ha; cases hb; exact h
    | i + 2, ha, hb => simp at ha⟩
theorem atom_nolist {x : D} (h : isAtom x = true) : ∃ t, tyD x = some t ∧ kitB t "list" = some false := by
  cases x <;> first | (cases h; done) | exact ⟨_, rfl, rfl⟩

/-- what a door answers, if a list then no long one -/
def LsOk (r : D) : Prop := ∃ t b, tyD r = some t ∧ kitB t "list" = some b ∧ (b = true → ∃ ds, r = .lst ds ∧ ds.length < sizeLine)
theorem ls_atom {r : D} (h : isAtom r = true) : LsOk r := by
  obtain ⟨t, ht, hk⟩ := atom_nolist h
  exact ⟨t, false, ht, hk, fun z => nomatch z⟩
theorem ls_tup {ds : List D} : LsOk (.tup ds) := ⟨"tuple", false, rfl, rfl, fun z => nomatch z⟩
theorem ls_lst {ds : List D} (h : ds.length < sizeLine) : LsOk (.lst ds) := ⟨"list", true, rfl, rfl, fun _ => ⟨ds, rfl, h⟩⟩
def R_law_twice : List D → D → Prop
  | [wd, args, due, nm], d => ∃ (w : D) (aa : List D) (nn : Bool) (r : D), wd = w ∧ args = .lst aa ∧ nm = .bl nn ∧ RDoor w aa r ∧ Sm 4 r due ∧ LsOk r ∧ d = .bl true
  | _, _ => False
theorem ok_law_twice (T : Tx K mg) : FnOk P w K mg base CX0 11 T.f_law_twice T.d_law_twice p_law_twice (spD K R_law_twice) := by
  refine T.F_law_twice.ok sc_law_twice (fun vs H Q E h => ?_) (fun cdv A outer s H vs Q E hr h => ?_)
  · obtain ⟨G, ds, d, e, hd, hR, q⟩ := h
    rw [hd.length]
    match ds, hR with
    | [_, _, _, _], _ => rfl
  · refine ⟨_, (pss_cons (ps_for PassesOwn.never rfl (pi_range1 (by rfl) T.m_range (pa_cons pe_int pa_nil)) (pg_name (i := 4) sc_law_twice.nd rfl (.inl rfl))
      (pss_cons (ps_set (i := 5) sc_law_twice.nd rfl (.inl rfl) (pe_call (ok_law_asked T) (hr.mono (by omega)) (by rfl) T.g_law_asked T.F_law_asked.kp T.b_law_asked .nil pass0 (pa_cons (pv 0) (pa_cons (pv 1) (pa_cons (pe_cmpR op_eq (pv 3) (pe_cmpR op_eq (pv 4) pe_int (nomark _)) (nomark _)) pa_nil)))))
      (pss_cons (ps_if (pt_not (pt_val (pe_call (ok_law_same T 6) (hr.mono (by omega)) (by rfl) T.g_law_same T.F_law_same.kp T.b_law_same .nil pass0 (pa_cons (pv 5) (pa_cons (pe_lst (pa_cons pe_str (pa_cons (pv 2) pa_nil))) pa_nil))))) (pss_one (ps_ret pe_bl)) pss_nil)
      (pss_one (ps_if (pt_val (pe_callB (call_isiK K) (by rfl) T.m_isinstance (by decide +kernel) (pa_cons (pe_ix (ix_seqK K) (pv 5) pe_int (fun _ _ => rfl)) (pa_cons (pe_bltn (v := .ty "list") (by rfl) T.m_list (by decide +kernel) rfl) pa_nil)))) (pss_one (ps_expr (pe_bmK K PySem.F.plainAttrs_list PySem.F.slot_list_append PySem.F.type_list_append mt_append (pe_ix (ix_seqK K) (pv 5) pe_int (fun _ _ => rfl)) (pa_cons pe_non pa_nil)))) pss_nil)))))
      (pss_one (ps_ret pe_bl))), ?_⟩
    obtain ⟨G, ds, d, e, hd, hR, q⟩ := h
    have hl : ∃ x0 x1 x2 x3, ds = [x0, x1, x2, x3] := by
      match ds, hR with
      | [x0, x1, x2, x3], _ => exact ⟨x0, x1, x2, x3, rfl⟩
    obtain ⟨x0, x1, x2, x3, rfl⟩ := hl
    cases hd with
    | @cons v0 vs0 _ _ dv0 hd =>
    cases hd with
    | @cons v1 vs1 _ _ dv1 hd =>
    cases hd with
    | @cons v2 vs2 _ _ dv2 hd =>
    cases hd with
    | @cons v3 vs3 _ _ dv3 hd =>
    cases hd
    refine EX.fin (W := fun _ _ _ _ => False) (good_start e ((.cons dv0 (.cons dv1 (.cons dv2 (.cons dv3 .nil))))) n_law_twice) q ?_
    show EX K ⟨G, H, none⟩ _ _ [Sl.val v0 x0, Sl.val v1 x1, Sl.val v2 x2, Sl.val v3 x3, Sl.un, Sl.un] _
    obtain ⟨w', aa, nn, r, rfl, rfl, rfl, hRD, hsm, ⟨ty, b, ht, hk, hb⟩, rfl⟩ := hR
    refine ex_forRS (n := 2) (fun _ env' => ∃ s4 s5, env' = [Sl.val v0 x0, Sl.val v1 (.lst aa), Sl.val v2 x2, Sl.val v3 (.bl nn), s4, s5]) ev_int (by decide) ⟨_, _, rfl⟩ ?_ fun env' ⟨s4, s5, h⟩ => by subst h; exact ex_ret ev_bl fun v => rfl
    rintro i env' vi hi ⟨s4, s5, rfl⟩
    refine ex_askApp (i := 5) (s := "result") (r := r) (F := fun H d => ∃ u, d = .lst [.str "result", .idn u r] ∧ Fr H u r) (er_call (ea_cons (ev_var rfl) (ea_cons (ev_var rfl) (ea_cons (ev_op (ev_var rfl) (ev_op (ev_var rfl) ev_int op_eqI) op_eqB) ea_nil))) (fun H => ⟨x0, aa, _, rfl, rfl, rfl, .inl ⟨r, hRD, fun u hu => ⟨u, rfl, hu⟩⟩⟩) (fun H H' d e ⟨u, h1, h2⟩ => ⟨u, h1, h2.back e⟩)) (fun H d h => h)
      (fun v => et_is (et_not (et_B (ev_callSm (ea_cons (ev_var rfl) (ea_cons (ev_lst (ea_cons ev_str (ea_cons (ev_var rfl) ea_nil)) (sz 2)) ea_nil)) (Sm_pair hsm)))) rfl)
      (fun v => ⟨b, et_B (ev_isT (b := b) (ev_op (ev_var rfl) ev_int (op_ix (.inr rfl) (atI_natD (j := 1) rfl))) ht hk), hb⟩) (by show 5 < 6; decide) ⟨_, _, rfl⟩

theorem idns : ∀ (ds : List D), (∀ k : Nat, k < ds.length → ∃ (v : V) (x : D), ds[k]? = some (D.idn v x)) → ∃ (vs : List V) (as : List D), vs.length = ds.length ∧ as.length = ds.length ∧ ds = List.zipWith D.idn vs as ∧ ∀ (k : Nat) (v : V) (x : D), ds[k]? = some (D.idn v x) → vs[k]? = some v ∧ as[k]? = some x
  | [], _ => ⟨[], [], rfl, rfl, rfl, fun k v x h => by simp at h⟩
  | d :: ds, h => by
    obtain ⟨v, x, hd⟩ := h 0 (Nat.succ_pos _)
    obtain rfl : d = .idn v x := by simpa using hd
    obtain ⟨vs, as, h1, h2, h3, h4⟩ := idns ds fun k hk => by
      obtain ⟨v, x, e⟩ := h (k + 1) (Nat.succ_lt_succ hk)
      exact ⟨v, x, by simpa using e⟩
    refine ⟨v :: vs, x :: as, by rw [List.length_cons, List.length_cons, h1], by rw [List.length_cons, List.length_cons, h2], by rw [List.zipWith_cons_cons, ← h3], fun k v' x' e => ?_⟩
    cases k with
    | zero => simp at e; obtain ⟨rfl, rfl⟩ := e; exact ⟨rfl, rfl⟩
    | succ k => simpa using h4 k v' x' (by simpa using e)
/-- the arguments so far -/
def ArgsI (gd : List D) (E : Nat) (oss : List (List D)) (a i : Nat) (ds : List D) : Prop := ds.length = E ∧ (∀ k, k < a → ∃ v g, ds[k]? = some (.idn v g) ∧ gd[k]? = some g) ∧ (∀ k, k < E → ∃ v x, ds[k]? = some (.idn v x) ∧ (gd[k]? = some x ∨ ∃ os, oss[k]? = some os ∧ x ∈ os)) ∧ (1 ≤ i → ∃ u x os, ds[a]? = some (.idn u x) ∧ oss[a]? = some os ∧ x ∈ os)
theorem args0 {gd : List D} {E a : Nat} {oss : List (List D)} {xs : List V} (h : xs.length = E) (hg : gd.length = E) (ha : a < E) : ArgsI gd E oss a 0 (List.zipWith D.idn xs gd) := by
  have get : ∀ k, k < E → ∃ v g, (List.zipWith D.idn xs gd)[k]? = some (.idn v g) ∧ gd[k]? = some g := fun k hk => by
    refine ⟨xs[k], gd[k], ?_, List.getElem?_eq_getElem (by omega)⟩
    rw [List.getElem?_zipWith, List.getElem?_eq_getElem (by omega : k < xs.length), List.getElem?_eq_getElem (by omega : k < gd.length)]
  refine ⟨by rw [List.length_zipWith, hg, h, Nat.min_self], fun k hk => get k (by omega), fun k hk => ?_, fun z => absurd z (by decide)⟩
  obtain ⟨v, g, hv, hg⟩ := get k hk
  exact ⟨v, g, hv, .inl hg⟩
theorem args_set {gd : List D} {E a i : Nat} {oss : List (List D)} {os ds : List D} {v : V} {x : D} (h : ArgsI gd E oss a i ds) (hi : a + i < E) (ho : oss[a + i]? = some os) (hx : x ∈ os) : ArgsI gd E oss a (i + 1) (ds.set (a + i) (.idn v x)) := by
  obtain ⟨h1, h2, h3, h4⟩ := h
  refine ⟨by rw [List.length_set, h1], fun k hk => ?_, fun k hk => ?_, fun _ => ?_⟩
  · rw [List.getElem?_set_ne (by omega)]; exact h2 k hk
  · by_cases e : a + i = k
    · subst e; rw [List.getElem?_set_self (by omega)]; exact ⟨v, x, rfl, .inr ⟨os, ho, hx⟩⟩
    · rw [List.getElem?_set_ne e]; exact h3 k hk
  · by_cases e : i = 0
    · subst e; rw [Nat.add_zero] at ho ⊢; rw [List.getElem?_set_self (by omega)]; exact ⟨v, x, os, rfl, ho, hx⟩
    · rw [List.getElem?_set_ne (by omega)]; exact h4 (by omega)
theorem args_keep {gd : List D} {E a i : Nat} {oss : List (List D)} {ds : List D} (h : ArgsI gd E oss a i ds) (hi : 1 ≤ i) : ArgsI gd E oss a (i + 1) ds := ⟨h.1, h.2.1, h.2.2.1, fun _ => h.2.2.2 hi⟩
def RowOk (T : Tx K mg) (d : D) : Prop := ∃ (w : D) (gd : List D) (nms : List Str) (oss : List (List D)) (E : Nat), d = .tup [w, .lst gd, .lst (nms.map D.str), .lst (oss.map D.lst)] ∧ gd.length = E ∧ nms.length = E ∧ oss.length = E ∧ E ≤ 4 ∧
  (∀ os ∈ oss, 1 ≤ os.length ∧ os.length ≤ 100 ∧ ∀ x ∈ os, Wr x) ∧
  (∀ (a : Nat) (vs : List V) (as : List D), a < E → vs.length = E → as.length = E → (∀ k, k < a → as[k]? = gd[k]?) → (∀ k, k < E → as[k]? = gd[k]? ∨ ∃ os x, oss[k]? = some os ∧ x ∈ os ∧ as[k]? = some x) →
    ∀ u x os, vs[a]? = some u → as[a]? = some x → oss[a]? = some os → x ∈ os → ∃ cl nm, nms[a]? = some nm ∧ EDoor T w vs as cl u ∧ ErrN T cl nm)
def R_refusals (T : Tx K mg) : List D → (D → Prop) → Prop
  | [rows, nm], Pd => ∃ rs nn, rows = .lst rs ∧ nm = .bl nn ∧ rs.length ≤ 20 ∧ (∀ d ∈ rs, RowOk T d) ∧ Pd (.bl true)
  | _, _ => False
theorem ok_law_refusals_right (T : Tx K mg) : FnOk P w K mg base CX0 11 T.f_law_refusals_right T.d_law_refusals_right p_law_refusals_right (spB K 600 (R_refusals T)) := by
  refine T.F_law_refusals_right.ok sc_law_refusals_right (fun vs H Q E h => ?_) (fun cdv A outer s H vs Q E hr h => ?_)
  · obtain ⟨G, b, n, xs, bs, ws, ds, Pd, rfl, hG, hH, hx, hbx, hn, e, hd, hR, q⟩ := h
    rw [List.length_cons, hd.length]
    match ds, hR with
    | [_, _], _ => rfl
  · refine ⟨_, (pss_cons (ps_for PassesOwn.never rfl (pi_listK K (pv 1)) (pg_tupK K rfl (pgs_cons (pg_name (i := 3) sc_law_refusals_right.nd rfl (.inl rfl)) (pgs_cons (pg_name (i := 4) sc_law_refusals_right.nd rfl (.inl rfl)) (pgs_cons (pg_name (i := 5) sc_law_refusals_right.nd rfl (.inl rfl)) (pgs_cons (pg_name (i := 6) sc_law_refusals_right.nd rfl (.inl rfl)) pgs_nil)))))
      (pss_one (ps_for PassesOwn.never rfl (pi_range1 (by rfl) T.m_range (pa_cons (pe_callB (call_lenK K) (by rfl) T.m_len (by decide +kernel) (pa_cons (pv 5) pa_nil)) pa_nil)) (pg_name (i := 7) sc_law_refusals_right.nd rfl (.inl rfl))
      (pss_cons (ps_par (i := 8) (j := 9) rfl sc_law_refusals_right.nd rfl rfl (by decide) rfl rfl (pa_cons (pe_callTy (call_list_ofK K) (by rfl) T.m_list (by decide +kernel) (pa_cons (pv 4) pa_nil)) (pa_cons (pe_call (ok_law_take T) (hr.mono (by omega)) (by rfl) T.g_law_take T.F_law_take.kp T.b_law_take .nil pass0 (pa_cons (pv 0) (pa_cons pe_int pa_nil))) pa_nil)) (by rfl))
      (pss_cons (ps_for PassesOwn.never rfl (pi_range2 (by rfl) T.m_range (pa_cons (pv 7) (pa_cons (pe_callB (call_lenK K) (by rfl) T.m_len (by decide +kernel) (pa_cons (pv 5) pa_nil)) pa_nil))) (pg_name (i := 10) sc_law_refusals_right.nd rfl (.inl rfl))
      (pss_one (ps_if (PW.pt (pw_or (pt_cmpR op_eq (pv 10) (pv 7) (nomark _)) (pw_or1 (pt_cmpR op_eq (pv 9) pe_int (nomark _))))) (pss_one (ps_asg (pe_call (ok_law_copy T) (hr.mono (by omega)) (by rfl) T.g_law_copy T.F_law_copy.kp T.b_law_copy .nil pass0 (pa_cons (pe_ix (ix_seqK K) (pe_ix (ix_seqK K) (pv 6) (pv 10) (fun _ _ => rfl)) (pe_call (ok_law_take T) (hr.mono (by omega)) (by rfl) T.g_law_take T.F_law_take.kp T.b_law_take .nil pass0 (pa_cons (pv 0) (pa_cons (pe_callB (call_lenK K) (by rfl) T.m_len (by decide +kernel) (pa_cons (pe_ix (ix_seqK K) (pv 6) (pv 10) (fun _ _ => rfl)) pa_nil)) pa_nil))) (fun _ _ => rfl)) pa_nil)) (pg_sub (pv 8) (pv 10) set_list))) pss_nil)))
      (pss_cons (ps_set (i := 11) sc_law_refusals_right.nd rfl (.inl rfl) (pe_call (ok_law_asked T) (hr.mono (by omega)) (by rfl) T.g_law_asked T.F_law_asked.kp T.b_law_asked .nil pass0 (pa_cons (pv 3) (pa_cons (pv 8) (pa_cons (pv 2) pa_nil)))))
      (pss_cons (ps_if (PW.pt (pw_or (pt_cmpR op_ne (pe_ix (ix_seqK K) (pv 11) pe_int (fun _ _ => rfl)) (pe_ix (ix_seqK K) (pv 5) (pv 7) (fun _ _ => rfl)) (nomark _)) (pw_or1 (pt_not (pt_val (pe_call (ok_law_same_object T) (hr.mono (by omega)) (by rfl) T.g_law_same_object T.F_law_same_object.kp T.b_law_same_object .nil pass0 (pa_cons (pe_ix (ix_seqK K) (pv 11) pe_int (fun _ _ => rfl)) (pa_cons (pe_ix (ix_seqK K) (pv 8) (pv 7) (fun _ _ => rfl)) pa_nil)))))))) (pss_one (ps_ret pe_bl)) pss_nil)
      (pss_one (ps_set (i := 2) sc_law_refusals_right.nd rfl (.inl rfl) (pe_not (pv 2)))))))))))
      (pss_one (ps_ret pe_bl))), ?_⟩
    obtain ⟨G, b, n, xs, bs, ws, ds, Pd, rfl, hG, hH, hx, hbx, hn, e, hd, hR, q⟩ := h
    have hl : ∃ x1 x2, ds = [x1, x2] := by
      match ds, hR with
      | [x1, x2], _ => exact ⟨x1, x2, rfl⟩
    obtain ⟨x1, x2, rfl⟩ := hl
    cases hd with
    | @cons v1 vs0 _ _ dv1 hd =>
    cases hd with
    | @cons v2 vs1 _ _ dv2 hd =>
    cases hd
    refine EX.finB (W := fun _ _ _ _ => False) (k := 600) (n := n) (env := [Sl.own b bs, Sl.val v1 x1, Sl.val v2 x2, Sl.un, Sl.un, Sl.un, Sl.un, Sl.un, Sl.un, Sl.un, Sl.un, Sl.un]) rfl (good_box e hG hH hx ((.cons dv1 (.cons dv2 .nil))) n_law_refusals_right) q ?_
    obtain ⟨rs, nn, rfl, rfl, hlen, hrow, hP⟩ := hR
    refine ex_forS (fun i env' => ∃ bs' nn' u2 s3 s4 s5 s6 s7 s8 s9 s10 s11, BoxD (n + 30 * i) bs' ∧ env' = [Sl.own b bs', Sl.val v1 (.lst rs), Sl.val u2 (.bl nn'), s3, s4, s5, s6, s7, s8, s9, s10, s11]) (ei_list (ev_var rfl)) ⟨_, _, _, _, _, _, _, _, _, _, _, _, hbx, rfl⟩ ?_ fun env' h => ?_
    rotate_left
    · obtain ⟨bs', nn', u2, s3, s4, s5, s6, s7, s8, s9, s10, s11, hB, rfl⟩ := h
      exact ex_ret ev_bl fun v => ⟨hP, bs', hB.mono (by omega), rfl⟩
    rintro i env' v d hd ⟨bs0, nn0, u2, s3, s4, s5, s6, s7, s8, s9, s10, s11, hB0, rfl⟩
    have hi20 : i < 20 := Nat.lt_of_lt_of_le (List.getElem?_eq_some_iff.mp hd).1 hlen
    obtain ⟨w', gd, nms, oss, N, rfl, hg, hnl, hol, hN, hos, hask⟩ := hrow d (List.mem_of_getElem? hd)
    refine ⟨_, eg_four, fun env2 ⟨w3, w4, w5, w6, h⟩ => ?_⟩
    subst h
    refine ex_forR (n := N) (fun a env' => ∃ bs' nn' u2 s7 s8 s9 s10 s11, BoxD (n + 30 * i + 6 * a) bs' ∧ env' = [Sl.own b bs', Sl.val v1 (.lst rs), Sl.val u2 (.bl nn'), Sl.val w3 w', Sl.val w4 (.lst gd), Sl.val w5 (.lst (nms.map D.str)), Sl.val w6 (.lst (oss.map D.lst)), s7, s8, s9, s10, s11])
      (ev_is (ev_cb (ea_cons (ev_var rfl) ea_nil) cb_lenL) (by rw [List.length_map, hnl])) (by omega) ⟨_, _, _, _, _, _, _, _, hB0, rfl⟩ ?_ fun env' h => ?_
    rotate_left
    · obtain ⟨bs', nn', u2, s7, s8, s9, s10, s11, hB, rfl⟩ := h
      exact ⟨_, _, _, _, _, _, _, _, _, _, _, _, hB.mono (by omega), rfl⟩
    rintro a env' va ha ⟨bs1, nn1, u2', s7, s8, s9, s10, s11, hB1, rfl⟩
    -- args, later
    refine ex_seq (N := fun e => ∃ p xs u t bs', xs.length = N ∧ t < 2 ∧ BoxD (n + 30 * i + 6 * a + 1) bs' ∧ e = [Sl.own b bs', Sl.val v1 (.lst rs), Sl.val u2' (.bl nn1), Sl.val w3 w', Sl.val w4 (.lst gd), Sl.val w5 (.lst (nms.map D.str)), Sl.val w6 (.lst (oss.map D.lst)), Sl.val va (.int (a : Nat)), Sl.own p (List.zipWith D.idn xs gd), Sl.val u (.int (t : Nat)), s10, s11])
      (ex_parL2 (ev_var rfl) (xe_callB rfl hB1 (by omega) (ea_cons ev_int ea_nil) (take_ok (m := 2) (by decide) (by decide))) fun p xs u d e hx hp => ?_) fun env' h => ?_
    · obtain ⟨⟨t, ht, rfl⟩, bs', hB', rfl⟩ := hp
      exact ⟨p, xs, u, t, bs', by rw [hx, hg], ht, hB', rfl⟩
    obtain ⟨p, xs, ul, t, bs2, hxl, ht2, hB2, rfl⟩ := h
    refine ex_forNS (fun i2 e => ∃ bs' ds s10, BoxD (n + 30 * i + 6 * a + 1 + i2) bs' ∧ ArgsI gd N oss a i2 ds ∧ e = [Sl.own b bs', Sl.val v1 (.lst rs), Sl.val u2' (.bl nn1), Sl.val w3 w', Sl.val w4 (.lst gd), Sl.val w5 (.lst (nms.map D.str)), Sl.val w6 (.lst (oss.map D.lst)), Sl.val va (.int (a : Nat)), Sl.own p ds, Sl.val ul (.int (t : Nat)), s10, s11])
      (ei_rng2 (m := (a : Nat)) (n := ((nms.map D.str).length : Nat)) (ea_cons (ev_var rfl) (ea_cons (ev_cb (ea_cons (ev_var rfl) ea_nil) cb_lenL) ea_nil)) (by rw [List.length_map]; omega)) ⟨_, _, _, hB2, args0 hxl hg ha, rfl⟩ ?_ fun env' h => ?_
    · rintro i2 env' vk dk hdk ⟨bs3, ds, s10', hB3, hA, rfl⟩
      have hlt : i2 < N - a := by
        have := (List.getElem?_eq_some_iff.mp hdk).1
        rw [rgD_length, List.length_map, hnl] at this
        omega
      obtain rfl : dk = .int ((a + i2 : Nat) : Int) := by
        rw [rgD_get (by rw [List.length_map, hnl]; omega)] at hdk
        rw [← Option.some.inj hdk]
        congr 1
      refine ex_if (et_or (et_test (ev_op (ev_var rfl) (ev_var rfl) op_eqI)) fun _ => et_test (ev_op (ev_var rfl) ev_int op_eqI)) (fun _ => ?_) fun hf => ?_
      · obtain ⟨os, hosk⟩ : ∃ os, oss[a + i2]? = some os := ⟨oss[a + i2]'(by omega), List.getElem?_eq_getElem (by omega)⟩
        obtain ⟨ho1, ho2, hoW⟩ := hos os (List.mem_of_getElem? hosk)
        refine ex_setOwnX (P1 := fun v d e => d ∈ os ∧ ∃ bs', BoxD (n + 30 * i + 6 * a + 1 + i2 + 1) bs' ∧ e = [Sl.own b bs', Sl.val v1 (.lst rs), Sl.val u2' (.bl nn1), Sl.val w3 w', Sl.val w4 (.lst gd), Sl.val w5 (.lst (nms.map D.str)), Sl.val w6 (.lst (oss.map D.lst)), Sl.val va (.int (a : Nat)), Sl.own p ds, Sl.val ul (.int (t : Nat)), Sl.val vk (.int ((a + i2 : Nat) : Int)), s11]) ?_ fun v d e hp => ?_
        · refine xe_call (P1 := fun vs xs e => ∃ x, xs = [x] ∧ x ∈ os ∧ ∃ bs', BoxD (n + 30 * i + 6 * a + 1 + i2 + 1) bs' ∧ e = [Sl.own b bs', Sl.val v1 (.lst rs), Sl.val u2' (.bl nn1), Sl.val w3 w', Sl.val w4 (.lst gd), Sl.val w5 (.lst (nms.map D.str)), Sl.val w6 (.lst (oss.map D.lst)), Sl.val va (.int (a : Nat)), Sl.own p ds, Sl.val ul (.int (t : Nat)), Sl.val vk (.int ((a + i2 : Nat) : Int)), s11]) ?_ fun vs xs e hp => ?_
          · refine xa_cons (P2 := fun _ _ vs ds9 e => vs = [] ∧ ds9 = [] ∧ ∃ bs', BoxD (n + 30 * i + 6 * a + 1 + i2 + 1) bs' ∧ e = [Sl.own b bs', Sl.val v1 (.lst rs), Sl.val u2' (.bl nn1), Sl.val w3 w', Sl.val w4 (.lst gd), Sl.val w5 (.lst (nms.map D.str)), Sl.val w6 (.lst (oss.map D.lst)), Sl.val va (.int (a : Nat)), Sl.own p ds, Sl.val ul (.int (t : Nat)), Sl.val vk (.int ((a + i2 : Nat) : Int)), s11])
              (P1 := fun v d e => d ∈ os ∧ ∃ bs', BoxD (n + 30 * i + 6 * a + 1 + i2 + 1) bs' ∧ e = [Sl.own b bs', Sl.val v1 (.lst rs), Sl.val u2' (.bl nn1), Sl.val w3 w', Sl.val w4 (.lst gd), Sl.val w5 (.lst (nms.map D.str)), Sl.val w6 (.lst (oss.map D.lst)), Sl.val va (.int (a : Nat)), Sl.own p ds, Sl.val ul (.int (t : Nat)), Sl.val vk (.int ((a + i2 : Nat) : Int)), s11]) ?_ (fun v d e hp => ?_) fun v d e vs xs e2 h1 h2 => ?_
            · have evW : EV K ⟨G, H, some b⟩ (tOp (rIx K) (tVar 6) (tVar 10)) [Sl.own b bs3, Sl.val v1 (.lst rs), Sl.val u2' (.bl nn1), Sl.val w3 w', Sl.val w4 (.lst gd), Sl.val w5 (.lst (nms.map D.str)), Sl.val w6 (.lst (oss.map D.lst)), Sl.val va (.int (a : Nat)), Sl.own p ds, Sl.val ul (.int (t : Nat)), Sl.val vk (.int ((a + i2 : Nat) : Int)), s11] (.lst os) :=
                ev_op (ev_var rfl) (ev_var rfl) (op_ix (.inr rfl) (atI_natD (by rw [List.getElem?_map, hosk]; rfl)))
              refine xe_op (P2 := fun _ v d e => ∃ t2 : Nat, t2 < os.length ∧ d = .int t2 ∧ ∃ bs', BoxD (n + 30 * i + 6 * a + 1 + i2 + 1) bs' ∧ e = [Sl.own b bs', Sl.val v1 (.lst rs), Sl.val u2' (.bl nn1), Sl.val w3 w', Sl.val w4 (.lst gd), Sl.val w5 (.lst (nms.map D.str)), Sl.val w6 (.lst (oss.map D.lst)), Sl.val va (.int (a : Nat)), Sl.own p ds, Sl.val ul (.int (t : Nat)), Sl.val vk (.int ((a + i2 : Nat) : Int)), s11]) evW.xe (fun v d e h => ?_) fun v d e v' d' e' h1 h2 => ?_
              · obtain ⟨rfl, rfl⟩ := h
                refine (xe_callB rfl hB3 (by omega) (ea_cons (ev_cb (ea_cons evW ea_nil) cb_lenL) ea_nil) (take_ok (m := os.length) ho1 (by omega))).imp fun v d e h => ?_
                obtain ⟨⟨t2, h1, rfl⟩, bs', hB', rfl⟩ := h
                exact ⟨t2, h1, rfl, bs', hB', rfl⟩
              · obtain ⟨rfl, _⟩ := h1
                obtain ⟨t2, ht, rfl, bs', hB', rfl⟩ := h2
                exact ⟨os[t2], op_ix (.inr rfl) (atI_natD (List.getElem?_eq_getElem ht)), fun v => ⟨List.getElem_mem _, bs', hB', rfl⟩⟩
            · obtain ⟨_, bs', hB', rfl⟩ := hp
              exact fun σ G H g Q q => q [] [] _ G H g (.refl g.gh) rfl .nil ⟨rfl, rfl, bs', hB', rfl⟩
            · obtain ⟨hd, _⟩ := h1
              obtain ⟨rfl, rfl, bs', hB', rfl⟩ := h2
              exact ⟨d, rfl, hd, bs', hB', rfl⟩
          · obtain ⟨x, rfl, hx, bs', hB', rfl⟩ := hp
            exact ⟨x, ⟨(hoW x hx).ty, (hoW x hx).top.symm⟩, fun v => ⟨hx, bs', hB', rfl⟩⟩
        · obtain ⟨hd, bs', hB', rfl⟩ := hp
          exact ⟨p, ds, ((a + i2 : Nat) : Int), a + i2, rfl, ev_var rfl, by rw [hA.1]; exact ixN_nat (by omega), bs', _, _, hB'.mono (by omega), args_set hA (by omega) hosk hd, rfl⟩
      · have hne : ¬ (((a + i2 : Nat) : Int) = (a : Int)) := fun z => by rw [decide_eq_true z] at hf; cases hf
        exact ex_next ⟨bs3, ds, _, hB3.mono (by omega), args_keep hA (by omega), rfl⟩
    obtain ⟨bs3, ds, s10', hB3, hA, rfl⟩ := h
    rw [rgD_length, List.length_map, hnl] at hB3 hA
    obtain ⟨u, x, os, hux, hosa, hxo⟩ := hA.2.2.2 (by omega)
    obtain ⟨vs, as, hvl, hasl, hds, hget⟩ := idns ds fun k hk => by
      obtain ⟨v, x, h, _⟩ := hA.2.2.1 k (by rw [← hA.1]; exact hk)
      exact ⟨v, x, h⟩
    obtain ⟨cl, nm, hnm, hED, hEN⟩ := hask a vs as ha (by rw [hvl, hA.1]) (by rw [hasl, hA.1]) (fun k hk => by
      obtain ⟨v, y, h1, h2⟩ := hA.2.1 k hk
      rw [(hget k v y h1).2, h2]) (fun k hk => by
      obtain ⟨v, y, h1, h2⟩ := hA.2.2.1 k hk
      rw [(hget k v y h1).2]
      rcases h2 with h2 | ⟨os', h2, h3⟩
      · exact .inl h2.symm
      · exact .inr ⟨os', y, h2, h3, rfl⟩) u x os (hget a u x hux).1 (hget a u x hux).2 hosa hxo
    refine ex_commit' (i := 8) rfl (fun σ G' H' g z => ?_) ?_
    · have hbp : b = p := Option.some.inj z
      have nd : (b :: p :: ([s10', s11].filterMap ownA)).Nodup := g.nd
      exact (List.nodup_cons.mp nd).1 (by rw [hbp]; exact List.mem_cons_self)
    refine ex_letR (F := fun _ d => d = .lst [.str nm, .idn u x]) (er_call (ea_cons (ev_var rfl) (ea_cons (ev_var rfl) (ea_cons (ev_var rfl) ea_nil))) (fun _ => ⟨w', ds, nn1, rfl, rfl, rfl, .inr ⟨vs, as, cl, nm, u, x, hds, hED, hEN, List.mem_of_getElem? hux, rfl⟩⟩) fun _ _ _ _ h => h) fun _ vt _ hd => ?_
    subst hd
    refine ex_when (b := false) (et_is (et_or (et_test (ev_op (ev_op (ev_var rfl) ev_int (op_ix (.inr rfl) (atI_natD (j := 0) rfl))) (ev_op (ev_var rfl) (ev_var rfl) (op_ix (.inr rfl) (atI_natD (by rw [List.getElem?_map, hnm]; rfl)))) op_neStr)) fun _ => et_not (et_B (ev_callR (d := .bl true) (vs := [u, u]) (ds := [.idn u x, .idn u x]) (eav_cons (evv_as (evv_idn (ev_op (ev_var rfl) ev_int (op_ix (.inr rfl) (atI_natD (j := 1) rfl))))) (eav_cons (evv_as (evv_idn (ev_op (ev_var rfl) (ev_var rfl) (op_ix (.inr rfl) (atI_natD hux))))) eav_nil)) fun σ G' H' g dl Q q => ?_))) (by simp)) (fun h => nomatch h) fun _ => ?_
    · cases dl with
      | cons dx _ =>
      exact ⟨G', u, x, rfl, g.gh, dx.strip, ((hos os (List.mem_of_getElem? hosa)).2.2 x hxo).ok, fun H2 e2 => q _ G' H2 ⟨.refl _, e2, g.gh.trans e2, fun _ h _ => h⟩ (.bl true)⟩
    exact ex_asg (ev_not (ev_var rfl)) fun v => ⟨_, _, _, _, _, _, _, _, hB3.mono (by omega), rfl⟩

end
end Kx


set_option Elab.async false
set_option linter.all false
set_option maxRecDepth 100000
set_option maxHeartbeats 2000000
namespace Kx
open PySem PySem.Spec PyProof.Rows L2 DL
section
variable {P : Program} {w : World} {K : PySem.W.Frag} {mg : Str → Option Value} {base : Heap}
def R_law_is_int : List D → D → Prop
  | [x], d => tyD x ≠ none ∧ d = .bl (isIntD x)
  | _, _ => False
theorem ok_law_is_int (T : Tx K mg) : FnOk P w K mg base CX0 1 T.f_law_is_int T.d_law_is_int p_law_is_int (spD K R_law_is_int) := by
  refine T.F_law_is_int.ok sc_law_is_int (fun vs H Q E h => ?_) (fun cdv A outer s H vs Q E hr h => ?_)
  · obtain ⟨G, ds, d, e, hd, hR, q⟩ := h
    rw [hd.length]
    match ds, hR with
    | [_], _ => rfl
  · refine ⟨_, (pss_one (ps_ret (pe_and (pe_callB (call_isiK K) (by rfl) T.m_isinstance (by decide +kernel) (pa_cons (pv 0) (pa_cons (pe_bltn (v := .ty "int") (by rfl) T.m_int (by decide +kernel) rfl) pa_nil))) (pe_one (pe_not (pe_callB (call_isiK K) (by rfl) T.m_isinstance (by decide +kernel) (pa_cons (pv 0) (pa_cons (pe_bltn (v := .ty "bool") (by rfl) T.m_bool (by decide +kernel) rfl) pa_nil)))))))), ?_⟩
    obtain ⟨G, ds, d, e, hd, hR, q⟩ := h
    have hl : ∃ x0, ds = [x0] := by
      match ds, hR with
      | [x0], _ => exact ⟨x0, rfl⟩
    obtain ⟨x0, rfl⟩ := hl
    cases hd with
    | @cons v0 vs0 _ _ dv0 hd =>
    cases hd
    refine EX.fin (W := fun _ _ _ _ => False) (good_start e ((.cons dv0 .nil)) n_law_is_int) q ?_
    show EX K ⟨G, H, none⟩ _ _ [Sl.val v0 x0] _
    obtain ⟨h1, rfl⟩ := hR
    obtain ⟨t, ht⟩ := Option.ne_none_iff_exists'.mp h1
    obtain ⟨b, c, hb, hc, hbc⟩ := ty_int ht
    refine ex_ret (ev_is (ev_and (ev_cb (ea_cons (ev_var rfl) (ea_cons ev_c ea_nil)) (cb_isi ht hb)) fun _ => ev_not (ev_cb (ea_cons (ev_var rfl) (ea_cons ev_c ea_nil)) (cb_isi ht hc))) (by rw [hbc])) fun v => rfl

theorem sm_tupN {k : Nat} {ms : List Nat} (h : ms.length < 10000) : Sm (k + 1) (tupN ms) (tupN ms) := Sm_items (.inr rfl) (by rw [List.length_map]; exact h) fun y hy => by
  obtain ⟨i, _, rfl⟩ := List.mem_map.mp hy
  exact Sm_atom rfl k
theorem lens_endN {n : Nat} {f : Nat → Nat → Nat} {ms : List Nat} (hT : TabOk n f) (h : ∀ x ∈ ms, x < n) : MP.LE n f (gensN n ms) (MP.lensL n f (gensN n ms)) :=
  MP.lens_end hT.cl (gens_lt h) fltN_nd
theorem LE_len {n : Nat} {f : Nat → Nat → Nat} {gs : List Nat} {L : List (Nat × Nat)} (h : MP.LE n f gs L) : L.length ≤ n := by
  have := MP.nodup_le (MP.lvKeys L) (List.range n) h.nd fun x hx => by
    obtain ⟨p, hp, rfl⟩ := List.mem_map.mp hx
    exact List.mem_range.mpr (h.lt p hp)
  unfold MP.lvKeys at this
  rw [List.length_map, List.length_range] at this
  exact this
theorem cb_sortLen {n : Nat} {f : Nat → Nat → Nat} {ms : List Nat} (hT : TabOk n f) (h : ∀ x ∈ ms, x < n) : CbD K rSortDI [.dct (kdsL (MP.lensL n f (gensN n ms)))] (.lst (lstN (lotN n f (gensN n ms)))) := by
  have hL := lens_endN hT h
  have hp : (lotN n f (gensN n ms)).Perm ((MP.lensL n f (gensN n ms)).map (·.1)) := (List.perm_ext_iff_of_nodup fltN_nd hL.nd).mpr fun x => (lot_reach hT h x).trans (hL.ks x).symm
  have h := cb_sortDI (K := K) (kdsL_keys (MP.lensL n f (gensN n ms))) (L := (lotN n f (gensN n ms)).map fun x => ((x : Nat) : Int)) (by have := LE_len hL; have := hT.n10; rw [List.length_map, List.length_map]; omega) (hp.map _) (fltN_ipw.imp fun h => Int.le_of_lt h)
  rw [List.map_map] at h
  exact h
theorem evW_pre {n : Nat} {f : Nat → Nat → Nat} (hc : ∀ a b, a < n → b < n → f a b < n) {wl : List Nat} (hw : ∀ y ∈ wl, y < n) : ∀ k, k < wl.length → MP.evW f (wl.take (k + 1)) < n ∧ ∀ j, j < wl.length → j = k + 1 → MP.evW f (wl.take (j + 1)) = f (MP.evW f (wl.take (k + 1))) (wl.getD j 0)
  | 0, hk => by
    refine ⟨?_, fun j hj e => ?_⟩
    · rw [getD_take hk, List.take_zero]
      exact hw _ (getD_mem hk)
    · subst e
      rw [getD_take hj, MP.evW_snoc (by rw [getD_take hk]; simp)]
  | k + 1, hk => by
    obtain ⟨h1, h2⟩ := evW_pre hc hw k (by omega)
    refine ⟨?_, fun j hj e => ?_⟩
    · rw [h2 (k + 1) hk rfl]
      exact hc _ _ h1 (hw _ (getD_mem hk))
    · subst e
      rw [getD_take hj, MP.evW_snoc (by rw [getD_take hk]; simp)]
/-- a member of the lot: its word -/
theorem lot_word {n : Nat} {f : Nat → Nat → Nat} {ms : List Nat} (hT : TabOk n f) (h : ∀ x ∈ ms, x < n) {x : Nat} (hx : x ∈ lotN n f (gensN n ms)) :
    wordAt (MP.wordsL n f (gensN n ms)) x ≠ [] ∧ (∀ y ∈ wordAt (MP.wordsL n f (gensN n ms)) x, y ∈ ms) ∧ MP.evW f (wordAt (MP.wordsL n f (gensN n ms)) x) = x ∧ (wordAt (MP.wordsL n f (gensN n ms)) x).length ≤ n ∧
    valD (kdsL (MP.lensL n f (gensN n ms))) (.inl ((x : Nat) : Int)) = some (.int ((wordAt (MP.wordsL n f (gensN n ms)) x).length : Nat)) := by
  have hW := gens_end hT h
  have hL := lens_endN hT h
  have hm := wordAt_mem ((lotN_mem hW x).mp hx)
  obtain ⟨h1, h2, h3⟩ := hW.ba.wd _ hm
  obtain ⟨q, hq, e⟩ := List.mem_map.mp ((hL.ks x).mpr ((lot_reach hT h x).mp hx))
  have hl := MP.word_len hW hL hm hq e.symm
  have hv := kdsL_get hL.nd hq
  have e : q.1 = x := e
  rw [e] at hv
  refine ⟨h1, fun y hy => (gensN_mem h y).mp (h2 y hy), h3, ?_, by rw [hv, ← hl]⟩
  have := MP.len_le_level hL hq
  have hl : (wordAt (MP.wordsL n f (gensN n ms)) x).length = q.2 := hl
  rw [hl]
  exact this
theorem lot_len {n : Nat} {f : Nat → Nat → Nat} {gs : List Nat} : (lotN n f gs).length ≤ n := fltN_le
theorem plain_tupN (l : List Nat) : plainD (tupN l) = true := plainDs_of fun d hd => by
  obtain ⟨x, _, rfl⟩ := List.mem_map.mp hd
  rfl
theorem plain_lstN (l : List Nat) : plainDs (lstN l) = true := plainDs_of fun d hd => by
  obtain ⟨x, _, rfl⟩ := List.mem_map.mp hd
  rfl
theorem plain_pairs {n : Nat} {f : Nat → Nat → Nat} {gs : List Nat} (l : List Nat) : plainDs (l.map (pairW n f gs)) = true := plainDs_of fun d hd => by
  obtain ⟨x, _, rfl⟩ := List.mem_map.mp hd
  show (true && (plainD (tupN _) && true)) = true
  rw [plain_tupN]
  rfl
def R_law_list_right : List D → D → Prop
  | [t, m, nm], d => ∃ (n : Nat) (f : Nat → Nat → Nat) (ms : List Nat) (nn : Bool), SgOk n f ∧ t = tblD n f ∧ m = .lst (lstN ms) ∧ (∀ x ∈ ms, x < n) ∧ ms.length ≤ 100 ∧ nm = .bl nn ∧ d = .bl true
  | _, _ => False
theorem ok_law_list_right (T : Tx K mg) : FnOk P w K mg base CX0 12 T.f_law_list_right T.d_law_list_right p_law_list_right (spD K R_law_list_right) := by
  refine T.F_law_list_right.ok sc_law_list_right (fun vs H Q E h => ?_) (fun cdv A outer s H vs Q E hr h => ?_)
  · obtain ⟨G, ds, d, e, hd, hR, q⟩ := h
    rw [hd.length]
    match ds, hR with
    | [_, _, _], _ => rfl
  · refine ⟨_, (pss_cons (ps_par (i := 3) (j := 4) rfl sc_law_list_right.nd rfl rfl (by decide) rfl rfl (pa_cons (pe_call (ok_law_closing T) (hr.mono (by omega)) (by rfl) T.g_law_closing T.F_law_closing.kp T.b_law_closing .nil pass0 (pa_cons (pv 0) (pa_cons (pv 1) pa_nil))) (pa_cons (pe_call (ok_law_lengths T) (hr.mono (by omega)) (by rfl) T.g_law_lengths T.F_law_lengths.kp T.b_law_lengths .nil pass0 (pa_cons (pv 0) (pa_cons (pv 1) pa_nil))) pa_nil)) (by rfl))
      (pss_cons (ps_if (PW.pt (pw_or (pt_cmpR (op_neD hr.units) (pv 3) (pe_tupleOfK K (by rfl) T.m_tuple (pe_callB call_sortDI (by rfl) T.m_sorted (by decide +kernel) (pa_cons (pv 4) pa_nil))) (nomark _)) (pw_or (pt_not (pt_val (pe_call (ok_law_twice T) (hr.mono (by omega)) (by rfl) T.g_law_twice T.F_law_twice.kp T.b_law_twice .nil pass0 (pa_cons pe_str (pa_cons (pe_lst (pa_cons (pv 0) (pa_cons (pv 1) pa_nil))) (pa_cons (pv 3) (pa_cons (pv 2) pa_nil))))))) (pw_or1 (pt_not (pt_val (pe_call (ok_law_twice T) (hr.mono (by omega)) (by rfl) T.g_law_twice T.F_law_twice.kp T.b_law_twice .nil pass0 (pa_cons pe_str (pa_cons (pe_lst (pa_cons (pv 0) (pa_cons (pe_tupleOfK K (by rfl) T.m_tuple (pv 1)) pa_nil))) (pa_cons (pv 3) (pa_cons (pe_not (pv 2)) pa_nil))))))))))) (pss_one (ps_ret pe_bl)) pss_nil)
      (pss_cons (ps_set (i := 5) sc_law_list_right.nd rfl (.inl rfl) (pe_call (ok_law_asked T) (hr.mono (by omega)) (by rfl) T.g_law_asked T.F_law_asked.kp T.b_law_asked .nil pass0 (pa_cons pe_str (pa_cons (pe_lst (pa_cons (pv 0) (pa_cons (pv 1) pa_nil))) (pa_cons (pv 2) pa_nil)))))
      (pss_cons (ps_if (PW.pt (pw_or (pt_cmpR op_ne (pe_ix (ix_seqK K) (pv 5) pe_int (fun _ _ => rfl)) pe_str (nomark _)) (pw_or (pt_not (pt_val (pe_callB (call_isiK K) (by rfl) T.m_isinstance (by decide +kernel) (pa_cons (pe_ix (ix_seqK K) (pv 5) pe_int (fun _ _ => rfl)) (pa_cons (pe_bltn (v := .ty "list") (by rfl) T.m_list (by decide +kernel) rfl) pa_nil))))) (pw_or1 (pt_cmpR op_ne (pe_callB (call_lenK K) (by rfl) T.m_len (by decide +kernel) (pa_cons (pe_ix (ix_seqK K) (pv 5) pe_int (fun _ _ => rfl)) pa_nil)) (pe_callB (call_lenK K) (by rfl) T.m_len (by decide +kernel) (pa_cons (pv 3) pa_nil)) (nomark _)))))) (pss_one (ps_ret pe_bl)) pss_nil)
      (pss_cons (ps_for PassesOwn.never rfl (pi_zipM K (by rfl) T.m_zip (pa_cons (pv 3) (pa_cons (pe_ix (ix_seqK K) (pv 5) pe_int (fun _ _ => rfl)) pa_nil))) (pg_tupK K rfl (pgs_cons (pg_name (i := 6) sc_law_list_right.nd rfl (.inl rfl)) (pgs_cons (pg_name (i := 7) sc_law_list_right.nd rfl (.inl rfl)) pgs_nil)))
      (pss_cons (ps_if (PW.pt (pw_or (pt_not (pt_val (pe_callB (call_isiK K) (by rfl) T.m_isinstance (by decide +kernel) (pa_cons (pv 7) (pa_cons (pe_bltn (v := .ty "tuple") (by rfl) T.m_tuple (by decide +kernel) rfl) pa_nil))))) (pw_or (pt_cmpR op_ne (pe_callB (call_lenK K) (by rfl) T.m_len (by decide +kernel) (pa_cons (pv 7) pa_nil)) pe_int (nomark _)) (pw_or (pt_not (pt_val (pe_call (ok_law_same T 6) (hr.mono (by omega)) (by rfl) T.g_law_same T.F_law_same.kp T.b_law_same .nil pass0 (pa_cons (pe_ix (ix_seqK K) (pv 7) pe_int (fun _ _ => rfl)) (pa_cons (pv 6) pa_nil))))) (pw_or (pt_not (pt_val (pe_callB (call_isiK K) (by rfl) T.m_isinstance (by decide +kernel) (pa_cons (pe_ix (ix_seqK K) (pv 7) pe_int (fun _ _ => rfl)) (pa_cons (pe_bltn (v := .ty "tuple") (by rfl) T.m_tuple (by decide +kernel) rfl) pa_nil))))) (pw_or1 (pt_cmpR op_ne (pe_callB (call_lenK K) (by rfl) T.m_len (by decide +kernel) (pa_cons (pe_ix (ix_seqK K) (pv 7) pe_int (fun _ _ => rfl)) pa_nil)) (pe_dget (hu_of hr) (pv 4) (pv 6) (fun _ _ => rfl)) (nomark _)))))))) (pss_one (ps_ret pe_bl)) pss_nil)
      (pss_cons (ps_if (pt_cmpR (op_neD hr.units) (pe_lc (own := [("y", 9)]) rfl sc_law_list_right.nd (pi_tupK K (pe_ix (ix_seqK K) (pv 7) pe_int (fun _ _ => rfl))) (blkOk_by (by rfl)) (fun _ _ _ _ _ => pg_name (i := 9) sc_law_list_right.nd rfl (by first | exact .inl rfl | exact .inr rfl)) (fun _ _ _ _ _ => (pts_one (PW.pt (pw_or (pt_not (pt_val (pe_call (ok_law_is_int T) (hr.mono (by omega)) (by rfl) T.g_law_is_int T.F_law_is_int.kp T.b_law_is_int .nil pass0 (pa_cons (pv 9) pa_nil)))) (pw_or1 (pt_cmpR (op_notInK K) (pv 9) (pv 1) (by with_unfolding_all rfl))))))) (fun _ _ _ _ _ => (pv 9))) (pe_lst pa_nil) (nomark _)) (pss_one (ps_ret pe_bl)) pss_nil)
      (pss_cons (ps_set (i := 8) sc_law_list_right.nd rfl (.inl rfl) (pe_ix (ix_seqK K) (pe_ix (ix_seqK K) (pv 7) pe_int (fun _ _ => rfl)) pe_int (fun _ _ => rfl)))
      (pss_cons (ps_for PassesOwn.never rfl (pi_tupK K (pe_slice (sl_tupAK K) (pe_ix (ix_seqK K) (pv 7) pe_int (fun _ _ => rfl)) (po_some pe_int) po_none)) (pg_name (i := 9) sc_law_list_right.nd rfl (.inl rfl))
      (pss_one (ps_set (i := 8) sc_law_list_right.nd rfl (.inl rfl) (pe_ix (ix_seqK K) (pe_ix (ix_seqK K) (pv 0) (pv 8) (fun _ _ => rfl)) (pv 9) (fun _ _ => rfl)))))
      (pss_one (ps_if (pt_cmpR op_ne (pv 8) (pv 6) (nomark _)) (pss_one (ps_ret pe_bl)) pss_nil)))))))
      (pss_cons (ps_set (i := 10) sc_law_list_right.nd rfl (.inl rfl) (pe_callTy (call_list_ofK K) (by rfl) T.m_list (by decide +kernel) (pa_cons (pe_ix (ix_seqK K) (pv 5) pe_int (fun _ _ => rfl)) pa_nil)))
      (pss_cons (ps_expr (pe_bmK K PySem.F.plainAttrs_list PySem.F.slot_list_append PySem.F.type_list_append mt_append (pe_ix (ix_seqK K) (pv 5) pe_int (fun _ _ => rfl)) (pa_cons pe_non pa_nil)))
      (pss_one (ps_ret (pe_call (ok_law_same T 6) (hr.mono (by omega)) (by rfl) T.g_law_same T.F_law_same.kp T.b_law_same .nil pass0 (pa_cons (pe_lst (pa_cons (pe_call (ok_law_asked T) (hr.mono (by omega)) (by rfl) T.g_law_asked T.F_law_asked.kp T.b_law_asked .nil pass0 (pa_cons pe_str (pa_cons (pe_lst (pa_cons (pv 0) (pa_cons (pv 1) pa_nil))) (pa_cons (pe_not (pv 2)) pa_nil)))) (pa_cons (pe_call (ok_law_asked T) (hr.mono (by omega)) (by rfl) T.g_law_asked T.F_law_asked.kp T.b_law_asked .nil pass0 (pa_cons pe_str (pa_cons (pe_lst (pa_cons (pv 0) (pa_cons (pe_tupleOfK K (by rfl) T.m_tuple (pv 1)) pa_nil))) (pa_cons (pv 2) pa_nil)))) pa_nil))) (pa_cons (pe_op op_rep (pe_lst (pa_cons (pe_lst (pa_cons pe_str (pa_cons (pv 10) pa_nil))) pa_nil)) pe_int) pa_nil)))))))))))), ?_⟩
    obtain ⟨G, ds, d, e, hd, hR, q⟩ := h
    have hl : ∃ x0 x1 x2, ds = [x0, x1, x2] := by
      match ds, hR with
      | [x0, x1, x2], _ => exact ⟨x0, x1, x2, rfl⟩
    obtain ⟨x0, x1, x2, rfl⟩ := hl
    cases hd with
    | @cons v0 vs0 _ _ dv0 hd =>
    cases hd with
    | @cons v1 vs1 _ _ dv1 hd =>
    cases hd with
    | @cons v2 vs2 _ _ dv2 hd =>
    cases hd
    refine EX.fin (W := fun _ _ _ _ => False) (good_start e ((.cons dv0 (.cons dv1 (.cons dv2 .nil)))) n_law_list_right) q ?_
    show EX K ⟨G, H, none⟩ _ _ [Sl.val v0 x0, Sl.val v1 x1, Sl.val v2 x2, Sl.un, Sl.un, Sl.un, Sl.un, Sl.un, Sl.un, Sl.un, Sl.un] _
    obtain ⟨n, f, ms, nn, hS, rfl, rfl, hlt, hml, rfl, rfl⟩ := hR
    have hT := hS.1
    have h10 := hT.n10
    have hM : MemD n ms (.lst (lstN ms)) := ⟨.inr rfl, hlt, hml⟩
    have hM2 : MemD n ms (tupN ms) := ⟨.inl rfl, hlt, hml⟩
    have hW := gens_end hT hlt
    have hlw := fun x hx => lot_word hT hlt (x := x) hx
    have hll := lot_len (n := n) (f := f) (gs := gensN n ms)
    have hln : ∀ x ∈ lotN n f (gensN n ms), x < n := fun x hx => List.mem_range.mp (List.mem_filter.mp hx).1
    refine ex_parS (ea_cons (ev_call (ea_cons (ev_var rfl) (ea_cons (ev_var rfl) ea_nil)) ⟨n, f, ms, hS, rfl, hM, rfl⟩) (ea_cons (ev_call (ea_cons (ev_var rfl) (ea_cons (ev_var rfl) ea_nil)) ⟨n, f, ms, hT, rfl, hM, rfl⟩) ea_nil)) fun v3 v4 => ?_
    show EX K ⟨G, H, none⟩ _ _ [Sl.val v0 (tblD n f), Sl.val v1 (.lst (lstN ms)), Sl.val v2 (.bl nn), Sl.val v3 (tupN (lotN n f (gensN n ms))), Sl.val v4 (.dct (kdsL (MP.lensL n f (gensN n ms)))), Sl.un, Sl.un, Sl.un, Sl.un, Sl.un, Sl.un] _
    refine ex_when (b := false) (et_is (et_or (et_test (ev_op (ev_var rfl) (ev_then (ev_cb (ea_cons (ev_var rfl) ea_nil) (cb_sortLen hT hlt)) un_tupN) op_neTT)) fun _ =>
      et_or (et_not (et_B (ev_call (ea_cons ev_str (ea_cons (ev_lst (ea_cons (ev_var rfl) (ea_cons (ev_var rfl) ea_nil)) (sz 2)) (ea_cons (ev_var rfl) (ea_cons (ev_var rfl) ea_nil)))) ⟨_, _, nn, tupN (lotN n f (gensN n ms)), rfl, rfl, rfl, .inl ⟨rfl, n, f, ms, hS, rfl, hM, rfl⟩, sm_tupN (by omega), ls_tup, rfl⟩))) fun _ =>
      et_not (et_B (ev_call (ea_cons ev_str (ea_cons (ev_lst (ea_cons (ev_var rfl) (ea_cons (ev_then (ev_var rfl) un_tupN) ea_nil)) (sz 2)) (ea_cons (ev_var rfl) (ea_cons (ev_not (ev_var rfl)) ea_nil)))) ⟨_, _, !nn, tupN (lotN n f (gensN n ms)), rfl, rfl, rfl, .inl ⟨rfl, n, f, ms, hS, rfl, hM2, rfl⟩, sm_tupN (by omega), ls_tup, rfl⟩))) (by simp)) (fun h => nomatch h) fun _ => ?_
    generalize hlot : lotN n f (gensN n ms) = lot at *
    have ask : ∀ {env : Env'} {m : D} {tm tn : TE} {b : Bool}, MemD n ms m → EV K ⟨G, H, none⟩ (tVar 0) env (tblD n f) → EV K ⟨G, H, none⟩ tm env m → EV K ⟨G, H, none⟩ tn env (.bl b) →
        EVR K ⟨G, H, none⟩ (tCall (spR K (R_law_asked T)) [] E0 (tCons (tC (.str "words")) (tCons (tLst (tCons (tVar 0) (tCons tm tNil))) (tCons tn tNil)))) env (fun H d => ∃ u, d = .lst [.str "result", .idn u (.lst (lot.map (pairW n f (gensN n ms))))] ∧ Fr H u (.lst (lot.map (pairW n f (gensN n ms))))) := fun {env m tm tn b} hm h0 h1 h2 =>
      er_call (ea_cons ev_str (ea_cons (ev_lst (ea_cons h0 (ea_cons h1 ea_nil)) (sz 2)) (ea_cons h2 ea_nil))) (fun H => ⟨_, _, b, rfl, rfl, rfl, .inl ⟨_, .inr ⟨rfl, n, f, ms, hS, rfl, hm, by rw [← hlot]⟩, fun u hu => ⟨u, rfl, hu⟩⟩⟩) fun H H' d e ⟨u, h1, h2⟩ => ⟨u, h1, h2.back e⟩
    refine ex_told (s := "result") (rds := lot.map (pairW n f (gensN n ms))) (i := 5) (j := 1) (m := 10) (l := 4) (w := v1) (es := lstN ms) (N := fun vt p e => e = [Sl.val v0 (tblD n f), Sl.val v1 (.lst (lstN ms)), Sl.val v2 (.bl nn), Sl.val v3 (tupN lot), Sl.val v4 (.dct (kdsL (MP.lensL n f (gensN n ms)))), Sl.val vt (.lst [.str "result", .idn (.ref p) (.lst (lot.map (pairW n f (gensN n ms))))]), Sl.un, Sl.un, Sl.un, Sl.un, Sl.un])
      (fun a h => e.back h) (ask hM (ev_var rfl) (ev_var rfl) (ev_var rfl)) (fun H d h => h) rfl (fun vt p => ?_) (by decide) (by rw [List.length_map, sizeLine_eq]; omega) (fun vt p e hN => ?_) fun vt p e vk hN => ?_
    · have told1 : ∀ {s6 s7 s8 s9 s10 : Sl}, EV K ⟨G, H, none⟩ (tTold K 5) [Sl.val v0 (tblD n f), Sl.val v1 (.lst (lstN ms)), Sl.val v2 (.bl nn), Sl.val v3 (tupN lot), Sl.val v4 (.dct (kdsL (MP.lensL n f (gensN n ms)))), Sl.val vt (.lst [.str "result", .idn (.ref p) (.lst (lot.map (pairW n f (gensN n ms))))]), s6, s7, s8, s9, s10] (.lst (lot.map (pairW n f (gensN n ms)))) := ev_up (ev_told rfl) fun G v hd => hd.strip
      refine ex_when (b := false) (et_is (et_or (et_test (ev_op (ev_op (ev_var rfl) ev_int (op_ix (.inr rfl) (atI_natD (j := 0) rfl))) ev_str op_neStr)) fun _ => et_or (et_not (et_B (ev_cb (ea_cons told1 (ea_cons ev_c ea_nil)) (cb_isi (t := "list") (b := true) rfl rfl)))) fun _ => et_test (ev_op (ev_cb (ea_cons told1 ea_nil) cb_lenL) (ev_cb (ea_cons (ev_var rfl) ea_nil) cb_lenT) op_neI)) (by simp)) (fun h => nomatch h) fun _ => ?_
      refine ex_forZ (ds := lstN lot) (es := lot.map (pairW n f (gensN n ms))) (fun _ e => e = [Sl.val v0 (tblD n f), Sl.val v1 (.lst (lstN ms)), Sl.val v2 (.bl nn), Sl.val v3 (tupN lot), Sl.val v4 (.dct (kdsL (MP.lensL n f (gensN n ms)))), Sl.val vt (.lst [.str "result", .idn (.ref p) (.lst (lot.map (pairW n f (gensN n ms))))]), Sl.un, Sl.un, Sl.un, Sl.un, Sl.un]) (ea_cons (ev_var rfl) (ea_cons told1 ea_nil)) (by rw [lstN_len, List.length_map]) rfl ?_ (fun e h => h)
      rintro k env' v d w' e hd he rfl
      obtain ⟨hkl, rfl⟩ := lstN_gd hd
      have hxm := getD_mem hkl
      have he' : e = pairW n f (gensN n ms) (lot.getD k 0) := by
        rw [List.getElem?_map, List.getElem?_eq_getElem hkl] at he
        rw [List.getD_eq_getElem?_getD, List.getElem?_eq_getElem hkl]
        exact (Option.some.inj he).symm
      generalize lot.getD k 0 = x at hxm he'
      subst he'
      obtain ⟨w1, w2, w3, w4, w5⟩ := hlw x hxm
      have hxn := hln x hxm
      unfold pairW
      generalize wordAt (MP.wordsL n f (gensN n ms)) x = wl at w1 w2 w3 w4 w5
      have hwn : ∀ y ∈ wl, y < n := fun y hy => hlt y (w2 y hy)
      have hwp : 0 < wl.length := List.length_pos_iff.mpr w1
      generalize hE : (fun (s8 s9 : Sl) => [Sl.val v0 (tblD n f), Sl.val v1 (.lst (lstN ms)), Sl.val v2 (.bl nn), Sl.val v3 (tupN lot), Sl.val v4 (.dct (kdsL (MP.lensL n f (gensN n ms)))), Sl.val vt (.lst [.str "result", .idn (.ref p) (.lst (lot.map fun x => D.tup [.int ((x : Nat) : Int), tupN (wordAt (MP.wordsL n f (gensN n ms)) x)]))]), Sl.val v (.int (x : Nat)), Sl.val w' (.tup [.int (x : Nat), tupN wl]), s8, s9, Sl.un]) = Ev
      have it0 : ∀ {s8 s9 : Sl}, EV K ⟨G, H, none⟩ (tOp (rIx K) (tVar 7) (tC (.int 0))) (Ev s8 s9) (.int (x : Nat)) := by subst hE; exact ev_op (ev_var rfl) ev_int (op_ix (.inl rfl) (atI_natD (j := 0) rfl))
      have it1 : ∀ {s8 s9 : Sl}, EV K ⟨G, H, none⟩ (tOp (rIx K) (tVar 7) (tC (.int 1))) (Ev s8 s9) (tupN wl) := by subst hE; exact ev_op (ev_var rfl) ev_int (op_ix (.inl rfl) (atI_natD (j := 1) rfl))
      have vx : ∀ {s8 s9 : Sl}, EV K ⟨G, H, none⟩ (tVar 6) (Ev s8 s9) (.int (x : Nat)) := by subst hE; exact ev_var rfl
      have vi : ∀ {s8 s9 : Sl}, EV K ⟨G, H, none⟩ (tVar 7) (Ev s8 s9) (.tup [.int (x : Nat), tupN wl]) := by subst hE; exact ev_var rfl
      have vl : ∀ {s8 s9 : Sl}, EV K ⟨G, H, none⟩ (tVar 4) (Ev s8 s9) (.dct (kdsL (MP.lensL n f (gensN n ms)))) := by subst hE; exact ev_var rfl
      suffices h : EX K ⟨G, H, none⟩ _ _ (Ev .un .un) { nx := fun e => e = [Sl.val v0 (tblD n f), Sl.val v1 (.lst (lstN ms)), Sl.val v2 (.bl nn), Sl.val v3 (tupN lot), Sl.val v4 (.dct (kdsL (MP.lensL n f (gensN n ms)))), Sl.val vt (.lst [.str "result", .idn (.ref p) (.lst (lot.map fun x => D.tup [.int ((x : Nat) : Int), tupN (wordAt (MP.wordsL n f (gensN n ms)) x)]))]), Sl.un, Sl.un, Sl.un, Sl.un, Sl.un] } from by
        subst hE
        exact h.imp (fun _ h => h) (fun _ _ _ h => h.elim) (fun _ h => h.elim) (fun _ h => h.elim) fun _ _ _ _ h => h.elim
      refine ex_when (b := false) (et_is (et_or (et_not (et_B (ev_cb (ea_cons vi (ea_cons ev_c ea_nil)) (cb_isi (t := "tuple") (b := true) rfl rfl)))) fun _ => et_or (et_test (ev_op (ev_cb (ea_cons vi ea_nil) cb_lenT) (ev_int (i := 2)) op_neI)) fun _ => et_or (et_not (et_B (ev_callSm (ea_cons it0 (ea_cons vx ea_nil)) (Sm_atom rfl 5)))) fun _ => et_or (et_not (et_B (ev_cb (ea_cons it1 (ea_cons ev_c ea_nil)) (cb_isi (t := "tuple") (b := true) rfl rfl)))) fun _ => et_test (ev_op (ev_cb (ea_cons it1 ea_nil) cb_lenT) (ev_dgetD vl vx w5) op_neI)) (by simp)) (fun h => nomatch h) fun _ => ?_
      refine ex_when (b := false) (et_test (ev_is (ev_op (ev_is (ev_lcN (f := fun _ => false) (F := fun _ => .non) (ei_tup it1) (by rw [List.length_map, sizeLine_eq]; omega) (by decide) fun i v d hd => ⟨?_, fun h => nomatch h⟩) (congrArg D.lst (keep_none fun _ _ => rfl))) (ev_lst ea_nil (sz 0)) (op_neLN (l := []))) rfl)) (fun h => nomatch h) fun _ => ?_
      · obtain ⟨hil, rfl⟩ := lstN_gd (gs := wl) hd
        have hym := w2 _ (getD_mem hil)
        subst hE
        exact et_is (et_or (et_not (et_B (ev_call (ea_cons (ev_var rfl) ea_nil) ⟨(fun z => nomatch z), rfl⟩))) fun _ => et_test (ev_op (ev_var rfl) (ev_var rfl) op_notInN)) (by rw [decide_eq_true hym]; rfl)
      have hs8 : ∀ s8 s9 s, (Ev s8 s9).set 8 s = Ev s s9 := by subst hE; intros; rfl
      have gt : ∀ {k : Nat}, k < wl.length → (lstN wl)[k]? = some (.int (wl.getD k 0 : Nat)) := fun {k} hk => by
        unfold lstN
        rw [List.getElem?_map, List.getD_eq_getElem?_getD, List.getElem?_eq_getElem hk]
        rfl
      refine ex_let (d := .int (MP.evW f (wl.take 1) : Nat)) (ev_is (ev_op it1 ev_int (op_ix (.inl rfl) (atI_natD (j := 0) (gt hwp)))) (by rw [getD_take hwp, List.take_zero]; rfl)) fun v8 => ?_
      rw [hs8]
      refine ex_forNS (fun k e => ∃ u8 s9, e = Ev (.val u8 (.int (MP.evW f (wl.take (k + 1)) : Nat))) s9) (ei_tup (ev_slFr (k := 1) it1 (ev_int (i := 1)))) ⟨v8, .un, rfl⟩ ?_ ?_
      · rintro k env' vy d hd ⟨u8, s9, rfl⟩
        rw [List.getElem?_drop] at hd
        obtain ⟨hkl, rfl⟩ := lstN_gd (gs := wl) hd
        rw [Nat.add_comm 1 k] at hkl ⊢
        obtain ⟨h1, h2⟩ := evW_pre hT.cl hwn k (by omega)
        have hy := hwn _ (getD_mem hkl)
        have h2 := h2 (k + 1) hkl rfl
        subst hE
        refine ex_asg (ev_row (ev_tbl (ev_var rfl) (ev_var rfl) h1) (ev_var rfl) hy) fun u => ⟨u, .val vy (.int (wl.getD (k + 1) 0 : Nat)), ?_⟩
        rw [h2]
        rfl
      · rintro env' ⟨u8, s9, rfl⟩
        have hl : ((List.map (fun (i : Nat) => D.int ((i : Nat) : Int)) wl).drop 1).length + 1 = wl.length := by rw [List.length_drop, List.length_map]; omega
        rw [hl, List.take_length, w3]
        subst hE
        refine ex_if (b := false) (et_test (ev_is (ev_op (ev_var rfl) (ev_var rfl) op_neI) (by rw [decide_eq_true rfl]; rfl))) (fun h => nomatch h) fun _ => ?_
        exact ex_forget 6 (ex_forget 7 (ex_forget 8 (ex_forget 9 (ex_next rfl))))
    · subst hN
      refine ⟨rfl, fun am h1 h2 vk h3 ⟨q, h4⟩ s hs => ?_⟩
      subst h1
      change s ∈ [Sl.val v0 (tblD n f), Sl.val (.ref am) (.lst (lstN ms)), Sl.val v2 (.bl nn), Sl.val v3 (tupN lot), Sl.un, Sl.un, Sl.un, Sl.un, Sl.un, Sl.un, Sl.val vk (.lst (lot.map (pairW n f (gensN n ms))))] at hs
      simp only [List.mem_cons, List.not_mem_nil, or_false] at hs
      rcases hs with rfl | rfl | rfl | rfl | rfl | rfl | rfl | rfl | rfl | rfl | rfl
      · exact .inl plain_tbl
      · exact .inr ⟨am, _, rfl, rfl, h2, plain_lstN ms⟩
      · exact .inl rfl
      · exact .inl (plain_tupN _)
      · trivial
      · trivial
      · trivial
      · trivial
      · trivial
      · trivial
      · exact .inr ⟨q, _, h4, rfl, h3 q h4, plain_pairs _⟩
    · subst hN
      show EX K ⟨G, H, none⟩ _ _ [Sl.val v0 (tblD n f), Sl.val v1 (.lst (lstN ms)), Sl.val v2 (.bl nn), Sl.val v3 (tupN lot), Sl.un, Sl.un, Sl.un, Sl.un, Sl.un, Sl.un, Sl.val vk (.lst (lot.map (pairW n f (gensN n ms))))] _
      have hsR : Sm 4 (.lst [.str "result", .lst (lot.map (pairW n f (gensN n ms)))]) (.lst [.str "result", .lst (lot.map (pairW n f (gensN n ms)))]) := Sm_items (n := 3) (.inl rfl) (by show 2 < 10000; decide) fun y hy => by
        simp only [List.mem_cons, List.not_mem_nil, or_false] at hy
        rcases hy with rfl | rfl
        · exact Sm_atom rfl 3
        · refine Sm_items (n := 2) (.inl rfl) (by rw [List.length_map]; omega) fun y hy => ?_
          obtain ⟨x, hx, rfl⟩ := List.mem_map.mp hy
          refine Sm_items (n := 1) (.inr rfl) (by show 2 < 10000; decide) fun y hy => ?_
          simp only [List.mem_cons, List.not_mem_nil, or_false] at hy
          rcases hy with rfl | rfl
          · exact Sm_atom rfl 1
          · exact sm_tupN (k := 0) (by have := (hlw x hx).2.2.2.1; omega)
      refine ex_ret (ev_callSm (ea_cons (ev_lst (ea_cons (ev_ofR (ask hM (ev_var rfl) (ev_var rfl) (ev_not (ev_var rfl))) fun H d ⟨u, h, _⟩ => ⟨u, h⟩) (ea_cons (ev_ofR (ask hM2 (ev_var rfl) (ev_then (ev_var rfl) un_tupN) (ev_var rfl)) fun H d ⟨u, h, _⟩ => ⟨u, h⟩) ea_nil)) (sz 2)) (ea_cons (ev_op (ev_lst (ea_cons (ev_lst (ea_cons ev_str (ea_cons (ev_var rfl) ea_nil)) (sz 2)) ea_nil) (sz 1)) (ev_int (i := 2)) (op_repLD (by decide) (by decide) (by rw [sizeLine_eq]; show 1 * 2 ≤ 16777216; decide))) ea_nil)) ?_) fun v => rfl
      exact Sm_items (n := 4) (ds := [.lst [.str "result", .lst (lot.map (pairW n f (gensN n ms)))], .lst [.str "result", .lst (lot.map (pairW n f (gensN n ms)))]]) (.inl rfl) (by show 2 < 10000; decide) fun y hy => by
        simp only [List.mem_cons, List.not_mem_nil, or_false] at hy
        rcases hy with rfl | rfl <;> exact hsR

end
end Kx


set_option Elab.async false
set_option linter.all false
set_option maxRecDepth 100000
set_option maxHeartbeats 2000000
namespace Kx
open PySem PySem.Spec PyProof.Rows L2 DL
section
variable {P : Program} {w : World} {K : PySem.W.Frag} {mg : Str → Option Value} {base : Heap}
theorem hu64 {k : Nat} {A : Around} (hr : Room k A) : A.units + 64 < cLine := by have := hr.un; omega

variable {β : Bas} {env : Env'}
theorem ev_lenS {a : Addr} {ns : List Int} (hb : β.bx = none) (hS : SqL K β.H a (ns.map V.int)) (h : env[0]? = some (.val (.ref a) (.op (.ref a)))) : EV K β (tCB (DL.rLen K) (tCons (tVar 0) tNil)) env (.int ns.length) := fun σ G H g Q q =>
  ⟨.ref a, slot_val g h, .ref a, (ns.map V.int).length, rfl, .inl ⟨_, ex_l (fun b o e => g.hh b o (by rw [hb]; exact (fun z => nomatch z)) e) hS, rfl⟩, by rw [List.length_map]; exact q _ G H (.refl g.gh) (.int _)⟩
theorem ev_cell {a : Addr} {ns : List Int} {k : Nat} {vk : V} {E : XK} (hb : β.bx = none) (hS : SqL K β.H a (ns.map V.int)) (h : env[0]? = some (.val (.ref a) (.op (.ref a)))) (hk : env[1]? = some (.val vk (.int (k : Nat)))) :
    EV K β (tCall (spCellL K) [] E (tCons (tVar 0) (tCons (tVar 1) tNil))) env (.int (cellF ns k)) :=
  ev_callR (eav_cons (evv_var h) (eav_cons (evv_intV (ev_var hk)) eav_nil)) fun σ G H g dl Q q => ⟨a, ns, k, rfl, ex_l (fun b o e => g.hh b o (by rw [hb]; exact (fun z => nomatch z)) e) hS, fun H' e' => q _ G H' ⟨.refl _, e', g.gh.trans e', fun _ h _ => h⟩ (.int _)⟩
/-- a draw, the box in any slot -/
theorem xe_takeI {i n m : Nat} {b : Addr} {bs : List D} {tm : TE} {E : XK} (hi : env[i]? = some (.own b bs)) (hB : BoxD n bs) (hn : n < 1000000000) (hm : EV K β tm env (.int (m : Nat))) (h1 : 1 ≤ m) (h2 : m < 1073741824) :
    XE K β (tCall (spB K 1 R_law_take) [] E (tCons (tVar i) (tCons tm tNil))) env (fun _ d e => ∃ t : Nat, t < m ∧ d = .int (t : Nat) ∧ ∃ bs', BoxD (n + 1) bs' ∧ e = env.set i (.own b bs')) :=
  (xe_callB hi hB (by omega) (ea_cons hm ea_nil) (take_ok h1 h2)).imp fun v d e ⟨⟨t, ht, hd⟩, bs', hB', he⟩ => ⟨t, ht, hd, bs', hB', he⟩
theorem xe_cTakeI {i n m c : Nat} {b : Addr} {bs : List D} {tm : TE} {E : XK} (hi : env[i]? = some (.own b bs)) (hB : BoxD n bs) (hn : n < 1000000000) (hm : EV K β tm env (.int (m : Nat))) (h1 : 1 ≤ m) (h2 : m < 1073741824) :
    XE K β (tOp (rI0 fun i j => .int (i + j)) (tC (.int (c : Nat))) (tCall (spB K 1 R_law_take) [] E (tCons (tVar i) (tCons tm tNil)))) env (fun _ d e => ∃ t : Nat, t < m ∧ d = .int ((c + t : Nat) : Int) ∧ ∃ bs', BoxD (n + 1) bs' ∧ e = env.set i (.own b bs')) :=
  xe_op (P2 := fun _ v d e => ∃ t : Nat, t < m ∧ d = .int (t : Nat) ∧ ∃ bs', BoxD (n + 1) bs' ∧ e = env.set i (.own b bs')) (ev_int (i := (c : Nat))).xe (fun v1 d1 e1 h => by obtain ⟨_, rfl⟩ := h; exact xe_takeI hi hB hn hm h1 h2) fun v1 d1 e1 v2 d2 e2 p1 p2 => by
    obtain ⟨rfl, _⟩ := p1
    obtain ⟨t, ht, rfl, h⟩ := p2
    exact ⟨_, op_addI, fun v => ⟨t, ht, by rw [show ((c + t : Nat) : Int) = (c : Int) + (t : Int) by omega], h⟩⟩
theorem xe_take0I {i n m : Nat} {b : Addr} {bs : List D} {tm : TE} {E : XK} (hi : env[i]? = some (.own b bs)) (hB : BoxD n bs) (hn : n < 1000000000) (hm : EV K β tm env (.int (m : Nat))) (h1 : 1 ≤ m) (h2 : m < 1073741824) :
    XE K β (tOp rEq (tCall (spB K 1 R_law_take) [] E (tCons (tVar i) (tCons tm tNil))) (tC (.int 0))) env (fun _ d e => ∃ t : Bool, d = .bl t ∧ ∃ bs', BoxD (n + 1) bs' ∧ e = env.set i (.own b bs')) :=
  xe_op (P2 := fun _ _ d e => d = .int 0 ∧ ∃ bs', BoxD (n + 1) bs' ∧ e = env.set i (.own b bs')) (xe_takeI hi hB hn hm h1 h2) (fun v d e h => by
    obtain ⟨t, ht, rfl, bs', hB', rfl⟩ := h
    exact (ev_int (i := 0)).xe.imp fun v d e ⟨h1, h2⟩ => ⟨h1, bs', hB', h2⟩) fun v1 d1 e1 v2 d2 e2 p1 p2 => by
    obtain ⟨t, ht, rfl, _⟩ := p1
    obtain ⟨rfl, bs', hB', rfl⟩ := p2
    exact ⟨_, op_eqI, fun v => ⟨_, rfl, bs', hB', rfl⟩⟩
def spLaw (K : PySem.W.Frag) : Sp := fun vs H Q _ => ∃ (a : Addr) (ns : List Int), vs = [.ref a] ∧ ns.length ≤ 63 ∧ SqL K H a (ns.map V.int) ∧ ∀ H', Q (.bl true) H'

def mostsN : List Nat := [10, 6, 7, 8, 5, 4, 9, 3]
theorem mosts_ok {t : Nat} (h : t < 8) : ∃ x, mostsN[t]? = some x ∧ 1 ≤ x ∧ x ≤ 10 := by
  have hl : t < mostsN.length := h
  refine ⟨mostsN[t], List.getElem?_eq_getElem hl, ?_⟩
  have all : ∀ x ∈ mostsN, 1 ≤ x ∧ x ≤ 10 := by decide
  exact all _ (List.getElem_mem hl)
def IsS (d : D) : Prop := ∃ m f, SgOk m f ∧ d = tblD m f
def wrongD (m : Nat) (f : Nat → Nat → Nat) (k : Nat) : List D := noTabs m f ++ [tblD k nsF]
theorem wrong_ok {m k : Nat} {f : Nat → Nat → Nat} (hf : TabOk m f) (h2 : 2 ≤ k) (h6 : k ≤ 6) {x : D} (h : x ∈ wrongD m f k) : Wr x ∧ isSemi x = false := by
  rcases List.mem_append.mp h with h | h
  · obtain ⟨h1, h3⟩ := noTabs_wr hf h
    exact ⟨h1, isSemi_no h3⟩
  · rw [List.mem_singleton.mp h]
    exact ⟨tbl_wr (by omega), isSemi_ns h2 h6⟩
theorem wrongD_len (m : Nat) (f : Nat → Nat → Nat) (k : Nat) : (wrongD m f k).length = 29 := by
  unfold wrongD noTabs
  rw [List.length_append, List.length_append, List.length_append, List.length_map]
  rfl
/-- the items of a list, each a table of a semigroup, drawn one after another -/
theorem xa_sgE {K : PySem.W.Frag} {β : Bas} {te : TE} {tr : TA} {env : Env'} {Ef : List D → Env'} {n1 n2 k : Nat} (h : XE K β te env (fun _ d e => IsS d ∧ ∃ bs', BoxD n1 bs' ∧ e = Ef bs'))
    (hr : ∀ bs', BoxD n1 bs' → XA K β tr (Ef bs') (fun _ ds e => (∀ d ∈ ds, IsS d) ∧ ds.length = k ∧ ∃ bs', BoxD n2 bs' ∧ e = Ef bs')) : XA K β (tCons te tr) env (fun _ ds e => (∀ d ∈ ds, IsS d) ∧ ds.length = k + 1 ∧ ∃ bs', BoxD n2 bs' ∧ e = Ef bs') :=
  xa_cons h (fun v d e p => by
    obtain ⟨_, bs', hB, rfl⟩ := p
    exact hr bs' hB) fun v d e vs ds e2 p1 p2 => by
    obtain ⟨h1, h2, h3⟩ := p2
    refine ⟨fun x hx => ?_, by rw [List.length_cons]; omega, h3⟩
    rcases List.mem_cons.mp hx with rfl | hx
    · exact p1.1
    · exact h1 x hx
theorem xa_sgE0 {K : PySem.W.Frag} {β : Bas} {Ef : List D → Env'} {n2 : Nat} {bs : List D} {env : Env'} (hB : BoxD n2 bs) (he : env = Ef bs) : XA K β tNil env (fun _ ds e => (∀ d ∈ ds, IsS d) ∧ ds.length = 0 ∧ ∃ bs', BoxD n2 bs' ∧ e = Ef bs') :=
  xa_nilP ⟨(fun d hd => nomatch hd), rfl, bs, hB, he⟩
theorem two_of {α : Type} {l : List α} (h : l.length = 2) : ∃ a b, l = [a, b] := by
  match l, h with
  | [a, b], _ => exact ⟨a, b, rfl⟩
def rowW (m : Nat) (f : Nat → Nat → Nat) (kk : Nat) (wd : Str) : D := .tup [.str wd, .lst [tblD m f, .lst [.int 0]], .lst [.str "table", .str "elements"], .lst [.lst (wrongD m f kk), .lst (noLstsD m)]]
theorem row_w {T : Tx K mg} {m kk : Nat} {f : Nat → Nat → Nat} {wd : Str} (hs : SgOk m f) (h2 : 2 ≤ kk) (h6 : kk ≤ 6) (hw : wd = "lot" ∨ wd = "words") : RowOk T (rowW m f kk wd) := by
  have h10 := hs.1.n10
  have h0 : MemD m [0] (.lst [.int 0]) := ⟨.inr rfl, fun x hx => by rw [List.mem_singleton.mp hx]; have := hs.1.n1; omega, by decide⟩
  refine ⟨.str wd, [tblD m f, .lst [.int 0]], ["table", "elements"], [wrongD m f kk, noLstsD m], 2, rfl, rfl, rfl, rfl, by decide, fun os ho => ?_, ?_⟩
  · rcases List.mem_cons.mp ho with rfl | ho
    · exact ⟨by rw [wrongD_len]; decide, by rw [wrongD_len]; decide, fun x hx => (wrong_ok hs.1 h2 h6 hx).1⟩
    · rw [List.mem_singleton.mp ho]
      exact ⟨by show 1 ≤ 13; decide, by show 13 ≤ 100; decide, fun x hx => (noLsts_wr hx).1⟩
  · intro a vs as ha hv has hlow hall u x os hu hx hos hxo
    obtain ⟨u0, u1, rfl⟩ := two_of hv
    obtain ⟨a0, a1, rfl⟩ := two_of has
    have hwd : (.str wd : D) = .str "lot" ∨ (.str wd : D) = .str "words" := by rcases hw with rfl | rfl; exact .inl rfl; exact .inr rfl
    have hT1 : TyL a1 := by
      rcases hall 1 (by decide) with e | ⟨os', x', e1, e2, e3⟩
      · cases e; exact memD_ty h0
      · cases e1; cases e3; exact wr_tyL (noLsts_wr e2).1
    match a, ha with
    | 0, _ =>
      cases hu; cases hx; cases hos
      obtain ⟨hw, ht⟩ := wrong_ok hs.1 h2 h6 hxo
      exact ⟨_, "table", rfl, ⟨hwd, rfl, rfl, hw.t3, hT1, rfl, _, _, rfl, .inl ⟨ht, rfl, rfl⟩⟩, .inl ⟨rfl, rfl⟩⟩
    | 1, _ =>
      cases hu; cases hx; cases hos
      have e0 := hlow 0 (by decide)
      cases e0
      refine ⟨_, "elements", rfl, ⟨hwd, rfl, rfl, ty3_tbl h10, hT1, rfl, _, _, rfl, .inr ⟨isSemi_tbl hs, ?_, rfl, rfl⟩⟩, .inr ⟨rfl, rfl⟩⟩
      rw [(isTab_tbl hs.1).2.1]
      exact (noLsts_wr hxo).2 h10
/-- lists of members -/
def MS (m : Nat) (d : D) : Prop := ∃ ms : List Nat, d = .lst (lstN ms) ∧ (∀ x ∈ ms, x < m) ∧ ms.length ≤ 100
theorem lstN_take (l : List Nat) (k : Nat) : (lstN l).take k = lstN (l.take k) := by unfold lstN; rw [List.map_take]
theorem lstN_rev (l : List Nat) : (lstN l).reverse = lstN l.reverse := by unfold lstN; rw [List.map_reverse]
theorem ok_law (T : Tx K mg) : FnOk P w K mg base CX0 13 T.f_law T.d_law p_law (spLaw K) := by
  refine T.F_law.ok sc_law (fun vs H Q E h => ?_) (fun cdv A outer s H vs Q E hr h => ?_)
  · obtain ⟨_, _, rfl, _⟩ := h; rfl
  · refine ⟨_, (pss_cons (ps_for PassesOwn.never rfl (pi_range1 (by rfl) T.m_range (pa_cons (pe_callB (call_max2 rfl) (by rfl) T.m_max (by decide +kernel) (pa_cons pe_int (pa_cons (pe_callB (call_min2 rfl) (by rfl) T.m_min (by decide +kernel) (pa_cons pe_int (pa_cons (pe_callB (call_lenK K) (by rfl) T.m_len (by decide +kernel) (pa_cons (pv 0) pa_nil)) pa_nil))) pa_nil))) pa_nil)) (pg_name (i := 1) sc_law.nd rfl (.inl rfl))
      (pss_cons (ps_set (i := 2) sc_law.nd rfl (.inl rfl) (pe_call (ok_law_box T) (hr.mono (by omega)) (by rfl) T.g_law_box T.F_law_box.kp T.b_law_box .nil pass0 (pa_cons (pe_call (ok_law_cell T) (hr.mono (by omega)) (by rfl) T.g_law_cell T.F_law_cell.kp T.b_law_cell .nil pass0 (pa_cons (pv 0) (pa_cons (pv 1) pa_nil))) pa_nil)))
      (pss_cons (ps_par (i := 3) (j := 4) rfl sc_law.nd rfl rfl (by decide) rfl rfl (pa_cons (pe_cmpR op_eq (pe_call (ok_law_take T) (hr.mono (by omega)) (by rfl) T.g_law_take T.F_law_take.kp T.b_law_take .nil pass0 (pa_cons (pv 2) (pa_cons pe_int pa_nil))) pe_int (nomark _)) (pa_cons (pe_ix (ix_seqK K) (pe_lst (pa_cons pe_int (pa_cons pe_int (pa_cons pe_int (pa_cons pe_int (pa_cons pe_int (pa_cons pe_int (pa_cons pe_int (pa_cons pe_int pa_nil))))))))) (pe_call (ok_law_take T) (hr.mono (by omega)) (by rfl) T.g_law_take T.F_law_take.kp T.b_law_take .nil pass0 (pa_cons (pv 2) (pa_cons pe_int pa_nil))) (fun _ _ => rfl)) pa_nil)) (by rfl))
      (pss_cons (ps_for PassesOwn.never rfl (pi_listK K (pe_lst (pa_cons (pe_call (ok_law_drawn T) (hr.mono (by omega)) (by rfl) T.g_law_drawn T.F_law_drawn.kp T.b_law_drawn .nil pass0 (pa_cons (pv 2) (pa_cons (pv 4) pa_nil))) (pa_cons (pe_call (ok_law_plain T) (hr.mono (by omega)) (by rfl) T.g_law_plain T.F_law_plain.kp T.b_law_plain .nil pass0 (pa_cons (pv 2) (pa_cons (pv 4) pa_nil))) (pa_cons (pe_call (ok_law_drawn T) (hr.mono (by omega)) (by rfl) T.g_law_drawn T.F_law_drawn.kp T.b_law_drawn .nil pass0 (pa_cons (pv 2) (pa_cons pe_int pa_nil))) pa_nil))))) (pg_name (i := 5) sc_law.nd rfl (.inr rfl))
      (pss_cons (ps_set (i := 6) sc_law.nd rfl (.inr rfl) (pe_callB (call_lenK K) (by rfl) T.m_len (by decide +kernel) (pa_cons (pv 5) pa_nil)))
      (pss_cons (ps_set (i := 7) sc_law.nd rfl (.inl rfl) (pe_call (ok_law_mixed T) (hr.mono (by omega)) (by rfl) T.g_law_mixed T.F_law_mixed.kp T.b_law_mixed .nil pass0 (pa_cons (pv 2) (pa_cons (pe_listRg rfl (by rfl) T.m_list (prg_1 (by rfl) T.m_range (pv 6))) pa_nil))))
      (pss_cons (ps_set (i := 8) sc_law.nd rfl (.inl rfl) (pe_slice (sl_listK K) (pv 7) po_none (po_some (pe_op op_add pe_int (pe_call (ok_law_take T) (hr.mono (by omega)) (by rfl) T.g_law_take T.F_law_take.kp T.b_law_take .nil pass0 (pa_cons (pv 2) (pa_cons (pe_callB (call_min2 rfl) (by rfl) T.m_min (by decide +kernel) (pa_cons (pv 6) (pa_cons pe_int pa_nil))) pa_nil)))))))
      (pss_one (ps_for PassesOwn.never rfl (pi_listK K (pe_lst (pa_cons (pv 8) (pa_cons (pe_op op_cat (pv 8) (pe_revK K (pv 8))) (pa_cons (pe_slice (sl_listK K) (pv 7) po_none (po_some pe_int)) (pa_cons (pe_lst pa_nil) (pa_cons (pv 7) pa_nil))))))) (pg_name (i := 9) sc_law.nd rfl (.inl rfl))
      (pss_cons (ps_if (pt_not (pt_val (pe_call (ok_law_list_right T) (hr.mono (by omega)) (by rfl) T.g_law_list_right T.F_law_list_right.kp T.b_law_list_right .nil pass0 (pa_cons (pv 5) (pa_cons (pv 9) (pa_cons (pv 3) pa_nil)))))) (pss_one (ps_ret pe_bl)) pss_nil)
      (pss_one (ps_set (i := 3) sc_law.nd rfl (.inl rfl) (pe_not (pv 3)))))))))))
      (pss_cons (ps_set (i := 10) sc_law.nd rfl (.inr rfl) (pe_op op_cat (pe_call (ok_law_no_tables T) (hr.mono (by omega)) (by rfl) T.g_law_no_tables T.F_law_no_tables.kp T.b_law_no_tables .nil pass0 (pa_cons (pv 5) pa_nil)) (pe_lst (pa_cons (pe_call (ok_law_no_semigroup T) (hr.mono (by omega)) (by rfl) T.g_law_no_semigroup T.F_law_no_semigroup.kp T.b_law_no_semigroup .nil pass0 (pa_cons (pe_op op_add pe_int (pe_call (ok_law_take T) (hr.mono (by omega)) (by rfl) T.g_law_take T.F_law_take.kp T.b_law_take .nil pass0 (pa_cons (pv 2) (pa_cons pe_int pa_nil)))) pa_nil)) pa_nil))))
      (pss_cons (ps_setLc (i := 11) (own := [("word", 12)]) rfl sc_law.nd rfl rfl (sw_true rfl rfl rfl (by decide +kernel)) (pi_listK K (pe_lst (pa_cons pe_str (pa_cons pe_str pa_nil)))) (blkOk_by (by rfl)) (fun _ _ _ _ _ => pg_name (i := 12) sc_law.nd rfl (by first | exact .inl rfl | exact .inr rfl)) (fun _ _ _ _ _ => pts_nil) (fun _ _ _ _ _ => (pe_tup (pa_cons (pv 12) (pa_cons (pe_lst (pa_cons (pv 5) (pa_cons (pe_lst (pa_cons pe_int pa_nil)) pa_nil))) (pa_cons (pe_lst (pa_cons pe_str (pa_cons pe_str pa_nil))) (pa_cons (pe_lst (pa_cons (pv 10) (pa_cons (pe_call (ok_law_no_lists_of T) (hr.mono (by omega)) (by rfl) T.g_law_no_lists_of T.F_law_no_lists_of.kp T.b_law_no_lists_of .nil pass0 (pa_cons (pv 6) pa_nil)) pa_nil))) pa_nil)))))))
      (pss_one (ps_if (pt_not (pt_val (pe_call (ok_law_refusals_right T) (hr.mono (by omega)) (by rfl) T.g_law_refusals_right T.F_law_refusals_right.kp T.b_law_refusals_right .nil pass0 (pa_cons (pv 2) (pa_cons (pe_op op_cat (pv 11) (pv 11)) (pa_cons (pv 3) pa_nil)))))) (pss_one (ps_ret pe_bl)) pss_nil))))))))
      (pss_one (ps_ret pe_bl))), ?_⟩
    obtain ⟨a, ns, rfl, hlen, hS, q⟩ := h
    refine EX.fin (K := K) (W := fun _ _ _ _ => False) (d := .bl true) (good_start (G := fun _ => none) (ds := [.op (.ref a)]) (fun _ _ e => by cases e) (.cons (.op _) .nil) n_law) (fun v G' H' t dv => by obtain rfl := dv.blV; exact q H') ?_
    show EX K ⟨fun _ => none, H, none⟩ _ _ [Sl.val (.ref a) (.op (.ref a)), Sl.un, Sl.un, Sl.un, Sl.un, Sl.un, Sl.un, Sl.un, Sl.un, Sl.un, Sl.un, Sl.un, Sl.un] _
    refine ex_forRS (n := max 2 (min 4 ns.length)) (fun _ env' => ∃ s1 s2 s3 s4 s5 s6 s7 s8 s9 s10 s11 s12, env' = [Sl.val (.ref a) (.op (.ref a)), s1, s2, s3, s4, s5, s6, s7, s8, s9, s10, s11, s12]) (ev_is (ev_cb (ea_cons ev_int (ea_cons (ev_cb (ea_cons ev_int (ea_cons (ev_lenS rfl hS rfl) ea_nil)) cb_min2) ea_nil)) cb_max2) (congrArg D.int (by split <;> split <;> omega))) (by omega) ⟨_, _, _, _, _, _, _, _, _, _, _, _, rfl⟩ ?_ fun env' ⟨_, _, _, _, _, _, _, _, _, _, _, _, h⟩ => by subst h; exact ex_ret ev_bl fun v => rfl
    rintro k env' vk hk ⟨s1, s2, s3, s4, s5, s6, s7, s8, s9, s10, s11, s12, rfl⟩
    refine ex_letNew (ea_cons (ev_cell rfl hS rfl rfl) ea_nil) ⟨_, rfl, rfl⟩ fun b => ?_
    generalize hg : (if cellF ns k < 0 then -cellF ns k else cellF ns k) = gg
    have hg0 : 0 ≤ gg := by rw [← hg]; split <;> omega
    have hB0 : BoxD 0 [.int gg, .bl (decide ((10 : Int) ^ 18 ≤ gg)), .int (gg % 2147483629), .int 0] := ⟨gg, _, _, 0, rfl, hg0, Int.emod_nonneg _ (by decide), by have := Int.emod_lt_of_pos gg (show (0 : Int) < 2147483629 by decide); omega, by decide, by decide⟩
    generalize [D.int gg, D.bl (decide ((10 : Int) ^ 18 ≤ gg)), D.int (gg % 2147483629), D.int 0] = bs0 at hB0
    show EX K ⟨fun _ => none, H, none⟩ _ _ [Sl.val (.ref a) (.op (.ref a)), Sl.val vk (.int (k : Nat)), Sl.own b bs0, s3, s4, s5, s6, s7, s8, s9, s10, s11, s12] _
    -- named, most
    refine ex_parXS (xa_two2 (PP := fun ds e => ∃ (nn : Bool) (most : Nat) (bs : List D), 1 ≤ most ∧ most ≤ 10 ∧ ds = [.bl nn, .int (most : Nat)] ∧ BoxD 2 bs ∧ e = [Sl.val (.ref a) (.op (.ref a)), Sl.val vk (.int (k : Nat)), Sl.own b bs, s3, s4, s5, s6, s7, s8, s9, s10, s11, s12]) (xe_take0I (m := 2) rfl hB0 (by decide) (ev_int (i := 2)) (by decide) (by decide)) fun v d e h => ?_) fun vs ds e h => ?_
    · obtain ⟨nn, rfl, bs1, hB1, rfl⟩ := h
      refine xe_op (P2 := fun _ _ d e => ∃ t : Nat, t < 8 ∧ d = .int (t : Nat) ∧ ∃ bs, BoxD 2 bs ∧ e = [Sl.val (.ref a) (.op (.ref a)), Sl.val vk (.int (k : Nat)), Sl.own b bs, s3, s4, s5, s6, s7, s8, s9, s10, s11, s12]) (ev_lst (ds := lstN mostsN) (ea_cons ev_int (ea_cons ev_int (ea_cons ev_int (ea_cons ev_int (ea_cons ev_int (ea_cons ev_int (ea_cons ev_int (ea_cons ev_int ea_nil)))))))) (sz 8)).xe (fun v d e h => ?_) fun va da ea vb db eb pa pb => ?_
      · obtain ⟨rfl, rfl⟩ := h
        exact xe_takeI (m := 8) rfl hB1 (by decide) (ev_int (i := 8)) (by decide) (by decide)
      · obtain ⟨rfl, rfl⟩ := pa
        obtain ⟨t, ht, rfl, bs, hB, rfl⟩ := pb
        obtain ⟨x, hx, x1, x2⟩ := mosts_ok ht
        exact ⟨_, op_ixN hx, fun v => ⟨nn, x, bs, x1, x2, rfl, hB, rfl⟩⟩
    obtain ⟨nn, most, bs, hm1, hm10, rfl, hB2, rfl⟩ := h
    refine ⟨_, _, rfl, fun u3 u4 _ => ?_⟩
    show EX K ⟨fun _ => none, H, none⟩ _ _ [Sl.val (.ref a) (.op (.ref a)), Sl.val vk (.int (k : Nat)), Sl.own b bs, Sl.val u3 (.bl nn), Sl.val u4 (.int (most : Nat)), s5, s6, s7, s8, s9, s10, s11, s12] _
    -- tables
    refine ex_forXLS (P1 := fun _ d e => ∃ ds, d = .lst ds ∧ (∀ d ∈ ds, IsS d) ∧ ds.length = 3 ∧ ∃ bs', BoxD 300 bs' ∧ e = [Sl.val (.ref a) (.op (.ref a)), Sl.val vk (.int (k : Nat)), Sl.own b bs', Sl.val u3 (.bl nn), Sl.val u4 (.int (most : Nat)), s5, s6, s7, s8, s9, s10, s11, s12])
      (fun e => ∃ bs' u3 nn m f v5 v6 s7 s8 s9, BoxD 333 bs' ∧ SgOk m f ∧ e = [Sl.val (.ref a) (.op (.ref a)), Sl.val vk (.int (k : Nat)), Sl.own b bs', Sl.val u3 (.bl nn), Sl.val u4 (.int (most : Nat)), Sl.val v5 (tblD m f), Sl.val v6 (.int (m : Nat)), s7, s8, s9, s10, s11, s12])
      (xe_lst (P1 := fun _ ds e => (∀ d ∈ ds, IsS d) ∧ ds.length = 3 ∧ ∃ bs', BoxD 300 bs' ∧ e = [Sl.val (.ref a) (.op (.ref a)), Sl.val vk (.int (k : Nat)), Sl.own b bs', Sl.val u3 (.bl nn), Sl.val u4 (.int (most : Nat)), s5, s6, s7, s8, s9, s10, s11, s12]) ?_ fun vs ds e h => ?_) (fun v d e h => ?_) fun env' h => ?_
    · refine xa_sgE (Ef := fun bs' => [Sl.val (.ref a) (.op (.ref a)), Sl.val vk (.int (k : Nat)), Sl.own b bs', Sl.val u3 (.bl nn), Sl.val u4 (.int (most : Nat)), s5, s6, s7, s8, s9, s10, s11, s12]) (n1 := 87) (n2 := 300) (k := 2) ((xe_callB (Pd := IsS) rfl hB2 (by decide) (ea_cons (ev_var rfl) ea_nil) ⟨most, rfl, hm1, hm10, fun m f hs hm => ⟨m, f, hs, rfl⟩⟩).imp fun v d e h => ?_) fun bs7 hB7 => ?_
      · obtain ⟨hd, bs', hB', rfl⟩ := h
        exact ⟨hd, bs', hB'.mono (by decide), rfl⟩
      refine xa_sgE (Ef := fun bs' => [Sl.val (.ref a) (.op (.ref a)), Sl.val vk (.int (k : Nat)), Sl.own b bs', Sl.val u3 (.bl nn), Sl.val u4 (.int (most : Nat)), s5, s6, s7, s8, s9, s10, s11, s12]) (n1 := 200) (n2 := 300) (k := 1) ((xe_callB (Pd := IsS) rfl hB7 (by decide) (ea_cons (ev_var rfl) ea_nil) ⟨most, rfl, hm1, hm10, fun m f hs hm => ⟨m, f, hs, rfl⟩⟩).imp fun v d e h => ?_) fun bs8 hB8 => ?_
      · obtain ⟨hd, bs', hB', rfl⟩ := h
        exact ⟨hd, bs', hB'.mono (by decide), rfl⟩
      refine xa_sgE (Ef := fun bs' => [Sl.val (.ref a) (.op (.ref a)), Sl.val vk (.int (k : Nat)), Sl.own b bs', Sl.val u3 (.bl nn), Sl.val u4 (.int (most : Nat)), s5, s6, s7, s8, s9, s10, s11, s12]) (n1 := 300) (n2 := 300) (k := 0) ((xe_callB (Pd := IsS) rfl hB8 (by decide) (ea_cons ev_int ea_nil) ⟨6, rfl, by decide, by decide, fun m f hs hm => ⟨m, f, hs, rfl⟩⟩).imp fun v d e h => ?_) fun bs11 hB11 => xa_sgE0 hB11 rfl
      obtain ⟨hd, bs', hB', rfl⟩ := h
      exact ⟨hd, bs', hB'.mono (by decide), rfl⟩
    · obtain ⟨h1, h2, bs', hB', rfl⟩ := h
      exact ⟨by rw [sizeLine_eq]; omega, fun v => ⟨ds, rfl, h1, h2, bs', hB', rfl⟩⟩
    · obtain ⟨ds, rfl, hds, hd3, bs7, hB7, rfl⟩ := h
      refine ⟨_, rfl, fun j e => ∃ bs' u3 nn s5 s6 s7 s8 s9, BoxD (300 + 11 * j) bs' ∧ e = [Sl.val (.ref a) (.op (.ref a)), Sl.val vk (.int (k : Nat)), Sl.own b bs', Sl.val u3 (.bl nn), Sl.val u4 (.int (most : Nat)), s5, s6, s7, s8, s9, s10, s11, s12] ∧ (1 ≤ j → ∃ m f v5 v6, SgOk m f ∧ s5 = Sl.val v5 (tblD m f) ∧ s6 = Sl.val v6 (.int (m : Nat))), ⟨bs7, u3, nn, s5, s6, s7, s8, s9, hB7, rfl, fun h => absurd h (by decide)⟩, ?_, fun env' ⟨bs', u3, nn, s5, s6, s7, s8, s9, hB, he, hj⟩ => ?_⟩
      rotate_left
      · rw [hd3] at hB hj
        obtain ⟨m, f, v5, v6, hs, rfl, rfl⟩ := hj (by decide)
        exact ⟨bs', u3, nn, m, f, v5, v6, s7, s8, s9, hB, hs, he⟩
      rintro j env' v5 d8 hd8 ⟨bs', u3, nn, s5, s6, s7, s8, s9, hB, rfl, _⟩
      have hj3 : j < 3 := by rw [← hd3]; exact (List.getElem?_eq_some_iff.mp hd8).1
      obtain ⟨m, f, hs, rfl⟩ := hds d8 (List.mem_of_getElem? hd8)
      have h10 := hs.1.n10
      have h1n := hs.1.n1
      refine ex_let (ev_cb (ea_cons (ev_var rfl) ea_nil) cb_lenTbl) fun v6 => ?_
      show EX K ⟨fun _ => none, H, none⟩ _ _ [Sl.val (.ref a) (.op (.ref a)), Sl.val vk (.int (k : Nat)), Sl.own b bs', Sl.val u3 (.bl nn), Sl.val u4 (.int (most : Nat)), Sl.val v5 (tblD m f), Sl.val v6 (.int (m : Nat)), s7, s8, s9, s10, s11, s12] _
      -- order
      refine ex_letX (xe_callB (Pd := fun d => ∃ ns, d = .lst (lstN ns) ∧ ns.Perm (List.range m)) rfl hB (by omega) (ea_cons (ev_lstRg1 (ev_var rfl) (by omega) (by omega)) ea_nil) ⟨List.range m, by rw [Int.toNat_natCast, rgD_rng], by rw [List.length_range]; exact h10, fun ns hns => ⟨ns, rfl, hns⟩⟩) fun v7 d e h => ?_
      obtain ⟨⟨o, rfl, ho⟩, bs8, hB8, rfl⟩ := h
      obtain ⟨hol, _, hom, _⟩ := MP.perm_facts ho
      show EX K ⟨fun _ => none, H, none⟩ _ _ [Sl.val (.ref a) (.op (.ref a)), Sl.val vk (.int (k : Nat)), Sl.own b bs8, Sl.val u3 (.bl nn), Sl.val u4 (.int (most : Nat)), Sl.val v5 (tblD m f), Sl.val v6 (.int (m : Nat)), Sl.val v7 (.lst (lstN o)), s8, s9, s10, s11, s12] _
      -- some
      refine ex_letX (P := fun _ d e => ∃ kk bs', d = .lst (lstN (o.take kk)) ∧ BoxD (300 + 11 * j + 11) bs' ∧ e = [Sl.val (.ref a) (.op (.ref a)), Sl.val vk (.int (k : Nat)), Sl.own b bs', Sl.val u3 (.bl nn), Sl.val u4 (.int (most : Nat)), Sl.val v5 (tblD m f), Sl.val v6 (.int (m : Nat)), Sl.val v7 (.lst (lstN o)), s8, s9, s10, s11, s12]) (xe_slToL (ds := lstN o) (ev_var rfl) (xe_cTakeI (c := 1) (m := min m 3) rfl hB8 (by omega) (ev_is (ev_cb (ea_cons (ev_var rfl) (ea_cons ev_int ea_nil)) cb_min2) (congrArg D.int (by split <;> omega))) (by omega) (by omega)) fun v d e h => ?_) fun v8 d e h => ?_
      · obtain ⟨t, ht, rfl, bs', hB', rfl⟩ := h
        exact ⟨1 + t, rfl, fun v => ⟨1 + t, bs', by rw [lstN_take], hB', rfl⟩⟩
      obtain ⟨kk, bs9, rfl, hB9, rfl⟩ := h
      show EX K ⟨fun _ => none, H, none⟩ _ _ [Sl.val (.ref a) (.op (.ref a)), Sl.val vk (.int (k : Nat)), Sl.own b bs9, Sl.val u3 (.bl nn), Sl.val u4 (.int (most : Nat)), Sl.val v5 (tblD m f), Sl.val v6 (.int (m : Nat)), Sl.val v7 (.lst (lstN o)), Sl.val v8 (.lst (lstN (o.take kk))), s9, s10, s11, s12] _
      have hsm : ∀ x ∈ o.take kk, x < m := fun x hx => hom x (List.mem_of_mem_take hx)
      have hsl : (o.take kk).length ≤ 10 := by rw [List.length_take]; omega
      have hds : ∀ d ∈ [D.lst (lstN (o.take kk)), .lst (lstN (o.take kk ++ (o.take kk).reverse)), .lst (lstN (o.take 1)), .lst (lstN []), .lst (lstN o)], MS m d := fun d hd => by
        simp only [List.mem_cons, List.not_mem_nil, or_false] at hd
        rcases hd with rfl | rfl | rfl | rfl | rfl
        · exact ⟨_, rfl, hsm, by omega⟩
        · refine ⟨_, rfl, fun x hx => ?_, by rw [List.length_append, List.length_reverse]; omega⟩
          rcases List.mem_append.mp hx with hx | hx
          · exact hsm x hx
          · exact hsm x (List.mem_reverse.mp hx)
        · exact ⟨_, rfl, fun x hx => hom x (List.mem_of_mem_take hx), by rw [List.length_take]; omega⟩
        · exact ⟨[], rfl, (fun x hx => nomatch hx), by decide⟩
        · exact ⟨o, rfl, hom, by omega⟩
      refine ex_forN (fun _ e => ∃ u3 nn s9, e = [Sl.val (.ref a) (.op (.ref a)), Sl.val vk (.int (k : Nat)), Sl.own b bs9, Sl.val u3 (.bl nn), Sl.val u4 (.int (most : Nat)), Sl.val v5 (tblD m f), Sl.val v6 (.int (m : Nat)), Sl.val v7 (.lst (lstN o)), Sl.val v8 (.lst (lstN (o.take kk))), s9, s10, s11, s12]) (ei_list (ev_lst (ds := [D.lst (lstN (o.take kk)), .lst (lstN (o.take kk ++ (o.take kk).reverse)), .lst (lstN (o.take 1)), .lst (lstN []), .lst (lstN o)]) (ea_cons (ev_var rfl) (ea_cons (ev_is (ev_op (ev_var rfl) (ev_revL (ev_var rfl)) (op_catLD (by rw [List.length_reverse, lstN_len, sizeLine_eq]; omega))) (by rw [lstN_rev]; unfold lstN; rw [List.map_append])) (ea_cons (ev_is (ev_slToL (k := 1) (ev_var rfl) (ev_int (i := 1))) (by rw [lstN_take])) (ea_cons (ev_lst ea_nil (sz 0)) (ea_cons (ev_var rfl) ea_nil))))) (sz 5))) ⟨u3, nn, s9, rfl⟩ ?_ fun env' ⟨u3, nn, s9, h⟩ => ⟨bs9, u3, nn, _, _, _, _, s9, hB9, h, fun _ => ⟨m, f, v5, v6, hs, rfl, rfl⟩⟩
      rintro q env' v9 d9 hd9 ⟨u3, nn, s9, rfl⟩
      obtain ⟨ms, rfl, hm1, hm2⟩ := hds d9 (List.mem_of_getElem? hd9)
      refine ex_when (b := false) (et_is (et_not (et_B (ev_call (ea_cons (ev_var rfl) (ea_cons (ev_var rfl) (ea_cons (ev_var rfl) ea_nil))) ⟨m, f, ms, nn, hs, rfl, rfl, hm1, hm2, rfl, rfl⟩))) rfl) (fun h => nomatch h) fun _ => ?_
      exact ex_asg (ev_not (ev_var rfl)) fun v => ⟨v, !nn, _, rfl⟩
    obtain ⟨bs7, u3, nn, m, f, v5, v6, s7, s8, s9, hB7, hs, rfl⟩ := h
    -- wrong
    refine ex_letX (P := fun _ d e => ∃ kk bs', 2 ≤ kk ∧ kk ≤ 6 ∧ d = .lst (wrongD m f kk) ∧ BoxD 334 bs' ∧ e = [Sl.val (.ref a) (.op (.ref a)), Sl.val vk (.int (k : Nat)), Sl.own b bs', Sl.val u3 (.bl nn), Sl.val u4 (.int (most : Nat)), Sl.val v5 (tblD m f), Sl.val v6 (.int (m : Nat)), s7, s8, s9, s10, s11, s12]) (xe_op (P2 := fun _ _ d e => ∃ kk bs', 2 ≤ kk ∧ kk ≤ 6 ∧ d = .lst [tblD kk nsF] ∧ BoxD 334 bs' ∧ e = [Sl.val (.ref a) (.op (.ref a)), Sl.val vk (.int (k : Nat)), Sl.own b bs', Sl.val u3 (.bl nn), Sl.val u4 (.int (most : Nat)), Sl.val v5 (tblD m f), Sl.val v6 (.int (m : Nat)), s7, s8, s9, s10, s11, s12]) (ev_call (ea_cons (ev_var rfl) ea_nil) ⟨m, f, rfl, hs.1, rfl⟩).xe (fun v d e h => ?_) fun va da ea vb db eb pa pb => ?_) fun v10 d e h => ?_
    · obtain ⟨_, rfl⟩ := h
      refine xe_lst (P1 := fun _ ds e => ∃ kk bs', 2 ≤ kk ∧ kk ≤ 6 ∧ ds = [tblD kk nsF] ∧ BoxD 334 bs' ∧ e = [Sl.val (.ref a) (.op (.ref a)), Sl.val vk (.int (k : Nat)), Sl.own b bs', Sl.val u3 (.bl nn), Sl.val u4 (.int (most : Nat)), Sl.val v5 (tblD m f), Sl.val v6 (.int (m : Nat)), s7, s8, s9, s10, s11, s12]) ((xa_one (xe_call (P := fun _ d e => ∃ kk bs', 2 ≤ kk ∧ kk ≤ 6 ∧ d = tblD kk nsF ∧ BoxD 334 bs' ∧ e = [Sl.val (.ref a) (.op (.ref a)), Sl.val vk (.int (k : Nat)), Sl.own b bs', Sl.val u3 (.bl nn), Sl.val u4 (.int (most : Nat)), Sl.val v5 (tblD m f), Sl.val v6 (.int (m : Nat)), s7, s8, s9, s10, s11, s12]) (xa_one (xe_cTakeI (c := 2) (m := 5) rfl hB7 (by decide) (ev_int (i := 5)) (by decide) (by decide))) fun vs ds e h => ?_)).imp fun vs ds e h => ?_) fun vs ds e h => ?_
      · obtain ⟨v, d, rfl, t, ht, rfl, bs8, hB8, rfl⟩ := h
        exact ⟨_, ⟨2 + t, by omega, by omega, rfl, rfl⟩, fun v => ⟨2 + t, bs8, by omega, by omega, rfl, hB8, rfl⟩⟩
      · obtain ⟨v, d, rfl, kk, bs8, a1, a2, rfl, h⟩ := h
        exact ⟨kk, bs8, a1, a2, rfl, h⟩
      · obtain ⟨kk, bs8, a1, a2, rfl, h⟩ := h
        exact ⟨sz 1, fun v => ⟨kk, bs8, a1, a2, rfl, h⟩⟩
    · obtain ⟨rfl, _⟩ := pa
      obtain ⟨kk, bs8, a1, a2, rfl, h⟩ := pb
      exact ⟨_, op_catLD (by have := wrongD_len m f kk; unfold wrongD at this; rw [List.length_append] at this; rw [this, sizeLine_eq]; decide), fun v => ⟨kk, bs8, a1, a2, rfl, h⟩⟩
    obtain ⟨kk, bs8, hk2, hk6, rfl, hB8, rfl⟩ := h
    show EX K ⟨fun _ => none, H, none⟩ _ _ [Sl.val (.ref a) (.op (.ref a)), Sl.val vk (.int (k : Nat)), Sl.own b bs8, Sl.val u3 (.bl nn), Sl.val u4 (.int (most : Nat)), Sl.val v5 (tblD m f), Sl.val v6 (.int (m : Nat)), s7, s8, s9, Sl.val v10 (.lst (wrongD m f kk)), s11, s12] _
    -- rows
    refine ex_let (d := .lst [rowW m f kk "lot", rowW m f kk "words"]) (ev_is (ev_lcN (f := fun _ => true) (F := fun i => rowW m f kk (if i = 0 then "lot" else "words")) (ei_list (ev_lst (ds := [.str "lot", .str "words"]) (ea_cons ev_str (ea_cons ev_str ea_nil)) (sz 2))) (by show 2 < sizeLine; rw [sizeLine_eq]; decide) (by decide) fun i v d hd => ⟨et_yes, fun _ => ?_⟩) rfl) fun v11 => ?_
    · have hd : d = .str (if i = 0 then "lot" else "words") := by
        match i, hd with
        | 0, hd => cases hd; rfl
        | 1, hd => cases hd; rfl
      subst hd
      exact ev_tup (ea_cons (ev_var rfl) (ea_cons (ev_lst (ea_cons (ev_var rfl) (ea_cons (ev_lst (ea_cons ev_int ea_nil) (sz 1)) ea_nil)) (sz 2)) (ea_cons (ev_lst (ea_cons ev_str (ea_cons ev_str ea_nil)) (sz 2)) (ea_cons (ev_lst (ea_cons (ev_var rfl) (ea_cons (ev_call (ea_cons (ev_var rfl) ea_nil) ⟨m, rfl, rfl⟩) ea_nil)) (sz 2)) ea_nil)))) (sz 4)
    show EX K ⟨fun _ => none, H, none⟩ _ _ [Sl.val (.ref a) (.op (.ref a)), Sl.val vk (.int (k : Nat)), Sl.own b bs8, Sl.val u3 (.bl nn), Sl.val u4 (.int (most : Nat)), Sl.val v5 (tblD m f), Sl.val v6 (.int (m : Nat)), s7, s8, s9, Sl.val v10 (.lst (wrongD m f kk)), Sl.val v11 (.lst [rowW m f kk "lot", rowW m f kk "words"]), s12] _
    refine ex_ifX (P1 := fun bb e => bb = false ∧ ∃ s1 s2 s3 s4 s5 s6 s7 s8 s9 s10 s11 s12, e = [Sl.val (.ref a) (.op (.ref a)), s1, s2, s3, s4, s5, s6, s7, s8, s9, s10, s11, s12]) (xt_not (P1 := fun bb e => bb = true ∧ ∃ s1 s2 s3 s4 s5 s6 s7 s8 s9 s10 s11 s12, e = [Sl.val (.ref a) (.op (.ref a)), s1, s2, s3, s4, s5, s6, s7, s8, s9, s10, s11, s12]) (xt_B (xe_callB (Pd := fun d => d = .bl true) rfl hB8 (by decide) (ea_cons (ev_op (ev_var rfl) (ev_var rfl) (op_catLD (by show 2 + 2 ≤ sizeLine; rw [sizeLine_eq]; decide))) (ea_cons (ev_var rfl) ea_nil)) ⟨_, nn, rfl, rfl, by show 4 ≤ 20; decide, fun d hd => ?_, rfl⟩) fun v d e h => ?_) fun bb e h => ?_) (fun e h => ?_) fun e h => ?_
    · have hr1 := row_w (T := T) (wd := "lot") hs hk2 hk6 (.inl rfl)
      have hr2 := row_w (T := T) (wd := "words") hs hk2 hk6 (.inr rfl)
      have hd : d ∈ [rowW m f kk "lot", rowW m f kk "words", rowW m f kk "lot", rowW m f kk "words"] := hd
      simp only [List.mem_cons, List.not_mem_nil, or_false] at hd
      rcases hd with rfl | rfl | rfl | rfl <;> assumption
    · obtain ⟨rfl, bs9, _, rfl⟩ := h
      exact ⟨true, rfl, rfl, _, _, _, _, _, _, _, _, _, _, _, _, rfl⟩
    · obtain ⟨rfl, h⟩ := h
      exact ⟨rfl, h⟩
    · exact absurd h.1 (fun z => nomatch z)
    · exact ex_next h.2

end
end Kx


set_option Elab.async false
set_option linter.all false
set_option maxRecDepth 100000
set_option maxHeartbeats 8000000
namespace Kx
open PySem PySem.Spec PyProof.Rows L2 DL
/-! ### what the top has written -/

theorem all_mk {P : Program} {w : World} {K : PySem.W.Frag} {h : Heap} {mg : Str → Option Value} {fa : Addr} (X : K.In h) (G : h.Ns mainGlobals mg) (hfa : mg "law" = some (.ref fa))
    {f0 : Addr} {od0 an0 : Option Addr} {sl0 : Array (Option Value)} {oc0 kV0 dc0 pm0 cd0 ct0 : Value}
    {f1 : Addr} {od1 an1 : Option Addr} {sl1 : Array (Option Value)} {oc1 kV1 dc1 pm1 cd1 ct1 : Value}
    {f2 : Addr} {od2 an2 : Option Addr} {sl2 : Array (Option Value)} {oc2 kV2 dc2 pm2 cd2 ct2 : Value}
    {f3 : Addr} {od3 an3 : Option Addr} {sl3 : Array (Option Value)} {oc3 kV3 dc3 pm3 cd3 ct3 : Value}
    {f4 : Addr} {od4 an4 : Option Addr} {sl4 : Array (Option Value)} {oc4 kV4 dc4 pm4 cd4 ct4 : Value}
    {f5 : Addr} {od5 an5 : Option Addr} {sl5 : Array (Option Value)} {oc5 kV5 dc5 pm5 cd5 ct5 : Value}
    {f6 : Addr} {od6 an6 : Option Addr} {sl6 : Array (Option Value)} {oc6 kV6 dc6 pm6 cd6 ct6 : Value}
    {f7 : Addr} {od7 an7 : Option Addr} {sl7 : Array (Option Value)} {oc7 kV7 dc7 pm7 cd7 ct7 : Value}
    {f8 : Addr} {od8 an8 : Option Addr} {sl8 : Array (Option Value)} {oc8 kV8 dc8 pm8 cd8 ct8 : Value}
    {f9 : Addr} {od9 an9 : Option Addr} {sl9 : Array (Option Value)} {oc9 kV9 dc9 pm9 cd9 ct9 : Value}
    {f10 : Addr} {od10 an10 : Option Addr} {sl10 : Array (Option Value)} {oc10 kV10 dc10 pm10 cd10 ct10 : Value}
    {f11 : Addr} {od11 an11 : Option Addr} {sl11 : Array (Option Value)} {oc11 kV11 dc11 pm11 cd11 ct11 : Value}
    {f12 : Addr} {od12 an12 : Option Addr} {sl12 : Array (Option Value)} {oc12 kV12 dc12 pm12 cd12 ct12 : Value}
    {f13 : Addr} {od13 an13 : Option Addr} {sl13 : Array (Option Value)} {oc13 kV13 dc13 pm13 cd13 ct13 : Value}
    {f14 : Addr} {od14 an14 : Option Addr} {sl14 : Array (Option Value)} {oc14 kV14 dc14 pm14 cd14 ct14 : Value}
    {f15 : Addr} {od15 an15 : Option Addr} {sl15 : Array (Option Value)} {oc15 kV15 dc15 pm15 cd15 ct15 : Value}
    {f16 : Addr} {od16 an16 : Option Addr} {sl16 : Array (Option Value)} {oc16 kV16 dc16 pm16 cd16 ct16 : Value}
    {f17 : Addr} {od17 an17 : Option Addr} {sl17 : Array (Option Value)} {oc17 kV17 dc17 pm17 cd17 ct17 : Value}
    {f18 : Addr} {od18 an18 : Option Addr} {sl18 : Array (Option Value)} {oc18 kV18 dc18 pm18 cd18 ct18 : Value}
    {f19 : Addr} {od19 an19 : Option Addr} {sl19 : Array (Option Value)} {oc19 kV19 dc19 pm19 cd19 ct19 : Value}
    {f20 : Addr} {od20 an20 : Option Addr} {sl20 : Array (Option Value)} {oc20 kV20 dc20 pm20 cd20 ct20 : Value}
    {f21 : Addr} {od21 an21 : Option Addr} {sl21 : Array (Option Value)} {oc21 kV21 dc21 pm21 cd21 ct21 : Value}
    {f22 : Addr} {od22 an22 : Option Addr} {sl22 : Array (Option Value)} {oc22 kV22 dc22 pm22 cd22 ct22 : Value}
    {f23 : Addr} {od23 an23 : Option Addr} {sl23 : Array (Option Value)} {oc23 kV23 dc23 pm23 cd23 ct23 : Value}
    {f24 : Addr} {od24 an24 : Option Addr} {sl24 : Array (Option Value)} {oc24 kV24 dc24 pm24 cd24 ct24 : Value}
    {f25 : Addr} {od25 an25 : Option Addr} {sl25 : Array (Option Value)} {oc25 kV25 dc25 pm25 cd25 ct25 : Value}
    {f26 : Addr} {od26 an26 : Option Addr} {sl26 : Array (Option Value)} {oc26 kV26 dc26 pm26 cd26 ct26 : Value}
    {f27 : Addr} {od27 an27 : Option Addr} {sl27 : Array (Option Value)} {oc27 kV27 dc27 pm27 cd27 ct27 : Value}
    {f28 : Addr} {od28 an28 : Option Addr} {sl28 : Array (Option Value)} {oc28 kV28 dc28 pm28 cd28 ct28 : Value}
    {f29 : Addr} {od29 an29 : Option Addr} {sl29 : Array (Option Value)} {oc29 kV29 dc29 pm29 cd29 ct29 : Value}
    {f30 : Addr} {od30 an30 : Option Addr} {sl30 : Array (Option Value)} {oc30 kV30 dc30 pm30 cd30 ct30 : Value}
    {f31 : Addr} {od31 an31 : Option Addr} {sl31 : Array (Option Value)} {oc31 kV31 dc31 pm31 cd31 ct31 : Value}
    {f32 : Addr} {od32 an32 : Option Addr} {sl32 : Array (Option Value)} {oc32 kV32 dc32 pm32 cd32 ct32 : Value}
    {f33 : Addr} {od33 an33 : Option Addr} {sl33 : Array (Option Value)} {oc33 kV33 dc33 pm33 cd33 ct33 : Value}
    {f34 : Addr} {od34 an34 : Option Addr} {sl34 : Array (Option Value)} {oc34 kV34 dc34 pm34 cd34 ct34 : Value}
    {f35 : Addr} {od35 an35 : Option Addr} {sl35 : Array (Option Value)} {oc35 kV35 dc35 pm35 cd35 ct35 : Value}
    {f36 : Addr} {od36 an36 : Option Addr} {sl36 : Array (Option Value)} {oc36 kV36 dc36 pm36 cd36 ct36 : Value}
    {f37 : Addr} {od37 an37 : Option Addr} {sl37 : Array (Option Value)} {oc37 kV37 dc37 pm37 cd37 ct37 : Value}
    {f38 : Addr} {od38 an38 : Option Addr} {sl38 : Array (Option Value)} {oc38 kV38 dc38 pm38 cd38 ct38 : Value}
    {cB : Addr}
    {cE0 iE0 : Addr} {nmE0 qE0 : Str} {NE0 : Addr} {bsE0 bmE0 : List Value} {snE0 : List Str} {subE0 : List Value} {abE0 : Bool} {colE0 : Option Bool} {ddE0 : Option Addr} {m0E0 m1E0 m2E0 m3E0 m5E0 : Option Value} {odE0 anE0 : Option Addr} {slE0 : Array (Option Value)} {ocE0 kVE0 dcE0 pmE0 cdE0 ctE0 : Value}
    {cE1 iE1 : Addr} {nmE1 qE1 : Str} {NE1 : Addr} {bsE1 bmE1 : List Value} {snE1 : List Str} {subE1 : List Value} {abE1 : Bool} {colE1 : Option Bool} {ddE1 : Option Addr} {m0E1 m1E1 m2E1 m3E1 m5E1 : Option Value} {odE1 anE1 : Option Addr} {slE1 : Array (Option Value)} {ocE1 kVE1 dcE1 pmE1 cdE1 ctE1 : Value}
    {tG_MOST_ELEMENTS : Tok}
    (a0 : PySem.W.nsIn K mainGlobals "is_integer" = some (some (.ref f0)))
    (l0 : K.lookup f0 = some ⟨oc0, od0, .func (PySem.W.fnOf "is_integer" "is_integer" (defArgs s_is_integer) (defBody s_is_integer) (defScope s_is_integer) .none kV0 dc0 pm0 an0 cd0 ct0), sl0⟩)
    (c0 : PySem.W.codeIn K cd0 "is_integer" = true)
    (k0 : PySem.W.keepIn K (.ref f0) = true)
    (a1 : PySem.W.nsIn K mainGlobals "is_within" = some (some (.ref f1)))
    (l1 : K.lookup f1 = some ⟨oc1, od1, .func (PySem.W.fnOf "is_within" "is_within" (defArgs s_is_within) (defBody s_is_within) (defScope s_is_within) .none kV1 dc1 pm1 an1 cd1 ct1), sl1⟩)
    (c1 : PySem.W.codeIn K cd1 "is_within" = true)
    (k1 : PySem.W.keepIn K (.ref f1) = true)
    (a2 : PySem.W.nsIn K mainGlobals "is_index" = some (some (.ref f2)))
    (l2 : K.lookup f2 = some ⟨oc2, od2, .func (PySem.W.fnOf "is_index" "is_index" (defArgs s_is_index) (defBody s_is_index) (defScope s_is_index) .none kV2 dc2 pm2 an2 cd2 ct2), sl2⟩)
    (c2 : PySem.W.codeIn K cd2 "is_index" = true)
    (k2 : PySem.W.keepIn K (.ref f2) = true)
    (a3 : PySem.W.nsIn K mainGlobals "is_list" = some (some (.ref f3)))
    (l3 : K.lookup f3 = some ⟨oc3, od3, .func (PySem.W.fnOf "is_list" "is_list" (defArgs s_is_list) (defBody s_is_list) (defScope s_is_list) .none kV3 dc3 pm3 an3 cd3 ct3), sl3⟩)
    (c3 : PySem.W.codeIn K cd3 "is_list" = true)
    (k3 : PySem.W.keepIn K (.ref f3) = true)
    (a4 : PySem.W.nsIn K mainGlobals "is_tuple" = some (some (.ref f4)))
    (l4 : K.lookup f4 = some ⟨oc4, od4, .func (PySem.W.fnOf "is_tuple" "is_tuple" (defArgs s_is_tuple) (defBody s_is_tuple) (defScope s_is_tuple) .none kV4 dc4 pm4 an4 cd4 ct4), sl4⟩)
    (c4 : PySem.W.codeIn K cd4 "is_tuple" = true)
    (k4 : PySem.W.keepIn K (.ref f4) = true)
    (a5 : PySem.W.nsIn K mainGlobals "are_elements" = some (some (.ref f5)))
    (l5 : K.lookup f5 = some ⟨oc5, od5, .func (PySem.W.fnOf "are_elements" "are_elements" (defArgs s_are_elements) (defBody s_are_elements) (defScope s_are_elements) .none kV5 dc5 pm5 an5 cd5 ct5), sl5⟩)
    (c5 : PySem.W.codeIn K cd5 "are_elements" = true)
    (k5 : PySem.W.keepIn K (.ref f5) = true)
    (a6 : PySem.W.nsIn K mainGlobals "is_table" = some (some (.ref f6)))
    (l6 : K.lookup f6 = some ⟨oc6, od6, .func (PySem.W.fnOf "is_table" "is_table" (defArgs s_is_table) (defBody s_is_table) (defScope s_is_table) .none kV6 dc6 pm6 an6 cd6 ct6), sl6⟩)
    (c6 : PySem.W.codeIn K cd6 "is_table" = true)
    (k6 : PySem.W.keepIn K (.ref f6) = true)
    (a7 : PySem.W.nsIn K mainGlobals "is_broken" = some (some (.ref f7)))
    (l7 : K.lookup f7 = some ⟨oc7, od7, .func (PySem.W.fnOf "is_broken" "is_broken" (defArgs s_is_broken) (defBody s_is_broken) (defScope s_is_broken) .none kV7 dc7 pm7 an7 cd7 ct7), sl7⟩)
    (c7 : PySem.W.codeIn K cd7 "is_broken" = true)
    (k7 : PySem.W.keepIn K (.ref f7) = true)
    (a8 : PySem.W.nsIn K mainGlobals "broken_with" = some (some (.ref f8)))
    (l8 : K.lookup f8 = some ⟨oc8, od8, .func (PySem.W.fnOf "broken_with" "broken_with" (defArgs s_broken_with) (defBody s_broken_with) (defScope s_broken_with) .none kV8 dc8 pm8 an8 cd8 ct8), sl8⟩)
    (c8 : PySem.W.codeIn K cd8 "broken_with" = true)
    (k8 : PySem.W.keepIn K (.ref f8) = true)
    (a9 : PySem.W.nsIn K mainGlobals "is_semigroup" = some (some (.ref f9)))
    (l9 : K.lookup f9 = some ⟨oc9, od9, .func (PySem.W.fnOf "is_semigroup" "is_semigroup" (defArgs s_is_semigroup) (defBody s_is_semigroup) (defScope s_is_semigroup) .none kV9 dc9 pm9 an9 cd9 ct9), sl9⟩)
    (c9 : PySem.W.codeIn K cd9 "is_semigroup" = true)
    (k9 : PySem.W.keepIn K (.ref f9) = true)
    (a10 : PySem.W.nsIn K mainGlobals "check_semigroup" = some (some (.ref f10)))
    (l10 : K.lookup f10 = some ⟨oc10, od10, .func (PySem.W.fnOf "check_semigroup" "check_semigroup" (defArgs s_check_semigroup) (defBody s_check_semigroup) (defScope s_check_semigroup) .none kV10 dc10 pm10 an10 cd10 ct10), sl10⟩)
    (c10 : PySem.W.codeIn K cd10 "check_semigroup" = true)
    (k10 : PySem.W.keepIn K (.ref f10) = true)
    (a11 : PySem.W.nsIn K mainGlobals "words_of" = some (some (.ref f11)))
    (l11 : K.lookup f11 = some ⟨oc11, od11, .func (PySem.W.fnOf "words_of" "words_of" (defArgs s_words_of) (defBody s_words_of) (defScope s_words_of) .none kV11 dc11 pm11 an11 cd11 ct11), sl11⟩)
    (c11 : PySem.W.codeIn K cd11 "words_of" = true)
    (k11 : PySem.W.keepIn K (.ref f11) = true)
    (a12 : PySem.W.nsIn K mainGlobals "closure" = some (some (.ref f12)))
    (l12 : K.lookup f12 = some ⟨oc12, od12, .func (PySem.W.fnOf "closure" "closure" (defArgs s_closure) (defBody s_closure) (defScope s_closure) .none kV12 dc12 pm12 an12 cd12 ct12), sl12⟩)
    (c12 : PySem.W.codeIn K cd12 "closure" = true)
    (k12 : PySem.W.keepIn K (.ref f12) = true)
    (a13 : PySem.W.nsIn K mainGlobals "check_elements" = some (some (.ref f13)))
    (l13 : K.lookup f13 = some ⟨oc13, od13, .func (PySem.W.fnOf "check_elements" "check_elements" (defArgs s_check_elements) (defBody s_check_elements) (defScope s_check_elements) .none kV13 dc13 pm13 an13 cd13 ct13), sl13⟩)
    (c13 : PySem.W.codeIn K cd13 "check_elements" = true)
    (k13 : PySem.W.keepIn K (.ref f13) = true)
    (a14 : PySem.W.nsIn K mainGlobals "generated" = some (some (.ref f14)))
    (l14 : K.lookup f14 = some ⟨oc14, od14, .func (PySem.W.fnOf "generated" "generated" (defArgs s_generated) (defBody s_generated) (defScope s_generated) .none kV14 dc14 pm14 an14 cd14 ct14), sl14⟩)
    (c14 : PySem.W.codeIn K cd14 "generated" = true)
    (k14 : PySem.W.keepIn K (.ref f14) = true)
    (a15 : PySem.W.nsIn K mainGlobals "words_for" = some (some (.ref f15)))
    (l15 : K.lookup f15 = some ⟨oc15, od15, .func (PySem.W.fnOf "words_for" "words_for" (defArgs s_words_for) (defBody s_words_for) (defScope s_words_for) .none kV15 dc15 pm15 an15 cd15 ct15), sl15⟩)
    (c15 : PySem.W.codeIn K cd15 "words_for" = true)
    (k15 : PySem.W.keepIn K (.ref f15) = true)
    (a16 : PySem.W.nsIn K mainGlobals "_law_cell" = some (some (.ref f16)))
    (l16 : K.lookup f16 = some ⟨oc16, od16, .func (PySem.W.fnOf "_law_cell" "_law_cell" (defArgs s_law_cell) (defBody s_law_cell) (defScope s_law_cell) .none kV16 dc16 pm16 an16 cd16 ct16), sl16⟩)
    (c16 : PySem.W.codeIn K cd16 "_law_cell" = true)
    (k16 : PySem.W.keepIn K (.ref f16) = true)
    (a17 : PySem.W.nsIn K mainGlobals "_law_box" = some (some (.ref f17)))
    (l17 : K.lookup f17 = some ⟨oc17, od17, .func (PySem.W.fnOf "_law_box" "_law_box" (defArgs s_law_box) (defBody s_law_box) (defScope s_law_box) .none kV17 dc17 pm17 an17 cd17 ct17), sl17⟩)
    (c17 : PySem.W.codeIn K cd17 "_law_box" = true)
    (k17 : PySem.W.keepIn K (.ref f17) = true)
    (a18 : PySem.W.nsIn K mainGlobals "_law_take" = some (some (.ref f18)))
    (l18 : K.lookup f18 = some ⟨oc18, od18, .func (PySem.W.fnOf "_law_take" "_law_take" (defArgs s_law_take) (defBody s_law_take) (defScope s_law_take) .none kV18 dc18 pm18 an18 cd18 ct18), sl18⟩)
    (c18 : PySem.W.codeIn K cd18 "_law_take" = true)
    (k18 : PySem.W.keepIn K (.ref f18) = true)
    (a19 : PySem.W.nsIn K mainGlobals "_law_mixed" = some (some (.ref f19)))
    (l19 : K.lookup f19 = some ⟨oc19, od19, .func (PySem.W.fnOf "_law_mixed" "_law_mixed" (defArgs s_law_mixed) (defBody s_law_mixed) (defScope s_law_mixed) .none kV19 dc19 pm19 an19 cd19 ct19), sl19⟩)
    (c19 : PySem.W.codeIn K cd19 "_law_mixed" = true)
    (k19 : PySem.W.keepIn K (.ref f19) = true)
    (a20 : PySem.W.nsIn K mainGlobals "_law_same" = some (some (.ref f20)))
    (l20 : K.lookup f20 = some ⟨oc20, od20, .func (PySem.W.fnOf "_law_same" "_law_same" (defArgs s_law_same) (defBody s_law_same) (defScope s_law_same) .none kV20 dc20 pm20 an20 cd20 ct20), sl20⟩)
    (c20 : PySem.W.codeIn K cd20 "_law_same" = true)
    (k20 : PySem.W.keepIn K (.ref f20) = true)
    (a21 : PySem.W.nsIn K mainGlobals "_law_followed" = some (some (.ref f21)))
    (l21 : K.lookup f21 = some ⟨oc21, od21, .func (PySem.W.fnOf "_law_followed" "_law_followed" (defArgs s_law_followed) (defBody s_law_followed) (defScope s_law_followed) .none kV21 dc21 pm21 an21 cd21 ct21), sl21⟩)
    (c21 : PySem.W.codeIn K cd21 "_law_followed" = true)
    (k21 : PySem.W.keepIn K (.ref f21) = true)
    (a22 : PySem.W.nsIn K mainGlobals "_law_from_moves" = some (some (.ref f22)))
    (l22 : K.lookup f22 = some ⟨oc22, od22, .func (PySem.W.fnOf "_law_from_moves" "_law_from_moves" (defArgs s_law_from_moves) (defBody s_law_from_moves) (defScope s_law_from_moves) .none kV22 dc22 pm22 an22 cd22 ct22), sl22⟩)
    (c22 : PySem.W.codeIn K cd22 "_law_from_moves" = true)
    (k22 : PySem.W.keepIn K (.ref f22) = true)
    (a23 : PySem.W.nsIn K mainGlobals "_law_relabelled" = some (some (.ref f23)))
    (l23 : K.lookup f23 = some ⟨oc23, od23, .func (PySem.W.fnOf "_law_relabelled" "_law_relabelled" (defArgs s_law_relabelled) (defBody s_law_relabelled) (defScope s_law_relabelled) .none kV23 dc23 pm23 an23 cd23 ct23), sl23⟩)
    (c23 : PySem.W.codeIn K cd23 "_law_relabelled" = true)
    (k23 : PySem.W.keepIn K (.ref f23) = true)
    (a24 : PySem.W.nsIn K mainGlobals "_law_plain" = some (some (.ref f24)))
    (l24 : K.lookup f24 = some ⟨oc24, od24, .func (PySem.W.fnOf "_law_plain" "_law_plain" (defArgs s_law_plain) (defBody s_law_plain) (defScope s_law_plain) .none kV24 dc24 pm24 an24 cd24 ct24), sl24⟩)
    (c24 : PySem.W.codeIn K cd24 "_law_plain" = true)
    (k24 : PySem.W.keepIn K (.ref f24) = true)
    (a25 : PySem.W.nsIn K mainGlobals "_law_drawn" = some (some (.ref f25)))
    (l25 : K.lookup f25 = some ⟨oc25, od25, .func (PySem.W.fnOf "_law_drawn" "_law_drawn" (defArgs s_law_drawn) (defBody s_law_drawn) (defScope s_law_drawn) .none kV25 dc25 pm25 an25 cd25 ct25), sl25⟩)
    (c25 : PySem.W.codeIn K cd25 "_law_drawn" = true)
    (k25 : PySem.W.keepIn K (.ref f25) = true)
    (a26 : PySem.W.nsIn K mainGlobals "_law_is_int" = some (some (.ref f26)))
    (l26 : K.lookup f26 = some ⟨oc26, od26, .func (PySem.W.fnOf "_law_is_int" "_law_is_int" (defArgs s_law_is_int) (defBody s_law_is_int) (defScope s_law_is_int) .none kV26 dc26 pm26 an26 cd26 ct26), sl26⟩)
    (c26 : PySem.W.codeIn K cd26 "_law_is_int" = true)
    (k26 : PySem.W.keepIn K (.ref f26) = true)
    (a27 : PySem.W.nsIn K mainGlobals "_law_same_object" = some (some (.ref f27)))
    (l27 : K.lookup f27 = some ⟨oc27, od27, .func (PySem.W.fnOf "_law_same_object" "_law_same_object" (defArgs s_law_same_object) (defBody s_law_same_object) (defScope s_law_same_object) .none kV27 dc27 pm27 an27 cd27 ct27), sl27⟩)
    (c27 : PySem.W.codeIn K cd27 "_law_same_object" = true)
    (k27 : PySem.W.keepIn K (.ref f27) = true)
    (a28 : PySem.W.nsIn K mainGlobals "_law_copy" = some (some (.ref f28)))
    (l28 : K.lookup f28 = some ⟨oc28, od28, .func (PySem.W.fnOf "_law_copy" "_law_copy" (defArgs s_law_copy) (defBody s_law_copy) (defScope s_law_copy) .none kV28 dc28 pm28 an28 cd28 ct28), sl28⟩)
    (c28 : PySem.W.codeIn K cd28 "_law_copy" = true)
    (k28 : PySem.W.keepIn K (.ref f28) = true)
    (a29 : PySem.W.nsIn K mainGlobals "_law_refusals_right" = some (some (.ref f29)))
    (l29 : K.lookup f29 = some ⟨oc29, od29, .func (PySem.W.fnOf "_law_refusals_right" "_law_refusals_right" (defArgs s_law_refusals_right) (defBody s_law_refusals_right) (defScope s_law_refusals_right) .none kV29 dc29 pm29 an29 cd29 ct29), sl29⟩)
    (c29 : PySem.W.codeIn K cd29 "_law_refusals_right" = true)
    (k29 : PySem.W.keepIn K (.ref f29) = true)
    (a30 : PySem.W.nsIn K mainGlobals "_law_twice" = some (some (.ref f30)))
    (l30 : K.lookup f30 = some ⟨oc30, od30, .func (PySem.W.fnOf "_law_twice" "_law_twice" (defArgs s_law_twice) (defBody s_law_twice) (defScope s_law_twice) .none kV30 dc30 pm30 an30 cd30 ct30), sl30⟩)
    (c30 : PySem.W.codeIn K cd30 "_law_twice" = true)
    (k30 : PySem.W.keepIn K (.ref f30) = true)
    (a31 : PySem.W.nsIn K mainGlobals "_law_no_tables" = some (some (.ref f31)))
    (l31 : K.lookup f31 = some ⟨oc31, od31, .func (PySem.W.fnOf "_law_no_tables" "_law_no_tables" (defArgs s_law_no_tables) (defBody s_law_no_tables) (defScope s_law_no_tables) .none kV31 dc31 pm31 an31 cd31 ct31), sl31⟩)
    (c31 : PySem.W.codeIn K cd31 "_law_no_tables" = true)
    (k31 : PySem.W.keepIn K (.ref f31) = true)
    (a32 : PySem.W.nsIn K mainGlobals "_law_no_semigroup" = some (some (.ref f32)))
    (l32 : K.lookup f32 = some ⟨oc32, od32, .func (PySem.W.fnOf "_law_no_semigroup" "_law_no_semigroup" (defArgs s_law_no_semigroup) (defBody s_law_no_semigroup) (defScope s_law_no_semigroup) .none kV32 dc32 pm32 an32 cd32 ct32), sl32⟩)
    (c32 : PySem.W.codeIn K cd32 "_law_no_semigroup" = true)
    (k32 : PySem.W.keepIn K (.ref f32) = true)
    (a33 : PySem.W.nsIn K mainGlobals "_law_closing" = some (some (.ref f33)))
    (l33 : K.lookup f33 = some ⟨oc33, od33, .func (PySem.W.fnOf "_law_closing" "_law_closing" (defArgs s_law_closing) (defBody s_law_closing) (defScope s_law_closing) .none kV33 dc33 pm33 an33 cd33 ct33), sl33⟩)
    (c33 : PySem.W.codeIn K cd33 "_law_closing" = true)
    (k33 : PySem.W.keepIn K (.ref f33) = true)
    (a34 : PySem.W.nsIn K mainGlobals "_law_no_lists_of" = some (some (.ref f34)))
    (l34 : K.lookup f34 = some ⟨oc34, od34, .func (PySem.W.fnOf "_law_no_lists_of" "_law_no_lists_of" (defArgs s_law_no_lists_of) (defBody s_law_no_lists_of) (defScope s_law_no_lists_of) .none kV34 dc34 pm34 an34 cd34 ct34), sl34⟩)
    (c34 : PySem.W.codeIn K cd34 "_law_no_lists_of" = true)
    (k34 : PySem.W.keepIn K (.ref f34) = true)
    (a35 : PySem.W.nsIn K mainGlobals "_law_asked" = some (some (.ref f35)))
    (l35 : K.lookup f35 = some ⟨oc35, od35, .func (PySem.W.fnOf "_law_asked" "_law_asked" (defArgs s_law_asked) (defBody s_law_asked) (defScope s_law_asked) .none kV35 dc35 pm35 an35 cd35 ct35), sl35⟩)
    (c35 : PySem.W.codeIn K cd35 "_law_asked" = true)
    (k35 : PySem.W.keepIn K (.ref f35) = true)
    (a36 : PySem.W.nsIn K mainGlobals "_law_lengths" = some (some (.ref f36)))
    (l36 : K.lookup f36 = some ⟨oc36, od36, .func (PySem.W.fnOf "_law_lengths" "_law_lengths" (defArgs s_law_lengths) (defBody s_law_lengths) (defScope s_law_lengths) .none kV36 dc36 pm36 an36 cd36 ct36), sl36⟩)
    (c36 : PySem.W.codeIn K cd36 "_law_lengths" = true)
    (k36 : PySem.W.keepIn K (.ref f36) = true)
    (a37 : PySem.W.nsIn K mainGlobals "_law_list_right" = some (some (.ref f37)))
    (l37 : K.lookup f37 = some ⟨oc37, od37, .func (PySem.W.fnOf "_law_list_right" "_law_list_right" (defArgs s_law_list_right) (defBody s_law_list_right) (defScope s_law_list_right) .none kV37 dc37 pm37 an37 cd37 ct37), sl37⟩)
    (c37 : PySem.W.codeIn K cd37 "_law_list_right" = true)
    (k37 : PySem.W.keepIn K (.ref f37) = true)
    (a38 : PySem.W.nsIn K mainGlobals "law" = some (some (.ref f38)))
    (l38 : K.lookup f38 = some ⟨oc38, od38, .func (PySem.W.fnOf "law" "law" (defArgs s_law) (defBody s_law) (defScope s_law) .none kV38 dc38 pm38 an38 cd38 ct38), sl38⟩)
    (c38 : PySem.W.codeIn K cd38 "law" = true)
    (k38 : PySem.W.keepIn K (.ref f38) = true)
    (gB : PySem.W.nsIn K mainGlobals "SemigroupError" = some (some (.ref cB)))
    (sB1 : PySem.W.specialIn K (.ref cB) "__getattribute__" = some (some (.builtin "type.__getattribute__")))
    (sB2 : PySem.W.readsIn K cB (.type "type") = true)
    (sB3 : PySem.W.findCls K (.ref cB) (.type "type") "__init__" = some (.val (.builtin "ValueError.__init__")))
    (sB4 : PySem.W.subIn K (.ref cB) (.type "BaseException") = some true)
    (sB5 : PySem.W.typeIn K (.ref cB) = some (.type "type"))
    (sB6 : PySem.W.isClsIn K cB = true)
    (hg1 : PySem.W.specialIn K (.builtin "object.__class__") "__get__" = some (some (.builtin "getset_descriptor.__get__")))
    (hg2 : PySem.W.takesIn K (.builtin "object.__class__") = some true)
    (gE0 : PySem.W.nsIn K mainGlobals "InvalidTable" = some (some (.ref cE0)))
    (xE0 : K.lookup cE0 = some (excClassObj nmE0 qE0 cE0 NE0 bsE0 bmE0 true snE0 subE0 abE0 colE0 ddE0 m0E0 m1E0 m2E0 m3E0 m5E0 "ValueError.__new__"))
    (rE0 : PySem.HandSPX.refsVE bmE0 = true)
    (saE0 : PySem.W.findIn K (.ref cE0) "__setattr__" = some (some (.builtin "object.__setattr__")))
    (exE0 : PySem.W.subIn K (.ref cE0) (.type "BaseException") = some true)
    (tyE0 : PySem.W.typeIn K (.ref cE0) = some (.type "type"))
    (kcE0 : PySem.W.keepIn K (.ref cE0) = true)
    (iE_0 : PySem.W.findIn K (.ref cE0) "__init__" = some (some (.ref iE0)))
    (tiE0 : PySem.W.typeIn K (.ref iE0) = some (.type "function"))
    (liE0 : K.lookup iE0 = some ⟨ocE0, odE0, .func (PySem.W.fnOf "__init__" "InvalidTable.__init__" (defArgs si_InvalidTable) (defBody si_InvalidTable) (defScope si_InvalidTable) .none kVE0 dcE0 pmE0 anE0 cdE0 ctE0), slE0⟩)
    (ciE0 : PySem.W.codeIn K cdE0 "InvalidTable.__init__" = true)
    (kiE0 : PySem.W.keepIn K (.ref iE0) = true)
    (xaE0 : PySem.W.findIn K (.ref cE0) "__getattribute__" = some (some (.builtin "BaseException.__getattribute__")))
    (xbE0 : PySem.W.findIn K (.ref cE0) "__getattr__" = some none)
    (hdE0 : PySem.W.hasDictIn K cE0 = true)
    (nfE0 : PySem.W.findIn K (.ref cE0) "given" = some none)
    (icE0 : PySem.W.isClsIn K cE0 = true)
    (haE0 : PySem.W.findIn K (.ref cE0) "__class__" = some (some (.builtin "object.__class__")))
    (hmE0 : PySem.W.mroIn K cE0 (.type "object") = some true)
    (yE0 : PySem.W.kitOne K (.ref cE0) (.ref cB) = some true)
    (zE0 : PySem.W.exmOne K (.ref cE0) (.ref cB) = some true)
    (gE1 : PySem.W.nsIn K mainGlobals "InvalidElements" = some (some (.ref cE1)))
    (xE1 : K.lookup cE1 = some (excClassObj nmE1 qE1 cE1 NE1 bsE1 bmE1 true snE1 subE1 abE1 colE1 ddE1 m0E1 m1E1 m2E1 m3E1 m5E1 "ValueError.__new__"))
    (rE1 : PySem.HandSPX.refsVE bmE1 = true)
    (saE1 : PySem.W.findIn K (.ref cE1) "__setattr__" = some (some (.builtin "object.__setattr__")))
    (exE1 : PySem.W.subIn K (.ref cE1) (.type "BaseException") = some true)
    (tyE1 : PySem.W.typeIn K (.ref cE1) = some (.type "type"))
    (kcE1 : PySem.W.keepIn K (.ref cE1) = true)
    (iE_1 : PySem.W.findIn K (.ref cE1) "__init__" = some (some (.ref iE1)))
    (tiE1 : PySem.W.typeIn K (.ref iE1) = some (.type "function"))
    (liE1 : K.lookup iE1 = some ⟨ocE1, odE1, .func (PySem.W.fnOf "__init__" "InvalidElements.__init__" (defArgs si_InvalidElements) (defBody si_InvalidElements) (defScope si_InvalidElements) .none kVE1 dcE1 pmE1 anE1 cdE1 ctE1), slE1⟩)
    (ciE1 : PySem.W.codeIn K cdE1 "InvalidElements.__init__" = true)
    (kiE1 : PySem.W.keepIn K (.ref iE1) = true)
    (xaE1 : PySem.W.findIn K (.ref cE1) "__getattribute__" = some (some (.builtin "BaseException.__getattribute__")))
    (xbE1 : PySem.W.findIn K (.ref cE1) "__getattr__" = some none)
    (hdE1 : PySem.W.hasDictIn K cE1 = true)
    (nfE1 : PySem.W.findIn K (.ref cE1) "given" = some none)
    (icE1 : PySem.W.isClsIn K cE1 = true)
    (haE1 : PySem.W.findIn K (.ref cE1) "__class__" = some (some (.builtin "object.__class__")))
    (hmE1 : PySem.W.mroIn K cE1 (.type "object") = some true)
    (yE1 : PySem.W.kitOne K (.ref cE1) (.ref cB) = some true)
    (zE1 : PySem.W.exmOne K (.ref cE1) (.ref cB) = some true)
    (q0_0 : PySem.W.exmOne K (.ref cE0) (.ref cE0) = some true)
    (q0_1 : PySem.W.exmOne K (.ref cE0) (.ref cE1) = some false)
    (q1_0 : PySem.W.exmOne K (.ref cE1) (.ref cE0) = some false)
    (q1_1 : PySem.W.exmOne K (.ref cE1) (.ref cE1) = some true)
    (G_MOST_ELEMENTS : PySem.W.nsIn K mainGlobals "MOST_ELEMENTS" = some (some (.int 10 tG_MOST_ELEMENTS)))
    (z_isinstance : PySem.W.nsIn K mainGlobals "isinstance" = some none)
    (z_len : PySem.W.nsIn K mainGlobals "len" = some none)
    (z_all : PySem.W.nsIn K mainGlobals "all" = some none)
    (z_range : PySem.W.nsIn K mainGlobals "range" = some none)
    (z_sorted : PySem.W.nsIn K mainGlobals "sorted" = some none)
    (z_tuple : PySem.W.nsIn K mainGlobals "tuple" = some none)
    (z_int : PySem.W.nsIn K mainGlobals "int" = some none)
    (z_str : PySem.W.nsIn K mainGlobals "str" = some none)
    (z_dict : PySem.W.nsIn K mainGlobals "dict" = some none)
    (z_max : PySem.W.nsIn K mainGlobals "max" = some none)
    (z_list : PySem.W.nsIn K mainGlobals "list" = some none)
    (z_zip : PySem.W.nsIn K mainGlobals "zip" = some none)
    (z_set : PySem.W.nsIn K mainGlobals "set" = some none)
    (z_abs : PySem.W.nsIn K mainGlobals "abs" = some none)
    (z_bool : PySem.W.nsIn K mainGlobals "bool" = some none)
    (z_min : PySem.W.nsIn K mainGlobals "min" = some none)
    (z_sum : PySem.W.nsIn K mainGlobals "sum" = some none)
    : ∃ fd : FuncData, (∀ (s : Shared) (v : Value), BindsTo s fd ⟨[v], []⟩ [("script", v)]) ∧ ∀ base : Heap, K.In base → base.Ns mainGlobals mg → FnOk P w K mg base CX0 13 fa fd ["script"] (spLaw K) := by
  have e := hfa.symm.trans (PySem.W.mg_of X G a38)
  cases e
  have F0 := fun_mk (st := s_is_integer) l0 c0 k0
  have F1 := fun_mk (st := s_is_within) l1 c1 k1
  have F2 := fun_mk (st := s_is_index) l2 c2 k2
  have F3 := fun_mk (st := s_is_list) l3 c3 k3
  have F4 := fun_mk (st := s_is_tuple) l4 c4 k4
  have F5 := fun_mk (st := s_are_elements) l5 c5 k5
  have F6 := fun_mk (st := s_is_table) l6 c6 k6
  have F7 := fun_mk (st := s_is_broken) l7 c7 k7
  have F8 := fun_mk (st := s_broken_with) l8 c8 k8
  have F9 := fun_mk (st := s_is_semigroup) l9 c9 k9
  have F10 := fun_mk (st := s_check_semigroup) l10 c10 k10
  have F11 := fun_mk (st := s_words_of) l11 c11 k11
  have F12 := fun_mk (st := s_closure) l12 c12 k12
  have F13 := fun_mk (st := s_check_elements) l13 c13 k13
  have F14 := fun_mk (st := s_generated) l14 c14 k14
  have F15 := fun_mk (st := s_words_for) l15 c15 k15
  have F16 := fun_mk (st := s_law_cell) l16 c16 k16
  have F17 := fun_mk (st := s_law_box) l17 c17 k17
  have F18 := fun_mk (st := s_law_take) l18 c18 k18
  have F19 := fun_mk (st := s_law_mixed) l19 c19 k19
  have F20 := fun_mk (st := s_law_same) l20 c20 k20
  have F21 := fun_mk (st := s_law_followed) l21 c21 k21
  have F22 := fun_mk (st := s_law_from_moves) l22 c22 k22
  have F23 := fun_mk (st := s_law_relabelled) l23 c23 k23
  have F24 := fun_mk (st := s_law_plain) l24 c24 k24
  have F25 := fun_mk (st := s_law_drawn) l25 c25 k25
  have F26 := fun_mk (st := s_law_is_int) l26 c26 k26
  have F27 := fun_mk (st := s_law_same_object) l27 c27 k27
  have F28 := fun_mk (st := s_law_copy) l28 c28 k28
  have F29 := fun_mk (st := s_law_refusals_right) l29 c29 k29
  have F30 := fun_mk (st := s_law_twice) l30 c30 k30
  have F31 := fun_mk (st := s_law_no_tables) l31 c31 k31
  have F32 := fun_mk (st := s_law_no_semigroup) l32 c32 k32
  have F33 := fun_mk (st := s_law_closing) l33 c33 k33
  have F34 := fun_mk (st := s_law_no_lists_of) l34 c34 k34
  have F35 := fun_mk (st := s_law_asked) l35 c35 k35
  have F36 := fun_mk (st := s_law_lengths) l36 c36 k36
  have F37 := fun_mk (st := s_law_list_right) l37 c37 k37
  have F38 := fun_mk (st := s_law) l38 c38 k38
  have FE0 := fun_mk (st := si_InvalidTable) liE0 ciE0 kiE0
  have FE1 := fun_mk (st := si_InvalidElements) liE1 ciE1 kiE1
  let T : Tx K mg := { f_is_integer := f0, d_is_integer := _, F_is_integer := F0, g_is_integer := PySem.W.mg_of X G a0, b_is_integer := F0.binds (ps := p_is_integer) (fun _ _ _ _ _ _ us hl => match us, hl with | [_], _ => rfl), f_is_within := f1, d_is_within := _, F_is_within := F1, g_is_within := PySem.W.mg_of X G a1, b_is_within := F1.binds (ps := p_is_within) (fun _ _ _ _ _ _ us hl => match us, hl with | [_, _, _], _ => rfl), f_is_index := f2, d_is_index := _, F_is_index := F2, g_is_index := PySem.W.mg_of X G a2, b_is_index := F2.binds (ps := p_is_index) (fun _ _ _ _ _ _ us hl => match us, hl with | [_, _], _ => rfl), f_is_list := f3, d_is_list := _, F_is_list := F3, g_is_list := PySem.W.mg_of X G a3, b_is_list := F3.binds (ps := p_is_list) (fun _ _ _ _ _ _ us hl => match us, hl with | [_], _ => rfl), f_is_tuple := f4, d_is_tuple := _, F_is_tuple := F4, g_is_tuple := PySem.W.mg_of X G a4, b_is_tuple := F4.binds (ps := p_is_tuple) (fun _ _ _ _ _ _ us hl => match us, hl with | [_, _], _ => rfl), f_are_elements := f5, d_are_elements := _, F_are_elements := F5, g_are_elements := PySem.W.mg_of X G a5, b_are_elements := F5.binds (ps := p_are_elements) (fun _ _ _ _ _ _ us hl => match us, hl with | [_, _], _ => rfl), f_is_table := f6, d_is_table := _, F_is_table := F6, g_is_table := PySem.W.mg_of X G a6, b_is_table := F6.binds (ps := p_is_table) (fun _ _ _ _ _ _ us hl => match us, hl with | [_], _ => rfl), f_is_broken := f7, d_is_broken := _, F_is_broken := F7, g_is_broken := PySem.W.mg_of X G a7, b_is_broken := F7.binds (ps := p_is_broken) (fun _ _ _ _ _ _ us hl => match us, hl with | [_, _, _, _], _ => rfl), f_broken_with := f8, d_broken_with := _, F_broken_with := F8, g_broken_with := PySem.W.mg_of X G a8, b_broken_with := F8.binds (ps := p_broken_with) (fun _ _ _ _ _ _ us hl => match us, hl with | [_, _], _ => rfl), f_is_semigroup := f9, d_is_semigroup := _, F_is_semigroup := F9, g_is_semigroup := PySem.W.mg_of X G a9, b_is_semigroup := F9.binds (ps := p_is_semigroup) (fun _ _ _ _ _ _ us hl => match us, hl with | [_], _ => rfl), f_check_semigroup := f10, d_check_semigroup := _, F_check_semigroup := F10, g_check_semigroup := PySem.W.mg_of X G a10, b_check_semigroup := F10.binds (ps := p_check_semigroup) (fun _ _ _ _ _ _ us hl => match us, hl with | [_], _ => rfl), f_words_of := f11, d_words_of := _, F_words_of := F11, g_words_of := PySem.W.mg_of X G a11, b_words_of := F11.binds (ps := p_words_of) (fun _ _ _ _ _ _ us hl => match us, hl with | [_, _], _ => rfl), f_closure := f12, d_closure := _, F_closure := F12, g_closure := PySem.W.mg_of X G a12, b_closure := F12.binds (ps := p_closure) (fun _ _ _ _ _ _ us hl => match us, hl with | [_, _], _ => rfl), f_check_elements := f13, d_check_elements := _, F_check_elements := F13, g_check_elements := PySem.W.mg_of X G a13, b_check_elements := F13.binds (ps := p_check_elements) (fun _ _ _ _ _ _ us hl => match us, hl with | [_, _], _ => rfl), f_generated := f14, d_generated := _, F_generated := F14, g_generated := PySem.W.mg_of X G a14, b_generated := F14.binds (ps := p_generated) (fun _ _ _ _ _ _ us hl => match us, hl with | [_, _], _ => rfl), kb_generated := fun_kbinds F14 (fun _ _ _ _ _ _ us ws hl => by rcases us with _ | ⟨u, us⟩ <;> rcases ws with _ | ⟨u1, _ | ⟨u2, _ | ⟨u3, ws⟩⟩⟩ <;> first | rfl | exact absurd hl (by simp)) (fun h1 h2 => by cases h1 with | cons _ _ => exact .nil | nil => cases h2 with | nil => exact .nil | cons a1 t => cases t with | nil => exact .nil | cons a2 t => cases t with | nil => exact .cons a2 (.cons a1 (.nil)) | cons _ _ => exact .nil), f_words_for := f15, d_words_for := _, F_words_for := F15, g_words_for := PySem.W.mg_of X G a15, b_words_for := F15.binds (ps := p_words_for) (fun _ _ _ _ _ _ us hl => match us, hl with | [_, _], _ => rfl), kb_words_for := fun_kbinds F15 (fun _ _ _ _ _ _ us ws hl => by rcases us with _ | ⟨u, us⟩ <;> rcases ws with _ | ⟨u1, _ | ⟨u2, _ | ⟨u3, ws⟩⟩⟩ <;> first | rfl | exact absurd hl (by simp)) (fun h1 h2 => by cases h1 with | cons _ _ => exact .nil | nil => cases h2 with | nil => exact .nil | cons a1 t => cases t with | nil => exact .nil | cons a2 t => cases t with | nil => exact .cons a2 (.cons a1 (.nil)) | cons _ _ => exact .nil), f_law_cell := f16, d_law_cell := _, F_law_cell := F16, g_law_cell := PySem.W.mg_of X G a16, b_law_cell := F16.binds (ps := p_law_cell) (fun _ _ _ _ _ _ us hl => match us, hl with | [_, _], _ => rfl), f_law_box := f17, d_law_box := _, F_law_box := F17, g_law_box := PySem.W.mg_of X G a17, b_law_box := F17.binds (ps := p_law_box) (fun _ _ _ _ _ _ us hl => match us, hl with | [_], _ => rfl), f_law_take := f18, d_law_take := _, F_law_take := F18, g_law_take := PySem.W.mg_of X G a18, b_law_take := F18.binds (ps := p_law_take) (fun _ _ _ _ _ _ us hl => match us, hl with | [_, _], _ => rfl), f_law_mixed := f19, d_law_mixed := _, F_law_mixed := F19, g_law_mixed := PySem.W.mg_of X G a19, b_law_mixed := F19.binds (ps := p_law_mixed) (fun _ _ _ _ _ _ us hl => match us, hl with | [_, _], _ => rfl), f_law_same := f20, d_law_same := _, F_law_same := F20, g_law_same := PySem.W.mg_of X G a20, b_law_same := F20.binds (ps := p_law_same) (fun _ _ _ _ _ _ us hl => match us, hl with | [_, _], _ => rfl), f_law_followed := f21, d_law_followed := _, F_law_followed := F21, g_law_followed := PySem.W.mg_of X G a21, b_law_followed := F21.binds (ps := p_law_followed) (fun _ _ _ _ _ _ us hl => match us, hl with | [_, _], _ => rfl), f_law_from_moves := f22, d_law_from_moves := _, F_law_from_moves := F22, g_law_from_moves := PySem.W.mg_of X G a22, b_law_from_moves := F22.binds (ps := p_law_from_moves) (fun _ _ _ _ _ _ us hl => match us, hl with | [_, _], _ => rfl), f_law_relabelled := f23, d_law_relabelled := _, F_law_relabelled := F23, g_law_relabelled := PySem.W.mg_of X G a23, b_law_relabelled := F23.binds (ps := p_law_relabelled) (fun _ _ _ _ _ _ us hl => match us, hl with | [_, _], _ => rfl), f_law_plain := f24, d_law_plain := _, F_law_plain := F24, g_law_plain := PySem.W.mg_of X G a24, b_law_plain := F24.binds (ps := p_law_plain) (fun _ _ _ _ _ _ us hl => match us, hl with | [_, _], _ => rfl), f_law_drawn := f25, d_law_drawn := _, F_law_drawn := F25, g_law_drawn := PySem.W.mg_of X G a25, b_law_drawn := F25.binds (ps := p_law_drawn) (fun _ _ _ _ _ _ us hl => match us, hl with | [_, _], _ => rfl), f_law_is_int := f26, d_law_is_int := _, F_law_is_int := F26, g_law_is_int := PySem.W.mg_of X G a26, b_law_is_int := F26.binds (ps := p_law_is_int) (fun _ _ _ _ _ _ us hl => match us, hl with | [_], _ => rfl), f_law_same_object := f27, d_law_same_object := _, F_law_same_object := F27, g_law_same_object := PySem.W.mg_of X G a27, b_law_same_object := F27.binds (ps := p_law_same_object) (fun _ _ _ _ _ _ us hl => match us, hl with | [_, _], _ => rfl), f_law_copy := f28, d_law_copy := _, F_law_copy := F28, g_law_copy := PySem.W.mg_of X G a28, b_law_copy := F28.binds (ps := p_law_copy) (fun _ _ _ _ _ _ us hl => match us, hl with | [_], _ => rfl), f_law_refusals_right := f29, d_law_refusals_right := _, F_law_refusals_right := F29, g_law_refusals_right := PySem.W.mg_of X G a29, b_law_refusals_right := F29.binds (ps := p_law_refusals_right) (fun _ _ _ _ _ _ us hl => match us, hl with | [_, _, _], _ => rfl), f_law_twice := f30, d_law_twice := _, F_law_twice := F30, g_law_twice := PySem.W.mg_of X G a30, b_law_twice := F30.binds (ps := p_law_twice) (fun _ _ _ _ _ _ us hl => match us, hl with | [_, _, _, _], _ => rfl), f_law_no_tables := f31, d_law_no_tables := _, F_law_no_tables := F31, g_law_no_tables := PySem.W.mg_of X G a31, b_law_no_tables := F31.binds (ps := p_law_no_tables) (fun _ _ _ _ _ _ us hl => match us, hl with | [_], _ => rfl), f_law_no_semigroup := f32, d_law_no_semigroup := _, F_law_no_semigroup := F32, g_law_no_semigroup := PySem.W.mg_of X G a32, b_law_no_semigroup := F32.binds (ps := p_law_no_semigroup) (fun _ _ _ _ _ _ us hl => match us, hl with | [_], _ => rfl), f_law_closing := f33, d_law_closing := _, F_law_closing := F33, g_law_closing := PySem.W.mg_of X G a33, b_law_closing := F33.binds (ps := p_law_closing) (fun _ _ _ _ _ _ us hl => match us, hl with | [_, _], _ => rfl), f_law_no_lists_of := f34, d_law_no_lists_of := _, F_law_no_lists_of := F34, g_law_no_lists_of := PySem.W.mg_of X G a34, b_law_no_lists_of := F34.binds (ps := p_law_no_lists_of) (fun _ _ _ _ _ _ us hl => match us, hl with | [_], _ => rfl), f_law_asked := f35, d_law_asked := _, F_law_asked := F35, g_law_asked := PySem.W.mg_of X G a35, b_law_asked := F35.binds (ps := p_law_asked) (fun _ _ _ _ _ _ us hl => match us, hl with | [_, _, _], _ => rfl), f_law_lengths := f36, d_law_lengths := _, F_law_lengths := F36, g_law_lengths := PySem.W.mg_of X G a36, b_law_lengths := F36.binds (ps := p_law_lengths) (fun _ _ _ _ _ _ us hl => match us, hl with | [_, _], _ => rfl), f_law_list_right := f37, d_law_list_right := _, F_law_list_right := F37, g_law_list_right := PySem.W.mg_of X G a37, b_law_list_right := F37.binds (ps := p_law_list_right) (fun _ _ _ _ _ _ us hl => match us, hl with | [_, _, _], _ => rfl), f_law := fa, d_law := _, F_law := F38, g_law := PySem.W.mg_of X G a38, b_law := F38.binds (ps := p_law) (fun _ _ _ _ _ _ us hl => match us, hl with | [_], _ => rfl), c_SemigroupError := cB, gc_SemigroupError := PySem.W.mg_of X G gB, sem := ⟨PySem.W.mg_of X G gB, sB1, sB2, sB3, sB4, sB5, sB6⟩, c_InvalidTable := cE0, gc_InvalidTable := PySem.W.mg_of X G gE0, i_InvalidTable := iE0, di_InvalidTable := _, Fi_InvalidTable := FE0, bi_InvalidTable := FE0.binds (ps := ["self", "given"]) (fun _ _ _ _ _ _ us hl => match us, hl with | [_, _], _ => rfl), e_InvalidTable := { gC := PySem.W.mg_of X G gE0, oe := ⟨⟨_, _, _, _, _, _, _, _, _, _, _, _, _, _, _, xE0, rE0⟩, saE0, exE0, tyE0, kcE0⟩, iC := iE_0, tI := tiE0, xf := ⟨xaE0, xbE0, exE0, hdE0⟩, nf := nfE0, ic := icE0, ha := haE0, hn := hg1, ht := hg2, hm := hmE0 }, x_InvalidTable_SemigroupError := zE0, y_InvalidTable := yE0, c_InvalidElements := cE1, gc_InvalidElements := PySem.W.mg_of X G gE1, i_InvalidElements := iE1, di_InvalidElements := _, Fi_InvalidElements := FE1, bi_InvalidElements := FE1.binds (ps := ["self", "given"]) (fun _ _ _ _ _ _ us hl => match us, hl with | [_, _], _ => rfl), e_InvalidElements := { gC := PySem.W.mg_of X G gE1, oe := ⟨⟨_, _, _, _, _, _, _, _, _, _, _, _, _, _, _, xE1, rE1⟩, saE1, exE1, tyE1, kcE1⟩, iC := iE_1, tI := tiE1, xf := ⟨xaE1, xbE1, exE1, hdE1⟩, nf := nfE1, ic := icE1, ha := haE1, hn := hg1, ht := hg2, hm := hmE1 }, x_InvalidElements_SemigroupError := zE1, y_InvalidElements := yE1, x_InvalidTable_InvalidTable := q0_0, x_InvalidTable_InvalidElements := q0_1, x_InvalidElements_InvalidTable := q1_0, x_InvalidElements_InvalidElements := q1_1, t_MOST_ELEMENTS := tG_MOST_ELEMENTS, gg_MOST_ELEMENTS := PySem.W.mg_of X G G_MOST_ELEMENTS, m_isinstance := PySem.W.mg_none_of X G z_isinstance, m_len := PySem.W.mg_none_of X G z_len, m_all := PySem.W.mg_none_of X G z_all, m_range := PySem.W.mg_none_of X G z_range, m_sorted := PySem.W.mg_none_of X G z_sorted, m_tuple := PySem.W.mg_none_of X G z_tuple, m_int := PySem.W.mg_none_of X G z_int, m_str := PySem.W.mg_none_of X G z_str, m_dict := PySem.W.mg_none_of X G z_dict, m_max := PySem.W.mg_none_of X G z_max, m_list := PySem.W.mg_none_of X G z_list, m_zip := PySem.W.mg_none_of X G z_zip, m_set := PySem.W.mg_none_of X G z_set, m_abs := PySem.W.mg_none_of X G z_abs, m_bool := PySem.W.mg_none_of X G z_bool, m_min := PySem.W.mg_none_of X G z_min, m_sum := PySem.W.mg_none_of X G z_sum }
  exact ⟨_, fun s v => .of_eq rfl, fun base _ _ => ok_law T⟩
end Kx
open PySem PySem.W PyProof.Rows
set_option maxHeartbeats 0 in
theorem PySem.Challenge.cw_semigroupbench_k13_generated_and_words_holds : PySem.Challenge.rw_semigroupbench_k13_generated_and_words.Holds := by
  w_on; o_law; k_head; (case hw => w_witness2)
  k_fill
  refine L2.walk_of (l := PySem.Challenge.rw_semigroupbench_k13_generated_and_words) (n := 63) (k := 13) (x := "script") (CX := fun _ => L2.CX0) (sp := fun w => Kx.spLaw _) rfl (by decide) rfl ⟨rfl, by decide, by decide⟩ (fun w h Y => PySem.W.kIn_of Y) ?F (fun _ _ a ns hl _ hS => ⟨a, ns, rfl, hl, hS, fun _ => rfl⟩) (fun _ _ _ _ _ h => h)
  case F =>
    intro w mg fa h KX G hmg
    refine' Kx.all_mk KX G hmg ?a0 ?l0 ?c0 ?k0 ?a1 ?l1 ?c1 ?k1 ?a2 ?l2 ?c2 ?k2 ?a3 ?l3 ?c3 ?k3 ?a4 ?l4 ?c4 ?k4 ?a5 ?l5 ?c5 ?k5 ?a6 ?l6 ?c6 ?k6 ?a7 ?l7 ?c7 ?k7 ?a8 ?l8 ?c8 ?k8 ?a9 ?l9 ?c9 ?k9 ?a10 ?l10 ?c10 ?k10 ?a11 ?l11 ?c11 ?k11 ?a12 ?l12 ?c12 ?k12 ?a13 ?l13 ?c13 ?k13 ?a14 ?l14 ?c14 ?k14 ?a15 ?l15 ?c15 ?k15 ?a16 ?l16 ?c16 ?k16 ?a17 ?l17 ?c17 ?k17 ?a18 ?l18 ?c18 ?k18 ?a19 ?l19 ?c19 ?k19 ?a20 ?l20 ?c20 ?k20 ?a21 ?l21 ?c21 ?k21 ?a22 ?l22 ?c22 ?k22 ?a23 ?l23 ?c23 ?k23 ?a24 ?l24 ?c24 ?k24 ?a25 ?l25 ?c25 ?k25 ?a26 ?l26 ?c26 ?k26 ?a27 ?l27 ?c27 ?k27 ?a28 ?l28 ?c28 ?k28 ?a29 ?l29 ?c29 ?k29 ?a30 ?l30 ?c30 ?k30 ?a31 ?l31 ?c31 ?k31 ?a32 ?l32 ?c32 ?k32 ?a33 ?l33 ?c33 ?k33 ?a34 ?l34 ?c34 ?k34 ?a35 ?l35 ?c35 ?k35 ?a36 ?l36 ?c36 ?k36 ?a37 ?l37 ?c37 ?k37 ?a38 ?l38 ?c38 ?k38 ?gB ?sB1 ?sB2 ?sB3 ?sB4 ?sB5 ?sB6 ?hg1 ?hg2 ?gE0 ?xE0 ?rE0 ?saE0 ?exE0 ?tyE0 ?kcE0 ?iE_0 ?tiE0 ?liE0 ?ciE0 ?kiE0 ?xaE0 ?xbE0 ?hdE0 ?nfE0 ?icE0 ?haE0 ?hmE0 ?yE0 ?zE0 ?gE1 ?xE1 ?rE1 ?saE1 ?exE1 ?tyE1 ?kcE1 ?iE_1 ?tiE1 ?liE1 ?ciE1 ?kiE1 ?xaE1 ?xbE1 ?hdE1 ?nfE1 ?icE1 ?haE1 ?hmE1 ?yE1 ?zE1 ?q0_0 ?q0_1 ?q1_0 ?q1_1 ?G_MOST_ELEMENTS ?z_isinstance ?z_len ?z_all ?z_range ?z_sorted ?z_tuple ?z_int ?z_str ?z_dict ?z_max ?z_list ?z_zip ?z_set ?z_abs ?z_bool ?z_min ?z_sum
    (case a0 => first | k_is | rfl)
    (case l0 => first | k_is | rfl)
    (case c0 => first | k_is | rfl)
    (case k0 => first | k_is | rfl)
    (case a1 => first | k_is | rfl)
    (case l1 => first | k_is | rfl)
    (case c1 => first | k_is | rfl)
    (case k1 => first | k_is | rfl)
    (case a2 => first | k_is | rfl)
    (case l2 => first | k_is | rfl)
    (case c2 => first | k_is | rfl)
    (case k2 => first | k_is | rfl)
    (case a3 => first | k_is | rfl)
    (case l3 => first | k_is | rfl)
    (case c3 => first | k_is | rfl)
    (case k3 => first | k_is | rfl)
    (case a4 => first | k_is | rfl)
    (case l4 => first | k_is | rfl)
    (case c4 => first | k_is | rfl)
    (case k4 => first | k_is | rfl)
    (case a5 => first | k_is | rfl)
    (case l5 => first | k_is | rfl)
    (case c5 => first | k_is | rfl)
    (case k5 => first | k_is | rfl)
    (case a6 => first | k_is | rfl)
    (case l6 => first | k_is | rfl)
    (case c6 => first | k_is | rfl)
    (case k6 => first | k_is | rfl)
    (case a7 => first | k_is | rfl)
    (case l7 => first | k_is | rfl)
    (case c7 => first | k_is | rfl)
    (case k7 => first | k_is | rfl)
    (case a8 => first | k_is | rfl)
    (case l8 => first | k_is | rfl)
    (case c8 => first | k_is | rfl)
    (case k8 => first | k_is | rfl)
    (case a9 => first | k_is | rfl)
    (case l9 => first | k_is | rfl)
    (case c9 => first | k_is | rfl)
    (case k9 => first | k_is | rfl)
    (case a10 => first | k_is | rfl)
    (case l10 => first | k_is | rfl)
    (case c10 => first | k_is | rfl)
    (case k10 => first | k_is | rfl)
    (case a11 => first | k_is | rfl)
    (case l11 => first | k_is | rfl)
    (case c11 => first | k_is | rfl)
    (case k11 => first | k_is | rfl)
    (case a12 => first | k_is | rfl)
    (case l12 => first | k_is | rfl)
    (case c12 => first | k_is | rfl)
    (case k12 => first | k_is | rfl)
    (case a13 => first | k_is | rfl)
    (case l13 => first | k_is | rfl)
    (case c13 => first | k_is | rfl)
    (case k13 => first | k_is | rfl)
    (case a14 => first | k_is | rfl)
    (case l14 => first | k_is | rfl)
    (case c14 => first | k_is | rfl)
    (case k14 => first | k_is | rfl)
    (case a15 => first | k_is | rfl)
    (case l15 => first | k_is | rfl)
    (case c15 => first | k_is | rfl)
    (case k15 => first | k_is | rfl)
    (case a16 => first | k_is | rfl)
    (case l16 => first | k_is | rfl)
    (case c16 => first | k_is | rfl)
    (case k16 => first | k_is | rfl)
    (case a17 => first | k_is | rfl)
    (case l17 => first | k_is | rfl)
    (case c17 => first | k_is | rfl)
    (case k17 => first | k_is | rfl)
    (case a18 => first | k_is | rfl)
    (case l18 => first | k_is | rfl)
    (case c18 => first | k_is | rfl)
    (case k18 => first | k_is | rfl)
    (case a19 => first | k_is | rfl)
    (case l19 => first | k_is | rfl)
    (case c19 => first | k_is | rfl)
    (case k19 => first | k_is | rfl)
    (case a20 => first | k_is | rfl)
    (case l20 => first | k_is | rfl)
    (case c20 => first | k_is | rfl)
    (case k20 => first | k_is | rfl)
    (case a21 => first | k_is | rfl)
    (case l21 => first | k_is | rfl)
    (case c21 => first | k_is | rfl)
    (case k21 => first | k_is | rfl)
    (case a22 => first | k_is | rfl)
    (case l22 => first | k_is | rfl)
    (case c22 => first | k_is | rfl)
    (case k22 => first | k_is | rfl)
    (case a23 => first | k_is | rfl)
    (case l23 => first | k_is | rfl)
    (case c23 => first | k_is | rfl)
    (case k23 => first | k_is | rfl)
    (case a24 => first | k_is | rfl)
    (case l24 => first | k_is | rfl)
    (case c24 => first | k_is | rfl)
    (case k24 => first | k_is | rfl)
    (case a25 => first | k_is | rfl)
    (case l25 => first | k_is | rfl)
    (case c25 => first | k_is | rfl)
    (case k25 => first | k_is | rfl)
    (case a26 => first | k_is | rfl)
    (case l26 => first | k_is | rfl)
    (case c26 => first | k_is | rfl)
    (case k26 => first | k_is | rfl)
    (case a27 => first | k_is | rfl)
    (case l27 => first | k_is | rfl)
    (case c27 => first | k_is | rfl)
    (case k27 => first | k_is | rfl)
    (case a28 => first | k_is | rfl)
    (case l28 => first | k_is | rfl)
    (case c28 => first | k_is | rfl)
    (case k28 => first | k_is | rfl)
    (case a29 => first | k_is | rfl)
    (case l29 => first | k_is | rfl)
    (case c29 => first | k_is | rfl)
    (case k29 => first | k_is | rfl)
    (case a30 => first | k_is | rfl)
    (case l30 => first | k_is | rfl)
    (case c30 => first | k_is | rfl)
    (case k30 => first | k_is | rfl)
    (case a31 => first | k_is | rfl)
    (case l31 => first | k_is | rfl)
    (case c31 => first | k_is | rfl)
    (case k31 => first | k_is | rfl)
    (case a32 => first | k_is | rfl)
    (case l32 => first | k_is | rfl)
    (case c32 => first | k_is | rfl)
    (case k32 => first | k_is | rfl)
    (case a33 => first | k_is | rfl)
    (case l33 => first | k_is | rfl)
    (case c33 => first | k_is | rfl)
    (case k33 => first | k_is | rfl)
    (case a34 => first | k_is | rfl)
    (case l34 => first | k_is | rfl)
    (case c34 => first | k_is | rfl)
    (case k34 => first | k_is | rfl)
    (case a35 => first | k_is | rfl)
    (case l35 => first | k_is | rfl)
    (case c35 => first | k_is | rfl)
    (case k35 => first | k_is | rfl)
    (case a36 => first | k_is | rfl)
    (case l36 => first | k_is | rfl)
    (case c36 => first | k_is | rfl)
    (case k36 => first | k_is | rfl)
    (case a37 => first | k_is | rfl)
    (case l37 => first | k_is | rfl)
    (case c37 => first | k_is | rfl)
    (case k37 => first | k_is | rfl)
    (case a38 => first | k_is | rfl)
    (case l38 => first | k_is | rfl)
    (case c38 => first | k_is | rfl)
    (case k38 => first | k_is | rfl)
    (case gB => first | k_is | rfl)
    (case sB1 => first | k_is | rfl)
    (case sB2 => first | k_is | rfl)
    (case sB3 => first | k_is | rfl)
    (case sB4 => first | k_is | rfl)
    (case sB5 => first | k_is | rfl)
    (case sB6 => first | k_is | rfl)
    (case hg1 => first | k_is | rfl)
    (case hg2 => first | k_is | rfl)
    (case gE0 => first | k_is | rfl)
    (case xE0 => first | k_is | rfl)
    (case rE0 => first | k_is | rfl)
    (case saE0 => first | k_is | rfl)
    (case exE0 => first | k_is | rfl)
    (case tyE0 => first | k_is | rfl)
    (case kcE0 => first | k_is | rfl)
    (case iE_0 => first | k_is | rfl)
    (case tiE0 => first | k_is | rfl)
    (case liE0 => first | k_is | rfl)
    (case ciE0 => first | k_is | rfl)
    (case kiE0 => first | k_is | rfl)
    (case xaE0 => first | k_is | rfl)
    (case xbE0 => first | k_is | rfl)
    (case hdE0 => first | k_is | rfl)
    (case nfE0 => first | k_is | rfl)
    (case icE0 => first | k_is | rfl)
    (case haE0 => first | k_is | rfl)
    (case hmE0 => first | k_is | rfl)
    (case yE0 => first | k_is | rfl)
    (case zE0 => first | k_is | rfl)
    (case gE1 => first | k_is | rfl)
    (case xE1 => first | k_is | rfl)
    (case rE1 => first | k_is | rfl)
    (case saE1 => first | k_is | rfl)
    (case exE1 => first | k_is | rfl)
    (case tyE1 => first | k_is | rfl)
    (case kcE1 => first | k_is | rfl)
    (case iE_1 => first | k_is | rfl)
    (case tiE1 => first | k_is | rfl)
    (case liE1 => first | k_is | rfl)
    (case ciE1 => first | k_is | rfl)
    (case kiE1 => first | k_is | rfl)
    (case xaE1 => first | k_is | rfl)
    (case xbE1 => first | k_is | rfl)
    (case hdE1 => first | k_is | rfl)
    (case nfE1 => first | k_is | rfl)
    (case icE1 => first | k_is | rfl)
    (case haE1 => first | k_is | rfl)
    (case hmE1 => first | k_is | rfl)
    (case yE1 => first | k_is | rfl)
    (case zE1 => first | k_is | rfl)
    (case q0_0 => first | k_is | rfl)
    (case q0_1 => first | k_is | rfl)
    (case q1_0 => first | k_is | rfl)
    (case q1_1 => first | k_is | rfl)
    (case G_MOST_ELEMENTS => first | k_is | rfl)
    (case z_isinstance => first | k_is | rfl)
    (case z_len => first | k_is | rfl)
    (case z_all => first | k_is | rfl)
    (case z_range => first | k_is | rfl)
    (case z_sorted => first | k_is | rfl)
    (case z_tuple => first | k_is | rfl)
    (case z_int => first | k_is | rfl)
    (case z_str => first | k_is | rfl)
    (case z_dict => first | k_is | rfl)
    (case z_max => first | k_is | rfl)
    (case z_list => first | k_is | rfl)
    (case z_zip => first | k_is | rfl)
    (case z_set => first | k_is | rfl)
    (case z_abs => first | k_is | rfl)
    (case z_bool => first | k_is | rfl)
    (case z_min => first | k_is | rfl)
    (case z_sum => first | k_is | rfl)

