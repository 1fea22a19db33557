import PyProof.Rows.All
import Wide.All
import OpenK.AllK
import Wide.FinOn
import HandS.ForMost
import HandS.IsInst
import HandS.TupAny
import HandS.Exc
import HandS.WordsExc
import HandS.ExcOwn
import HandS.Gcd
import HandS.Text
import HandS.Iter
import HandS.Records
import HandS.DictComp
import HandS.More
import HandS.ExcInit
import HandS.ExcField
import HandS.ExcSuper
import HandS.Nested
import HandS.ClsMeth
import KE.KExcSuper
import HandS.TryMany
import HandS.TryOnly
import HandS.SetFor
import HandS.SetTxt0
import HandS.TupSets
import HandS.ExcIs
import PySem.Challenge.RW_turnedpages_k05_parts_of_stories
set_option Elab.async false
set_option linter.all false
set_option maxRecDepth 100000
set_option maxHeartbeats 1000000
/-! DL1: values as trees, what they are in the abstract heap, a def's names as slots. -/
namespace DL
open PySem PySem.Spec L2

/-- a value as a tree -/
inductive D where
  | non | bl (b : Bool) | int (i : Int) | str (x : Str)
  | tup (l : List D) | lst (l : List D) | fro (l : List D)
  | dct (kvs : List (Key × D)) | tok | raw (v : V)
  /-- a caught exception: its object, its dict, its fields -/
  | exc (a dd : Addr) (kvs : List (Key × D))

/-- a text as texts are here: code points, a length within the line -/
def SOk (x : Str) : Prop := PyData.strOk x = true ∧ x.length ≤ sizeLine
/-- an exception's fields as keys -/
def xdK (fs : List (Str × V)) : List (Key × V) := fs.map fun p => (.inr p.1, p.2)
section
variable (K : PySem.W.Frag) (tk : Option Addr) (H : Hp)
mutual
inductive Den : V → D → Prop
  | non : Den .non .non
  | bl (b : Bool) : Den (.bl b) (.bl b)
  | int (i : Int) : Den (.int i) (.int i)
  | str {x : Str} : SOk x → Den (.str x) (.str x)
  | tup {a : Addr} {xs : List V} {ds : List D} : SqT K H a xs → DenAll xs ds → Den (.ref a) (.tup ds)
  | lst {a : Addr} {xs : List V} {ds : List D} : H a = some (.lst xs) → DenAll xs ds → Den (.ref a) (.lst ds)
  | fro {a : Addr} {xs : List V} {ds : List D} : SqL K H a xs → DenAll xs ds → Den (.ref a) (.fro ds)
  | dct {a : Addr} {kvs : List (Key × V)} {kds : List (Key × D)} : H a = some (.dK kvs) → DenKs kvs kds → Den (.ref a) (.dct kds)
  | tok {a : Addr} : tk = some a → Den (.ref a) .tok
  | raw (v : V) : Den v (.raw v)
  | exc {a dd : Addr} {fs : List (Str × V)} {kds : List (Key × D)} : H dd = some (.xd fs) → DenKs (xdK fs) kds → Den (.ref a) (.exc a dd kds)
inductive DenAll : List V → List D → Prop
  | nil : DenAll [] []
  | cons {v : V} {vs : List V} {d : D} {ds : List D} : Den v d → DenAll vs ds → DenAll (v :: vs) (d :: ds)
inductive DenKs : List (Key × V) → List (Key × D) → Prop
  | nil : DenKs [] []
  | cons {k : Key} {v : V} {kvs : List (Key × V)} {d : D} {kds : List (Key × D)} : Den v d → DenKs kvs kds → DenKs ((k, v) :: kvs) ((k, d) :: kds)
end
end

section
variable {K : PySem.W.Frag} {tk : Option Addr} {H H' : Hp}
theorem Same.sqT {a : Addr} {xs : List V} (e : Same H H') (h : SqT K H a xs) : SqT K H' a xs := by
  rcases h with (h | ⟨o, h⟩) | h
  · exact .inl (.inl (e _ _ h))
  · exact .inl (.inr ⟨o, e _ _ h⟩)
  · exact .inr h
mutual
theorem Den.mono (e : Same H H') : ∀ {v : V} {d : D}, Den K tk H v d → Den K tk H' v d
  | _, _, .non => .non
  | _, _, .bl b => .bl b
  | _, _, .int i => .int i
  | _, _, .str h => .str h
  | _, _, .tup h a => .tup (Same.sqT e h) (DenAll.mono e a)
  | _, _, .lst h a => .lst (e _ _ h) (DenAll.mono e a)
  | _, _, .fro h a => .fro (e.seq h) (DenAll.mono e a)
  | _, _, .dct h a => .dct (e _ _ h) (DenKs.mono e a)
  | _, _, .tok h => .tok h
  | _, _, .raw v => .raw v
  | _, _, .exc h a => .exc (e _ _ h) (DenKs.mono e a)
theorem DenAll.mono (e : Same H H') : ∀ {vs : List V} {ds : List D}, DenAll K tk H vs ds → DenAll K tk H' vs ds
  | _, _, .nil => .nil
  | _, _, .cons h a => .cons (Den.mono e h) (DenAll.mono e a)
theorem DenKs.mono (e : Same H H') : ∀ {vs : List (Key × V)} {ds : List (Key × D)}, DenKs K tk H vs ds → DenKs K tk H' vs ds
  | _, _, .nil => .nil
  | _, _, .cons h a => .cons (Den.mono e h) (DenKs.mono e a)
end
theorem DenAll.length : ∀ {vs : List V} {ds : List D}, DenAll K tk H vs ds → vs.length = ds.length
  | _, _, .nil => rfl
  | _, _, .cons _ a => congrArg (· + 1) (DenAll.length a)
theorem DenAll.get : ∀ {vs : List V} {ds : List D} {i : Nat} {d : D}, DenAll K tk H vs ds → ds[i]? = some d → ∃ v, vs[i]? = some v ∧ Den K tk H v d
  | _, _, _, _, .nil, e => by simp at e
  | _, _, 0, _, .cons h _, e => by simp at e; subst e; exact ⟨_, rfl, h⟩
  | _, _, i + 1, _, .cons _ a, e => by
    obtain ⟨v, h1, h2⟩ := DenAll.get (i := i) a (by simpa using e)
    exact ⟨v, by simpa using h1, h2⟩
theorem DenAll.getV : ∀ {vs : List V} {ds : List D} {i : Nat} {v : V}, DenAll K tk H vs ds → vs[i]? = some v → ∃ d, ds[i]? = some d ∧ Den K tk H v d
  | _, _, _, _, .nil, e => by simp at e
  | _, _, 0, _, .cons h _, e => by simp at e; subst e; exact ⟨_, rfl, h⟩
  | _, _, i + 1, _, .cons _ a, e => by
    obtain ⟨v, h1, h2⟩ := DenAll.getV (i := i) a (by simpa using e)
    exact ⟨v, by simpa using h1, h2⟩
theorem DenAll.append : ∀ {vs ws : List V} {ds es : List D}, DenAll K tk H vs ds → DenAll K tk H ws es → DenAll K tk H (vs ++ ws) (ds ++ es)
  | _, _, _, _, .nil, b => b
  | _, _, _, _, .cons h a, b => .cons h (DenAll.append a b)
theorem DenAll.take : ∀ {vs : List V} {ds : List D} (n : Nat), DenAll K tk H vs ds → DenAll K tk H (vs.take n) (ds.take n)
  | _, _, 0, _ => .nil
  | _, _, _ + 1, .nil => .nil
  | _, _, n + 1, .cons h a => .cons h (DenAll.take n a)
theorem DenAll.drop : ∀ {vs : List V} {ds : List D} (n : Nat), DenAll K tk H vs ds → DenAll K tk H (vs.drop n) (ds.drop n)
  | _, _, 0, a => a
  | _, _, _ + 1, .nil => .nil
  | _, _, n + 1, .cons _ a => DenAll.drop n a
theorem DenAll.set {v : V} {d : D} (r : Den K tk H v d) : ∀ {vs : List V} {ds : List D} (i : Nat), DenAll K tk H vs ds → DenAll K tk H (vs.set i v) (ds.set i d)
  | _, _, _, .nil => .nil
  | _, _, 0, .cons _ a => .cons r a
  | _, _, i + 1, .cons h a => .cons h (DenAll.set r i a)
theorem DenAll.dropLast {vs : List V} {ds : List D} (h : DenAll K tk H vs ds) : DenAll K tk H vs.dropLast ds.dropLast := by
  rw [List.dropLast_eq_take, List.dropLast_eq_take, h.length]
  exact h.take _
theorem DenAll.rep {vs : List V} {ds : List D} (h : DenAll K tk H vs ds) : ∀ k : Nat, DenAll K tk H (List.replicate k vs).flatten (List.replicate k ds).flatten
  | 0 => .nil
  | k + 1 => by
    rw [List.replicate_succ, List.replicate_succ, List.flatten_cons, List.flatten_cons]
    exact h.append (DenAll.rep h k)
theorem DenAll.reverse {vs : List V} {ds : List D} (h : DenAll K tk H vs ds) : DenAll K tk H vs.reverse ds.reverse := by
  induction h using DenAll.rec (motive_1 := fun _ _ _ => True) (motive_3 := fun _ _ _ => True) <;> try trivial
  · exact .nil
  · rename_i h1 _ _ ih
    rw [List.reverse_cons, List.reverse_cons]
    exact ih.append (.cons h1 .nil)
theorem DenAll.ints : ∀ {vs : List V} {ns : List Int}, DenAll K tk H vs (ns.map D.int) → vs = ns.map V.int
  | _, [], .nil => rfl
  | _, n :: ns, .cons h a => by
    cases h
    exact congrArg (V.int n :: ·) (DenAll.ints a)
theorem DenAll.bls : ∀ {vs : List V} {ns : List Bool}, DenAll K tk H vs (ns.map D.bl) → vs = ns.map V.bl
  | _, [], .nil => rfl
  | _, n :: ns, .cons h a => by
    cases h
    exact congrArg (V.bl n :: ·) (DenAll.bls a)
theorem DenAll.strs : ∀ {vs : List V} {ns : List Str}, DenAll K tk H vs (ns.map D.str) → vs = ns.map V.str
  | _, [], .nil => rfl
  | _, n :: ns, .cons h a => by
    cases h
    exact congrArg (V.str n :: ·) (DenAll.strs a)
theorem DenAll.of_ints : ∀ ns : List Int, DenAll K tk H (ns.map V.int) (ns.map D.int)
  | [] => .nil
  | n :: ns => .cons (.int n) (DenAll.of_ints ns)
theorem DenAll.of_strs : ∀ ns : List Str, (∀ x ∈ ns, SOk x) → DenAll K tk H (ns.map V.str) (ns.map D.str)
  | [], _ => .nil
  | n :: ns, h => .cons (.str (h n (by simp))) (DenAll.of_strs ns fun x hx => h x (by simp [hx]))
theorem DenKs.length : ∀ {vs : List (Key × V)} {ds : List (Key × D)}, DenKs K tk H vs ds → vs.length = ds.length
  | _, _, .nil => rfl
  | _, _, .cons _ a => congrArg (· + 1) (DenKs.length a)
theorem DenKs.keys : ∀ {vs : List (Key × V)} {ds : List (Key × D)}, DenKs K tk H vs ds → vs.map (·.1) = ds.map (·.1)
  | _, _, .nil => rfl
  | _, _, .cons _ a => by
    rw [List.map_cons, List.map_cons, DenKs.keys a]
end

/-! ### a state's object, known by its token alone -/
structure SK where
  J : Addr → List Addr → Hp → Hp → Prop
  mono : ∀ {a fp Hs Hs' H H'}, J a fp Hs H → Same Hs Hs' → (∀ b ∈ fp, H' b = H b) → J a fp Hs' H'
  live : ∀ {a fp Hs H}, J a fp Hs H → ∀ b ∈ fp, ∃ o, H b = some o
/-- the entry of a def: the state, the stable heap, the heap -/
structure Bs where
  st : Option (Addr × List Addr)
  Hs : Hp
  H : Hp
def Bs.fp (B : Bs) : List Addr := match B.st with
  | none => []
  | some p => p.2
def Bs.tk (B : Bs) : Option Addr := B.st.map (·.1)
def SK.ok (S : SK) (B : Bs) (Hs H : Hp) : Prop := match B.st with
  | none => True
  | some p => S.J p.1 p.2 Hs H
theorem SK.ok.mono {S : SK} {B : Bs} {Hs Hs' H H' : Hp} (h : S.ok B Hs H) (e : Same Hs Hs') (k : ∀ b ∈ B.fp, H' b = H b) : S.ok B Hs' H' := by
  unfold SK.ok Bs.fp at *
  cases hs : B.st with
  | none => trivial
  | some p => rw [hs] at h k; exact S.mono h e k
theorem SK.ok.live {S : SK} {B : Bs} {Hs H : Hp} (h : S.ok B Hs H) : ∀ b ∈ B.fp, ∃ o, H b = some o := by
  unfold SK.ok Bs.fp at *
  cases hs : B.st with
  | none => intro b hb; simp at hb
  | some p => rw [hs] at h; exact S.live h

/-- what a name or a result holds: a stable value, or a list, a dict that nothing else knows -/
inductive BxC where
  | lf (d : D) | ls (p : Addr) (l : List D) | dc (p : Addr) (kds : List (Key × D))
/-- val, lst, dct; bx: a list (or a dict of these keys) at p, some of whose items are lists, dicts that nothing else knows -/
inductive R where
  | val (d : D) | lst (l : List D) | dct (kds : List (Key × D)) | bx (p : Addr) (ks : Option (List Key)) (ts : List BxC)
def BxC.d : BxC → D
  | .lf d => d
  | .ls _ l => .lst l
  | .dc _ l => .dct l
def BxC.ad : BxC → List Addr
  | .lf _ => []
  | .ls p _ => [p]
  | .dc p _ => [p]
def bxd : Option (List Key) → List D → D
  | none, l => .lst l
  | some ks, l => .dct (ks.zip l)
def R.d : R → D
  | .val d => d
  | .lst l => .lst l
  | .dct l => .dct l
  | .bx _ ks ts => bxd ks (ts.map BxC.d)
/-- as read in place (a box is not) -/
def R.s : R → D
  | .val d => d
  | .lst l => .lst l
  | .dct l => .dct l
  | .bx _ _ _ => .non
def bxo : Option (List Key) → List V → HO
  | none, vs => .lst vs
  | some ks, vs => .dK (ks.zip vs)
abbrev Nv := List (Option R)

section
variable (K : PySem.W.Frag) (tk : Option Addr) (Hs H : Hp)
inductive OwnI : BxC → V → Prop
  | lf {v : V} {d : D} : Den K tk Hs v d → OwnI (.lf d) v
  | ls {p : Addr} {vs : List V} {l : List D} : H p = some (.lst vs) → DenAll K tk Hs vs l → OwnI (.ls p l) (.ref p)
  | dc {p : Addr} {kvs : List (Key × V)} {kds : List (Key × D)} : H p = some (.dK kvs) → DenKs K tk Hs kvs kds → OwnI (.dc p kds) (.ref p)
abbrev BxS : List BxC → List V → Prop := Paired (OwnI K tk Hs H)
def adS (ts : List BxC) : List Addr := (ts.map BxC.ad).flatten
/-- one slot, with the addresses that it owns -/
inductive Own : R → V → List Addr → Prop
  | val {v : V} {d : D} : Den K tk Hs v d → Own (.val d) v []
  | lst {p : Addr} {vs : List V} {l : List D} : H p = some (.lst vs) → DenAll K tk Hs vs l → Own (.lst l) (.ref p) [p]
  | dct {p : Addr} {kvs : List (Key × V)} {kds : List (Key × D)} : H p = some (.dK kvs) → DenKs K tk Hs kvs kds → Own (.dct kds) (.ref p) [p]
  | bx {p : Addr} {ks : Option (List Key)} {vs : List V} {ts : List BxC} : H p = some (bxo ks vs) → BxS K tk Hs H ts vs → (∀ l, ks = some l → l.length = ts.length) → Own (.bx p ks ts) (.ref p) (p :: adS ts)
inductive Slots : Nv → L2.St → List Addr → Prop
  | nil : Slots [] [] []
  | un {o : Option V} {Γ : Nv} {σ : L2.St} {ps : List Addr} : Slots Γ σ ps → Slots (none :: Γ) (o :: σ) ps
  | cons {r : R} {v : V} {Γ : Nv} {σ : L2.St} {q ps : List Addr} : Own K tk Hs H r v q → Slots Γ σ ps → Slots (some r :: Γ) (some v :: σ) (q ++ ps)
end

section
variable {K : PySem.W.Frag} {tk : Option Addr} {Hs Hs' H H' : Hp}
theorem BxS.mono : ∀ {ts : List BxC} {vs : List V}, BxS K tk Hs H ts vs → Same Hs Hs' → (∀ b ∈ adS ts, H' b = H b) → BxS K tk Hs' H' ts vs
  | _, _, .nil, _, _ => .nil
  | _, _, .cons h a, e, k => .cons (by
      cases h with
      | lf h => exact .lf (h.mono e)
      | ls h d => exact .ls ((k _ (by simp [adS, BxC.ad])).trans h) (d.mono e)
      | dc h d => exact .dc ((k _ (by simp [adS, BxC.ad])).trans h) (d.mono e)) (BxS.mono a e fun b hb => k b (by simp [adS] at hb ⊢; exact .inr hb))
theorem BxS.live : ∀ {ts : List BxC} {vs : List V}, BxS K tk Hs H ts vs → ∀ b ∈ adS ts, ∃ o, H b = some o
  | _, _, .nil => fun b hb => by simp [adS] at hb
  | _, _, .cons h a => fun b hb => by
      unfold adS at hb
      rw [List.map_cons, List.flatten_cons] at hb
      rcases List.mem_append.mp hb with z | z
      · cases h with
        | lf h => simp [BxC.ad] at z
        | ls h d => simp [BxC.ad] at z; subst z; exact ⟨_, h⟩
        | dc h d => simp [BxC.ad] at z; subst z; exact ⟨_, h⟩
      · exact BxS.live a b z
theorem Own.mono {r : R} {v : V} {q : List Addr} (h : Own K tk Hs H r v q) (e : Same Hs Hs') (k : ∀ b ∈ q, H' b = H b) : Own K tk Hs' H' r v q := by
  cases h with
  | val h => exact .val (h.mono e)
  | lst h a => exact .lst ((k _ (by simp)).trans h) (a.mono e)
  | dct h a => exact .dct ((k _ (by simp)).trans h) (a.mono e)
  | bx h a z => exact .bx ((k _ (by simp)).trans h) (BxS.mono a e fun b hb => k b (by simp [hb])) z
theorem Slots.mono : ∀ {Γ : Nv} {σ : L2.St} {ps : List Addr}, Slots K tk Hs H Γ σ ps → Same Hs Hs' → (∀ b ∈ ps, H' b = H b) → Slots K tk Hs' H' Γ σ ps
  | _, _, _, .nil, _, _ => .nil
  | _, _, _, .un a, e, k => .un (Slots.mono a e k)
  | _, _, _, .cons h a, e, k => .cons (h.mono e fun b hb => k b (List.mem_append_left _ hb)) (Slots.mono a e fun b hb => k b (List.mem_append_right _ hb))
theorem Own.live {r : R} {v : V} {q : List Addr} (h : Own K tk Hs H r v q) : ∀ b ∈ q, ∃ o, H b = some o := by
  cases h with
  | val h => intro b hb; simp at hb
  | lst h a => intro b hb; simp at hb; subst hb; exact ⟨_, h⟩
  | dct h a => intro b hb; simp at hb; subst hb; exact ⟨_, h⟩
  | bx h a z =>
    intro b hb
    rcases List.mem_cons.mp hb with e | e
    · subst e; exact ⟨_, h⟩
    · exact BxS.live a b e
theorem Slots.live : ∀ {Γ : Nv} {σ : L2.St} {ps : List Addr}, Slots K tk Hs H Γ σ ps → ∀ b ∈ ps, ∃ o, H b = some o
  | _, _, _, .nil => fun b hb => by simp at hb
  | _, _, _, .un a => Slots.live a
  | _, _, _, .cons h a => fun b hb => (List.mem_append.mp hb).elim (h.live b) (Slots.live a b)
theorem Slots.length : ∀ {Γ : Nv} {σ : L2.St} {ps : List Addr}, Slots K tk Hs H Γ σ ps → σ.length = Γ.length
  | _, _, _, .nil => rfl
  | _, _, _, .un a => congrArg (· + 1) (Slots.length a)
  | _, _, _, .cons _ a => congrArg (· + 1) (Slots.length a)
/-- one slot taken out: its own addresses q, the rest; put back with anything that owns q' -/
theorem Slots.at : ∀ {Γ : Nv} {σ : L2.St} {ps : List Addr} {i : Nat} {r : R}, Slots K tk Hs H Γ σ ps → Γ[i]? = some (some r) →
    ∃ v q p1 p2, σ[i]? = some (some v) ∧ ps = p1 ++ q ++ p2 ∧ Own K tk Hs H r v q ∧
      ∀ {Hs' H' : Hp}, Same Hs Hs' → (∀ b ∈ p1 ++ p2, H' b = H b) → ∀ {r' : R} {q' : List Addr} {v' : V}, Own K tk Hs' H' r' v' q' → Slots K tk Hs' H' (Γ.set i (some r')) (σ.set i (some v')) (p1 ++ q' ++ p2)
  | _, _, _, _, _, .nil, e => by simp at e
  | _, _, _, 0, _, .un a, e => by simp at e
  | _, _, _, 0, r, .cons (q := q) (ps := ps) (v := v) h a, e => by
    simp at e; subst e
    refine ⟨v, q, [], ps, rfl, by simp, h, fun e k _ _ _ h' => ?_⟩
    exact .cons h' (a.mono e fun b hb => k b (by simpa using hb))
  | _, _, _, i + 1, r, .un (o := o) a, e => by
    obtain ⟨v, q, p1, p2, h1, h2, h3, h4⟩ := Slots.at (i := i) a (by simpa using e)
    exact ⟨v, q, p1, p2, by simpa using h1, h2, h3, fun e k _ _ _ h' => .un (h4 e k h')⟩
  | _, _, _, i + 1, r, .cons (q := q0) h a, e => by
    obtain ⟨v, q, p1, p2, h1, h2, h3, h4⟩ := Slots.at (i := i) a (by simpa using e)
    refine ⟨v, q, q0 ++ p1, p2, by simpa using h1, by rw [h2]; simp, h3, fun e k _ _ _ h' => ?_⟩
    have := Slots.cons (h.mono e fun b hb => k b (by simp [hb])) (h4 e (fun b hb => k b (by simp at hb ⊢; rcases hb with z | z; exact .inr (.inl z); exact .inr (.inr z))) h')
    simpa using this
/-- any slot: put anything in -/
theorem Slots.put : ∀ {Γ : Nv} {σ : L2.St} {ps : List Addr} (i : Nat), Slots K tk Hs H Γ σ ps → i < Γ.length →
    ∃ q p1 p2, ps = p1 ++ q ++ p2 ∧
      ∀ {r' : R} {q' : List Addr} {v' : V}, Own K tk Hs H r' v' q' → Slots K tk Hs H (Γ.set i (some r')) (σ.set i (some v')) (p1 ++ q' ++ p2)
  | _, _, _, _, .nil, e => by simp at e
  | _, _, _, 0, .un (ps := ps) a, e => ⟨[], [], ps, rfl, fun h' => .cons h' a⟩
  | _, _, _, 0, .cons (q := q) (ps := ps) h a, e => ⟨q, [], ps, by simp, fun h' => .cons h' a⟩
  | _, _, _, i + 1, .un a, e => by
    obtain ⟨q, p1, p2, h2, h4⟩ := Slots.put i a (by simpa using e)
    exact ⟨q, p1, p2, h2, fun h' => .un (h4 h')⟩
  | _, _, _, i + 1, .cons (q := q0) h a, e => by
    obtain ⟨q, p1, p2, h2, h4⟩ := Slots.put i a (by simpa using e)
    refine ⟨q, q0 ++ p1, p2, by rw [h2]; simp, fun h' => ?_⟩
    have := Slots.cons h (h4 h')
    simpa using this
/-- a slot forgotten -/
theorem Slots.drop : ∀ {Γ : Nv} {σ : L2.St} {ps : List Addr} (i : Nat) (o : Option V), Slots K tk Hs H Γ σ ps →
    ∃ q p1 p2, ps = p1 ++ q ++ p2 ∧ Slots K tk Hs H (Γ.set i none) (σ.set i o) (p1 ++ p2)
  | _, _, _, i, o, .nil => ⟨[], [], [], rfl, .nil⟩
  | _, _, _, 0, o, .un (ps := ps) a => ⟨[], [], ps, rfl, .un a⟩
  | _, _, _, 0, o, .cons (q := q) (ps := ps) h a => ⟨q, [], ps, by simp, .un a⟩
  | _, _, _, i + 1, o, .un a => by
    obtain ⟨q, p1, p2, h2, h4⟩ := Slots.drop i o a
    exact ⟨q, p1, p2, h2, .un h4⟩
  | _, _, _, i + 1, o, .cons (q := q0) h a => by
    obtain ⟨q, p1, p2, h2, h4⟩ := Slots.drop i o a
    refine ⟨q, q0 ++ p1, p2, by rw [h2]; simp, ?_⟩
    have := Slots.cons h h4
    simpa using this
end
end DL

set_option maxHeartbeats 1000000
namespace DL
open PySem PySem.Spec L2

/-! ### the state of a def that runs, against its entry -/
structure RepI (K : PySem.W.Frag) (S : SK) (B : Bs) (Hs : Hp) (Δ : List R) (δ : List V) (Γ : Nv) (σ : L2.St) (H : Hp) (p1 p2 : List Addr) : Prop where
  sub : Same Hs H
  off : ∀ b ∈ B.fp ++ (p1 ++ p2), Hs b = none
  nd : (B.fp ++ (p1 ++ p2)).Nodup
  st : S.ok B Hs H
  tm : Slots K B.tk Hs H (Δ.map some) (δ.map some) p1
  sl : Slots K B.tk Hs H Γ σ p2
  h0 : ∀ b o, b ∉ B.fp → B.H b = some o → H b = some o
  l0 : ∀ b ∈ B.fp, ∃ o, B.H b = some o
  s0 : Same B.Hs Hs
  new : ∀ b o, Hs b = some o → B.Hs b = some o ∨ B.H b = none
  own : ∀ b ∈ p1 ++ p2, B.H b = none
def RepH (K : PySem.W.Frag) (S : SK) (B : Bs) (Hs : Hp) (Δ : List R) (δ : List V) (Γ : Nv) (σ : L2.St) (H : Hp) : Prop := ∃ p1 p2, RepI K S B Hs Δ δ Γ σ H p1 p2
def Rep (K : PySem.W.Frag) (S : SK) (B : Bs) (Δ : List R) (δ : List V) (Γ : Nv) (σ : L2.St) (H : Hp) : Prop := ∃ Hs, RepH K S B Hs Δ δ Γ σ H

section
variable {K : PySem.W.Frag} {S : SK} {B : Bs} {Hs H : Hp} {Δ : List R} {δ : List V} {Γ : Nv} {σ : L2.St} {p1 p2 : List Addr}
theorem upd_self' {H : Hp} {b p : Addr} {o u : HO} (e : H b = some o) (n : H p = none) : upd H p u b = H b := upd_ne (fun z => by subst z; rw [n] at e; cases e)
theorem same_upd {H : Hp} {p : Addr} {o : HO} (h : H p = none) : Same H (upd H p o) := fun b x e => (upd_self' e h).trans e
theorem RepI.live (I : RepI K S B Hs Δ δ Γ σ H p1 p2) : ∀ b ∈ B.fp ++ (p1 ++ p2), ∃ o, H b = some o := fun b hb => by
  rcases List.mem_append.mp hb with h | h
  · exact I.st.live b h
  · rcases List.mem_append.mp h with h | h
    · exact I.tm.live b h
    · exact I.sl.live b h
theorem RepI.keepU (I : RepI K S B Hs Δ δ Γ σ H p1 p2) {p : Addr} {o : HO} (n : H p = none) : ∀ b ∈ B.fp ++ (p1 ++ p2), upd H p o b = H b := fun b hb => by
  obtain ⟨u, e⟩ := I.live b hb
  exact upd_self' e n
theorem RepI.fresh0 (I : RepI K S B Hs Δ δ Γ σ H p1 p2) {p : Addr} (n : H p = none) : B.H p = none := by
  by_cases hp : p ∈ B.fp
  · obtain ⟨o, e⟩ := I.st.live p hp
    rw [n] at e; cases e
  · cases e : B.H p with
    | none => rfl
    | some o =>
      have := I.h0 p o hp e
      rw [n] at this; cases this
theorem RepI.freshS (I : RepI K S B Hs Δ δ Γ σ H p1 p2) {p : Addr} (n : H p = none) : Hs p = none := Same.free I.sub n
/-- a new stable object -/
theorem RepI.alloc (I : RepI K S B Hs Δ δ Γ σ H p1 p2) {p : Addr} {o : HO} (n : H p = none) : RepI K S B (upd Hs p o) Δ δ Γ σ (upd H p o) p1 p2 := by
  have hp : ∀ b ∈ B.fp ++ (p1 ++ p2), b ≠ p := fun b hb z => by
    obtain ⟨u, e⟩ := I.live b hb
    subst z; rw [n] at e; cases e
  have ns := I.freshS n
  have ss : Same Hs (upd Hs p o) := same_upd ns
  refine ⟨fun b u e => ?_, fun b hb => ?_, I.nd, I.st.mono ss fun b hb => I.keepU n b (List.mem_append_left _ hb), I.tm.mono ss fun b hb => I.keepU n b (by simp [hb]), I.sl.mono ss fun b hb => I.keepU n b (by simp [hb]), fun b u hb e => ?_, I.l0, fun b u e => ss b u (I.s0 b u e), fun b u e => ?_, I.own⟩
  · by_cases h : b = p
    · subst h; rw [upd_same] at e ⊢; exact e
    · rw [upd_ne h] at e ⊢; exact I.sub b u e
  · rw [upd_ne (hp b hb)]; exact I.off b hb
  · have := I.h0 b u hb e
    rw [upd_self' this n]; exact this
  · by_cases h : b = p
    · subst h; exact .inr (I.fresh0 n)
    · rw [upd_ne h] at e; exact I.new b u e
/-- a stable value on the stack -/
theorem RepI.push (I : RepI K S B Hs Δ δ Γ σ H p1 p2) {v : V} {d : D} (h : Den K B.tk Hs v d) : RepI K S B Hs (.val d :: Δ) (v :: δ) Γ σ H p1 p2 :=
  ⟨I.sub, I.off, I.nd, I.st, Slots.cons (q := []) (.val h) I.tm, I.sl, I.h0, I.l0, I.s0, I.new, I.own⟩
/-- a new owned object on the stack -/
theorem RepI.pushNew (I : RepI K S B Hs Δ δ Γ σ H p1 p2) {p : Addr} {o : HO} {r : R} (n : H p = none) (h : Own K B.tk Hs (upd H p o) r (.ref p) [p]) : RepI K S B Hs (r :: Δ) (.ref p :: δ) Γ σ (upd H p o) (p :: p1) p2 := by
  have hp : ∀ b ∈ B.fp ++ (p1 ++ p2), b ≠ p := fun b hb z => by
    obtain ⟨u, e⟩ := I.live b hb
    subst z; rw [n] at e; cases e
  have rf : Same Hs Hs := fun _ _ e => e
  have nd := I.nd
  refine ⟨fun b u e => ?_, fun b hb => ?_, ?_, I.st.mono rf fun b hb => I.keepU n b (List.mem_append_left _ hb), Slots.cons (q := [p]) h (I.tm.mono rf fun b hb => I.keepU n b (by simp [hb])), I.sl.mono rf fun b hb => I.keepU n b (by simp [hb]), fun b u hb e => ?_, I.l0, I.s0, I.new, fun b hb => ?_⟩
  · have := I.sub b u e
    rw [upd_self' this n]; exact this
  · by_cases h : b = p
    · subst h; exact I.freshS n
    · refine I.off b ?_
      simp only [List.mem_append, List.mem_cons] at hb ⊢
      rcases hb with z | (z | z) | z
      · exact .inl z
      · exact absurd z h
      · exact .inr (.inl z)
      · exact .inr (.inr z)
  · rw [List.nodup_append] at nd ⊢
    refine ⟨nd.1, ?_, fun a ha b hb => ?_⟩
    · show (p :: (p1 ++ p2)).Nodup
      rw [List.nodup_cons]
      exact ⟨fun z => hp p (List.mem_append_right _ z) rfl, nd.2.1⟩
    · simp only [List.cons_append, List.mem_cons] at hb
      rcases hb with z | z
      · subst z; exact hp a (List.mem_append_left _ ha)
      · exact nd.2.2 a ha b z
  · have := I.h0 b u hb e
    rw [upd_self' this n]; exact this
  · simp only [List.cons_append, List.mem_cons] at hb
    rcases hb with z | z
    · subst z; exact I.fresh0 n
    · exact I.own b z
/-- the top of the stack dropped -/
theorem RepI.pop {r : R} {v : V} (I : RepI K S B Hs (r :: Δ) (v :: δ) Γ σ H p1 p2) : ∃ p1', RepI K S B Hs Δ δ Γ σ H p1' p2 := by
  have tm : Slots K B.tk Hs H (some r :: Δ.map some) (some v :: δ.map some) p1 := I.tm
  cases tm with
  | cons h a =>
    rename_i q ps
    have nd := I.nd
    have sub : ∀ b, b ∈ B.fp ++ (ps ++ p2) → b ∈ B.fp ++ (q ++ ps ++ p2) := fun b hb => by
      simp only [List.mem_append] at hb ⊢
      rcases hb with z | z | z
      · exact .inl z
      · exact .inr (.inl (.inr z))
      · exact .inr (.inr z)
    refine ⟨ps, I.sub, fun b hb => I.off b (sub b hb), ?_, I.st, a, I.sl, I.h0, I.l0, I.s0, I.new, fun b hb => I.own b ?_⟩
    · refine nd.sublist ?_
      refine List.Sublist.append (List.Sublist.refl _) ?_
      rw [List.append_assoc]
      exact List.sublist_append_right _ _
    · simp only [List.mem_append] at hb ⊢
      rcases hb with z | z
      · exact .inl (.inr z)
      · exact .inr z
theorem its_den {K : PySem.W.Frag} {tk : Option Addr} {Hs Hs' H : Hp} : ∀ {ts : List BxC} {vs : List V}, BxS K tk Hs H ts vs → Same Hs Hs' → (∀ b ∈ adS ts, Hs' b = H b) → DenAll K tk Hs' vs (ts.map BxC.d)
  | _, _, .nil, _, _ => .nil
  | _, _, .cons h a, e, k => .cons (by
      cases h with
      | lf h => exact h.mono e
      | ls h d => exact .lst ((k _ (by simp [adS, BxC.ad])).trans h) (d.mono e)
      | dc h d => exact .dct ((k _ (by simp [adS, BxC.ad])).trans h) (d.mono e)) (its_den a e fun b hb => k b (by simp [adS] at hb ⊢; exact .inr hb))
theorem den_zip {K : PySem.W.Frag} {tk : Option Addr} {H : Hp} : ∀ {ks : List Key} {vs : List V} {ds : List D}, DenAll K tk H vs ds → DenKs K tk H (ks.zip vs) (ks.zip ds)
  | [], _, _, _ => .nil
  | _ :: _, _, _, .nil => .nil
  | _ :: _, _, _, .cons h a => .cons h (den_zip a)
/-- an owned value becomes stable: its object, or nothing -/
theorem frz_own {K : PySem.W.Frag} {tk : Option Addr} {r : R} {v : V} {q : List Addr} (h : Own K tk Hs H r v q) (sub : Same Hs H) (off : ∀ b ∈ q, Hs b = none) :
    ∃ Hs', Same Hs Hs' ∧ Same Hs' H ∧ (∀ b o, Hs' b = some o → Hs b = some o ∨ b ∈ q) ∧ Den K tk Hs' v r.d := by
  cases h with
  | val h => exact ⟨Hs, fun _ _ e => e, sub, fun _ _ e => .inl e, h⟩
  | @lst p vs l h a =>
    have n : Hs p = none := off p (by simp)
    refine ⟨upd Hs p (.lst vs), same_upd n, fun b u e => ?_, fun b u e => ?_, .lst upd_same (a.mono (same_upd n))⟩
    · by_cases hb : b = p
      · subst hb; rw [upd_same] at e; cases e; exact h
      · rw [upd_ne hb] at e; exact sub b u e
    · by_cases hb : b = p
      · exact .inr (by simp [hb])
      · rw [upd_ne hb] at e; exact .inl e
  | @dct p kvs kds h a =>
    have n : Hs p = none := off p (by simp)
    refine ⟨upd Hs p (.dK kvs), same_upd n, fun b u e => ?_, fun b u e => ?_, .dct upd_same (a.mono (same_upd n))⟩
    · by_cases hb : b = p
      · subst hb; rw [upd_same] at e; cases e; exact h
      · rw [upd_ne hb] at e; exact sub b u e
    · by_cases hb : b = p
      · exact .inr (by simp [hb])
      · rw [upd_ne hb] at e; exact .inl e
  | @bx p ks vs ts h a z =>
    have sm : Same Hs (fun b => if b ∈ p :: adS ts then H b else Hs b) := fun b u e => by
      by_cases hb : b ∈ p :: adS ts
      · rw [off b hb] at e; cases e
      · simp only [if_neg hb]; exact e
    refine ⟨fun b => if b ∈ p :: adS ts then H b else Hs b, sm, fun b u e => ?_, fun b u e => ?_, ?_⟩
    · by_cases hb : b ∈ p :: adS ts
      · simp only [if_pos hb] at e; exact e
      · simp only [if_neg hb] at e; exact sub b u e
    · by_cases hb : b ∈ p :: adS ts
      · exact .inr hb
      · simp only [if_neg hb] at e; exact .inl e
    · have hp : (fun b => if b ∈ p :: adS ts then H b else Hs b) p = some (bxo ks vs) := by simp [h]
      have hd : DenAll K tk (fun b => if b ∈ p :: adS ts then H b else Hs b) vs (ts.map BxC.d) := its_den a sm fun b hb => by simp [hb]
      unfold R.d
      cases ks with
      | none => exact .lst hp hd
      | some l => exact .dct hp (den_zip hd)
/-- the top of the stack made stable and taken off -/
theorem RepI.frz {r : R} {v : V} (I : RepI K S B Hs (r :: Δ) (v :: δ) Γ σ H p1 p2) : ∃ Hs' p1', Same Hs Hs' ∧ Den K B.tk Hs' v r.d ∧ RepI K S B Hs' Δ δ Γ σ H p1' p2 := by
  have tm : Slots K B.tk Hs H (some r :: Δ.map some) (some v :: δ.map some) p1 := I.tm
  cases tm with
  | cons h a =>
    rename_i q ps
    obtain ⟨Hs', e1, e2, e3, e4⟩ := frz_own h I.sub fun b hb => I.off b (by simp [hb])
    have nd := I.nd
    have nq : ∀ b, b ∈ B.fp ++ (ps ++ p2) → b ∉ q := fun b hb hq => by
      rw [List.nodup_append] at nd
      obtain ⟨n1, n2, n3⟩ := nd
      rcases List.mem_append.mp hb with z | z
      · exact n3 b z b (by simp [hq]) rfl
      · rw [List.append_assoc, List.nodup_append] at n2
        exact n2.2.2 b hq b z rfl
    have sub : ∀ b, b ∈ B.fp ++ (ps ++ p2) → b ∈ B.fp ++ (q ++ ps ++ p2) := fun b hb => by
      simp only [List.mem_append] at hb ⊢
      rcases hb with z | z | z
      · exact .inl z
      · exact .inr (.inl (.inr z))
      · exact .inr (.inr z)
    refine ⟨Hs', ps, e1, e4, e2, fun b hb => ?_, ?_, I.st.mono e1 fun _ _ => rfl, a.mono e1 fun _ _ => rfl, I.sl.mono e1 fun _ _ => rfl, I.h0, I.l0, fun b o e => e1 b o (I.s0 b o e), fun b o e => ?_, fun b hb => I.own b ?_⟩
    · cases q' : Hs' b with
      | none => rfl
      | some o =>
        rcases e3 b o q' with z | z
        · rw [I.off b (sub b hb)] at z; cases z
        · exact absurd z (nq b hb)
    · refine nd.sublist ?_
      refine List.Sublist.append (List.Sublist.refl _) ?_
      rw [List.append_assoc]
      exact List.sublist_append_right _ _
    · rcases e3 b o e with z | z
      · exact I.new b o z
      · exact .inr (I.own b (by simp [z]))
    · simp only [List.mem_append] at hb ⊢
      rcases hb with z | z
      · exact .inl (.inr z)
      · exact .inr z
/-- the value of slot i, made stable: the slot keeps it -/
theorem RepI.frzAt {i : Nat} {r : R} (I : RepI K S B Hs Δ δ Γ σ H p1 p2) (hi : Γ[i]? = some (some r)) :
    ∃ v Hs' p2', σ[i]? = some (some v) ∧ Same Hs Hs' ∧ Den K B.tk Hs' v r.d ∧ RepI K S B Hs' Δ δ (Γ.set i (some (.val r.d))) σ H p1 p2' := by
  obtain ⟨v, q, q1, q2, h1, h2, h3, h4⟩ := I.sl.at hi
  subst h2
  obtain ⟨Hs', e1, e2, e3, e4⟩ := frz_own h3 I.sub fun b hb => I.off b (by simp [hb])
  have nd := I.nd
  have nq : ∀ b, b ∈ B.fp ++ (p1 ++ (q1 ++ q2)) → b ∉ q := fun b hb hq => by
    rw [List.nodup_append] at nd
    obtain ⟨n1, n2, n3⟩ := nd
    rcases List.mem_append.mp hb with z | z
    · exact n3 b z b (by simp [hq]) rfl
    · rw [List.nodup_append] at n2
      obtain ⟨m1, m2, m3⟩ := n2
      rcases List.mem_append.mp z with z | z
      · exact m3 b z b (by simp [hq]) rfl
      · rw [List.nodup_append] at m2
        obtain ⟨k1, k2, k3⟩ := m2
        rw [List.nodup_append] at k1
        rcases List.mem_append.mp z with z | z
        · exact k1.2.2 b z b hq rfl
        · exact k3 b (List.mem_append_right _ hq) b z rfl
  have sub : ∀ b, b ∈ B.fp ++ (p1 ++ (q1 ++ q2)) → b ∈ B.fp ++ (p1 ++ (q1 ++ q ++ q2)) := fun b hb => by
    simp only [List.mem_append] at hb ⊢
    rcases hb with z | z | z | z
    · exact .inl z
    · exact .inr (.inl z)
    · exact .inr (.inr (.inl (.inl z)))
    · exact .inr (.inr (.inr z))
  have es : σ.set i (some v) = σ := by
    obtain ⟨hl, he⟩ := List.getElem?_eq_some_iff.mp h1
    rw [← he, List.set_getElem_self]
  have sl' := h4 (r' := .val r.d) (q' := []) e1 (fun b _ => rfl) (.val e4)
  rw [es] at sl'
  refine ⟨v, Hs', q1 ++ [] ++ q2, h1, e1, e4, e2, fun b hb => ?_, ?_, I.st.mono e1 fun _ _ => rfl, I.tm.mono e1 fun _ _ => rfl, sl', I.h0, I.l0, fun b o e => e1 b o (I.s0 b o e), fun b o e => ?_, fun b hb => ?_⟩
  · rw [List.append_nil] at hb
    cases q' : Hs' b with
    | none => rfl
    | some o =>
      rcases e3 b o q' with z | z
      · rw [I.off b (sub b hb)] at z; cases z
      · exact absurd z (nq b hb)
  · rw [List.append_nil]
    refine nd.sublist ?_
    refine List.Sublist.append (List.Sublist.refl _) (List.Sublist.append (List.Sublist.refl _) ?_)
    rw [List.append_assoc]
    exact List.Sublist.append (List.Sublist.refl _) (List.sublist_append_right _ _)
  · rcases e3 b o e with z | z
    · exact I.new b o z
    · exact .inr (I.own b (by simp [z]))
  · rw [List.append_nil] at hb
    refine I.own b ?_
    simp only [List.mem_append] at hb ⊢
    rcases hb with z | z | z
    · exact .inl z
    · exact .inr (.inl (.inl z))
    · exact .inr (.inr z)
/-- the top of the stack goes to slot i -/
theorem RepI.store {i : Nat} {r : R} {v : V} (I : RepI K S B Hs (r :: Δ) (v :: δ) Γ σ H p1 p2) (hi : i < Γ.length) : ∃ p1' p2', RepI K S B Hs Δ δ (Γ.set i (some r)) (σ.set i (some v)) H p1' p2' := by
  have tm : Slots K B.tk Hs H (some r :: Δ.map some) (some v :: δ.map some) p1 := I.tm
  cases tm with
  | cons h a =>
    rename_i q ps
    obtain ⟨o, q1, q2, h2, h4⟩ := I.sl.put i hi
    subst h2
    have nd := I.nd
    have sub : ∀ b, b ∈ B.fp ++ (ps ++ (q1 ++ q ++ q2)) → b ∈ B.fp ++ (q ++ ps ++ (q1 ++ o ++ q2)) := fun b hb => by
      simp only [List.mem_append] at hb ⊢
      rcases hb with z | z | (z | z) | z
      · exact .inl z
      · exact .inr (.inl (.inr z))
      · exact .inr (.inr (.inl (.inl z)))
      · exact .inr (.inl (.inl z))
      · exact .inr (.inr (.inr z))
    refine ⟨ps, q1 ++ q ++ q2, I.sub, fun b hb => I.off b (sub b hb), ?_, I.st, a, h4 h, I.h0, I.l0, I.s0, I.new, fun b hb => I.own b ?_⟩
    · have pm : (B.fp ++ (q ++ ps ++ (q1 ++ o ++ q2))).Perm (o ++ (B.fp ++ (ps ++ (q1 ++ q ++ q2)))) := by
        simp only [List.perm_iff_count, List.count_append]
        intro a; omega
      have := pm.nodup_iff.mp nd
      exact (List.nodup_append.mp this).2.1
    · have := sub b (List.mem_append_right _ hb)
      rcases List.mem_append.mp this with z | z
      · exfalso
        have pm : (B.fp ++ (q ++ ps ++ (q1 ++ o ++ q2))).Perm (o ++ (B.fp ++ (ps ++ (q1 ++ q ++ q2)))) := by
          simp only [List.perm_iff_count, List.count_append]
          intro a; omega
        have n2 := (List.nodup_append.mp (pm.nodup_iff.mp nd)).2.1
        exact (List.nodup_append.mp n2).2.2 b z b hb rfl
      · exact z
/-- slot i forgotten -/
theorem RepI.forget (I : RepI K S B Hs Δ δ Γ σ H p1 p2) (i : Nat) (o : Option V) : ∃ p2', RepI K S B Hs Δ δ (Γ.set i none) (σ.set i o) H p1 p2' := by
  obtain ⟨q, q1, q2, h2, h4⟩ := I.sl.drop i o
  subst h2
  have nd := I.nd
  refine ⟨q1 ++ q2, I.sub, fun b hb => I.off b ?_, ?_, I.st, I.tm, h4, I.h0, I.l0, I.s0, I.new, fun b hb => I.own b ?_⟩
  · simp only [List.mem_append] at hb ⊢
    rcases hb with z | z | z | z
    · exact .inl z
    · exact .inr (.inl z)
    · exact .inr (.inr (.inl (.inl z)))
    · exact .inr (.inr (.inr z))
  · refine nd.sublist ?_
    refine List.Sublist.append (List.Sublist.refl _) (List.Sublist.append (List.Sublist.refl _) ?_)
    rw [List.append_assoc]
    exact List.Sublist.append (List.Sublist.refl _) (List.sublist_append_right _ _)
  · simp only [List.mem_append] at hb ⊢
    rcases hb with z | z | z
    · exact .inl z
    · exact .inr (.inl (.inl z))
    · exact .inr (.inr z)
/-- an owned list (dict) of slot i is changed in place -/
theorem RepI.write {i : Nat} {p : Addr} {r r' : R} {o : HO} (I : RepI K S B Hs Δ δ Γ σ H p1 p2) (hi : Γ[i]? = some (some r)) (hv : σ[i]? = some (some (.ref p))) (hw : ∀ {q}, Own K B.tk Hs H r (.ref p) q → q = [p])
    (h : Own K B.tk Hs (upd H p o) r' (.ref p) [p]) : RepI K S B Hs Δ δ (Γ.set i (some r')) σ (upd H p o) p1 p2 := by
  obtain ⟨v, q, q1, q2, h1, h2, h3, h4⟩ := I.sl.at hi
  have ev : v = .ref p := by rw [hv] at h1; cases h1; rfl
  subst ev
  have := hw h3
  subst this
  subst h2
  have nd := I.nd
  have np : ∀ b, b ∈ B.fp ++ (p1 ++ (q1 ++ q2)) → b ≠ p := fun b hb e => by
    subst e
    have pm : (B.fp ++ (p1 ++ (q1 ++ [b] ++ q2))).Perm (b :: (B.fp ++ (p1 ++ (q1 ++ q2)))) := by
      simp only [List.perm_iff_count, List.count_append, List.count_cons, List.count_nil]
      intro a; omega
    exact (List.nodup_cons.mp (pm.nodup_iff.mp nd)).1 hb
  have rf : Same Hs Hs := fun _ _ e => e
  have offp : Hs p = none := I.off p (by simp)
  have es : σ.set i (some (.ref p)) = σ := by
    obtain ⟨hl, he⟩ := List.getElem?_eq_some_iff.mp hv
    rw [← he, List.set_getElem_self]
  have sl' := h4 (H' := upd H p o) rf (fun b hb => upd_ne (np b (by simp only [List.mem_append] at hb ⊢; exact .inr (.inr hb)))) h
  rw [es] at sl'
  refine ⟨fun b u e => ?_, I.off, I.nd, I.st.mono rf fun b hb => upd_ne (np b (List.mem_append_left _ hb)), I.tm.mono rf fun b hb => upd_ne (np b (by simp [hb])), sl', fun b u hb e => ?_, I.l0, I.s0, I.new, I.own⟩
  · rw [upd_ne (fun z => by subst z; rw [offp] at e; cases e)]; exact I.sub b u e
  · rw [upd_ne (fun z => by subst z; rw [I.own b (by simp)] at e; cases e)]; exact I.h0 b u hb e
end
end DL

set_option maxHeartbeats 1000000
namespace DL
open PySem PySem.Spec L2

/-- an exception as data -/
structure XD where
  name : Str
  fs : List (Key × D)
abbrev WE := (XD → Nv → Prop) → Nv → (R → Nv → Prop) → Prop
abbrev WT := (XD → Nv → Prop) → Nv → (Bool → Nv → Prop) → Prop
abbrev WA := (XD → Nv → Prop) → Nv → (List D → Nv → Prop) → Prop
structure M where
  nx : Nv → Prop
  rt : R → Nv → Prop
  xp : XD → Nv → Prop := fun _ _ => False
  bk : Nv → Prop := fun _ => False
  ct : Nv → Prop := fun _ => False
abbrev WS := Nv → M → Prop

section
variable (K : PySem.W.Frag) (S : SK) (mg : Str → Option Value) (B : Bs)
/-- an exception in the air -/
def RepX (Δ : List R) (δ : List V) (Γ : Nv) (σ : L2.St) (H : Hp) (cls : Value) (d : Option Addr) (x : XD) : Prop :=
  ∃ Hs p1 p2 C dx fs, RepI K S B Hs Δ δ Γ σ H p1 p2 ∧ mg x.name = some (.ref C) ∧ cls = .ref C ∧ d = some dx ∧ Hs dx = some (.xd fs) ∧ DenKs K B.tk Hs (xdK fs) x.fs
/-- what is told of an exception reaches the wish -/
def XL (W : WX) (Δ : List R) (δ : List V) (σ : L2.St) (xp : XD → Nv → Prop) : Prop :=
  ∀ cls d H' x Γ', RepX K S mg B Δ δ Γ' σ H' cls d x → xp x Γ' → W cls d σ H'
/-- a result, against the entry -/
def RepV (v : V) (r : R) (H : Hp) : Prop := Rep K S B [r] [v] [] [] H
end

section
variable (K : PySem.W.Frag) (S : SK) (mg : Str → Option Value) (W : WX)
def DE (s : WE) : TE := fun σ H Q => ∃ B Δ δ Γ xp P, Rep K S B Δ δ Γ σ H ∧ s xp Γ P ∧ (∀ v H' r Γ', Rep K S B (r :: Δ) (v :: δ) Γ' σ H' → P r Γ' → Q v H') ∧ XL K S mg B W Δ δ σ xp
def DT (s : WT) : TT := fun σ H Q => ∃ B Δ δ Γ xp P, Rep K S B Δ δ Γ σ H ∧ s xp Γ P ∧ (∀ b H' Γ', Rep K S B Δ δ Γ' σ H' → P b Γ' → Q b H') ∧ XL K S mg B W Δ δ σ xp
def DA (s : WA) : TA := fun σ H Q => ∃ B Δ δ Γ xp P, Rep K S B Δ δ Γ σ H ∧ s xp Γ P ∧
  (∀ vs H' ds Γ' Hs p1 p2, RepI K S B Hs Δ δ Γ' σ H' p1 p2 → DenAll K B.tk Hs vs ds → P ds Γ' → Q vs H') ∧ XL K S mg B W Δ δ σ xp
/-- σ may change: the exception's wish is at any σ -/
def DS (s : WS) : TS := fun D σ H => ∃ B Δ δ Γ m, Rep K S B Δ δ Γ σ H ∧ s Γ m ∧ (∀ σ' H' Γ', Rep K S B Δ δ Γ' σ' H' → m.nx Γ' → D.nx σ' H') ∧ (∀ σ' H' Γ', Rep K S B Δ δ Γ' σ' H' → m.bk Γ' → D.bk σ' H') ∧
  (∀ σ' H' Γ', Rep K S B Δ δ Γ' σ' H' → m.ct Γ' → D.ct σ' H') ∧ (∀ v r σ' H' Γ', Rep K S B (r :: Δ) (v :: δ) Γ' σ' H' → m.rt r Γ' → D.rt v H') ∧ ∀ σ', XL K S mg B W Δ δ σ' m.xp
end

theorem PE.imp {X : Cx} {e : Expr} {t t' : TE} (h : PE X e t) (k : ∀ σ H Q, t' σ H Q → t σ H Q) : PE X e t' := ⟨fun pins s σ H Q I q => h.run pins s σ H Q I (k σ H Q q)⟩
theorem PT.imp {X : Cx} {e : Expr} {t t' : TT} (h : PT X e t) (k : ∀ σ H Q, t' σ H Q → t σ H Q) : PT X e t' := ⟨fun pins s σ H Q I q => h.run pins s σ H Q I (k σ H Q q)⟩
theorem PW.imp {X : Cx} {e : Expr} {t t' : TT} (h : PW X e t) (k : ∀ σ H Q, t' σ H Q → t σ H Q) : PW X e t' := ⟨fun wh pins s σ H Q I q => h.run wh pins s σ H Q I (k σ H Q q)⟩
theorem PA.imp {X : Cx} {e : List Expr} {t t' : TA} (h : PA X e t) (k : ∀ σ H Q, t' σ H Q → t σ H Q) : PA X e t' := ⟨fun pos pins s σ H Q I q => h.run pos pins s σ H Q I (k σ H Q q)⟩
theorem PS.imp {X : Cx} {e : Stmt} {t t' : TS} (h : PS X e t) (k : ∀ D σ H, t' D σ H → t D σ H) : PS X e t' := ⟨fun pins s σ H D I q => h.run pins s σ H D I (k D σ H q)⟩
theorem PSs.imp {X : Cx} {e : List Stmt} {t t' : TS} (h : PSs X e t) (k : ∀ D σ H, t' D σ H → t D σ H) : PSs X e t' := ⟨fun pins s σ H D I q => h.run pins s σ H D I (k D σ H q)⟩

section
variable {K : PySem.W.Frag} {S : SK} {mg : Str → Option Value} {W : WX} {B : Bs} {Hs H : Hp} {Δ : List R} {δ : List V} {Γ : Nv} {σ : L2.St} {p1 p2 : List Addr} {xp : XD → Nv → Prop}
theorem XL.push (h : XL K S mg B W Δ δ σ xp) {r : R} {v : V} : XL K S mg B W (r :: Δ) (v :: δ) σ xp := fun cls d H' x Γ' ⟨Hs, p1, p2, C, dx, fs, I, a, b, c, e, f⟩ q => by
  obtain ⟨p1', I'⟩ := I.pop
  exact h cls d H' x Γ' ⟨Hs, p1', p2, C, dx, fs, I', a, b, c, e, f⟩ q
theorem Rep.pop {r : R} {v : V} (h : Rep K S B (r :: Δ) (v :: δ) Γ σ H) : Rep K S B Δ δ Γ σ H := by
  obtain ⟨Hs, p1, p2, I⟩ := h
  obtain ⟨p1', I'⟩ := I.pop
  exact ⟨Hs, p1', p2, I'⟩
theorem Rep.frz {r : R} {v : V} (h : Rep K S B (r :: Δ) (v :: δ) Γ σ H) : ∃ Hs p1 p2, RepI K S B Hs Δ δ Γ σ H p1 p2 ∧ Den K B.tk Hs v r.d := by
  obtain ⟨Hs, p1, p2, I⟩ := h
  obtain ⟨Hs', p1', _, d, I'⟩ := I.frz
  exact ⟨Hs', p1', p2, I', d⟩
/-- the second and the first of the stack -/
theorem Rep.frz2 {r q : R} {v u : V} (h : Rep K S B (r :: q :: Δ) (v :: u :: δ) Γ σ H) : ∃ Hs p1 p2, RepI K S B Hs Δ δ Γ σ H p1 p2 ∧ Den K B.tk Hs v r.d ∧ Den K B.tk Hs u q.d := by
  obtain ⟨Hs, p1, p2, I⟩ := h
  obtain ⟨Hs', p1', _, d, I'⟩ := I.frz
  obtain ⟨Hs2, p1'', e2, d2, I2⟩ := I'.frz
  exact ⟨Hs2, p1'', p2, I2, d.mono e2, d2⟩
theorem RepI.rep (I : RepI K S B Hs Δ δ Γ σ H p1 p2) : Rep K S B Δ δ Γ σ H := ⟨Hs, p1, p2, I⟩
theorem RepI.fin (I : RepI K S B Hs Δ δ Γ σ H p1 p2) {v : V} {d : D} (h : Den K B.tk Hs v d) : Rep K S B (.val d :: Δ) (v :: δ) Γ σ H := ⟨Hs, p1, p2, I.push h⟩
/-- a new tuple -/
theorem RepI.finT (I : RepI K S B Hs Δ δ Γ σ H p1 p2) {vs : List V} {ds : List D} {p : Addr} (h : DenAll K B.tk Hs vs ds) (n : H p = none) : Rep K S B (.val (.tup ds) :: Δ) (.ref p :: δ) Γ σ (upd H p (.tup vs)) :=
  ⟨_, p1, p2, (I.alloc n).push (.tup (.inl (.inl upd_same)) (h.mono (same_upd (I.freshS n))))⟩
/-- a new list -/
theorem RepI.finL (I : RepI K S B Hs Δ δ Γ σ H p1 p2) {vs : List V} {ds : List D} {p : Addr} (h : DenAll K B.tk Hs vs ds) (n : H p = none) : Rep K S B (.lst ds :: Δ) (.ref p :: δ) Γ σ (upd H p (.lst vs)) :=
  ⟨_, _, p2, I.pushNew n (.lst upd_same h)⟩
/-- a new dict -/
theorem RepI.finK (I : RepI K S B Hs Δ δ Γ σ H p1 p2) {vs : List (Key × V)} {ds : List (Key × D)} {p : Addr} (h : DenKs K B.tk Hs vs ds) (n : H p = none) : Rep K S B (.dct ds :: Δ) (.ref p :: δ) Γ σ (upd H p (.dK vs)) :=
  ⟨_, _, p2, I.pushNew n (.dct upd_same h)⟩
theorem RepI.sqT (I : RepI K S B Hs Δ δ Γ σ H p1 p2) {a : Addr} {xs : List V} (h : SqT K Hs a xs) : SqT K H a xs := Same.sqT I.sub h
theorem RepI.sqL (I : RepI K S B Hs Δ δ Γ σ H p1 p2) {a : Addr} {xs : List V} (h : SqL K Hs a xs) : SqL K H a xs := I.sub.seq h
theorem Rep.retV {r : R} {v : V} (h : Rep K S B (r :: Δ) (v :: δ) Γ σ H) : RepV K S B v r H := by
  obtain ⟨Hs, p1, p2, I⟩ := h
  have tm : Slots K B.tk Hs H (some r :: Δ.map some) (some v :: δ.map some) p1 := I.tm
  cases tm with
  | @cons _ _ _ _ q ps h a =>
    have nd := I.nd
    have sb : ∀ b, b ∈ B.fp ++ (q ++ []) → b ∈ B.fp ++ (q ++ ps ++ p2) := fun b hb => by
      simp only [List.mem_append, List.append_nil] at hb ⊢
      rcases hb with z | z
      · exact .inl z
      · exact .inr (.inl (.inl z))
    refine ⟨Hs, q ++ [], [], I.sub, fun b hb => I.off b (sb b (by simpa using hb)), ?_, I.st, Slots.cons h .nil, .nil, I.h0, I.l0, I.s0, I.new, fun b hb => I.own b ?_⟩
    · refine nd.sublist ?_
      refine List.Sublist.append (List.Sublist.refl _) ?_
      rw [List.append_nil, List.append_nil, List.append_assoc]
      exact List.sublist_append_left _ _
    · simp only [List.append_nil, List.mem_append] at hb ⊢
      exact .inl (.inl hb)
theorem RepI.drop2 {a : R} {d : D} {u v : V} (I : RepI K S B Hs (a :: .val d :: Δ) (u :: v :: δ) Γ σ H p1 p2) : ∃ p1', RepI K S B Hs (a :: Δ) (u :: δ) Γ σ H p1' p2 := by
  have tm := I.tm
  have tm' : Slots K B.tk Hs H (some a :: some (.val d) :: Δ.map some) (some u :: some v :: δ.map some) p1 := tm
  cases tm' with
  | cons h0 t0 =>
    cases t0 with
    | cons h1 t1 =>
      cases h1 with
      | val dv =>
        exact ⟨_, I.sub, I.off, I.nd, I.st, Slots.cons h0 t1, I.sl, I.h0, I.l0, I.s0, I.new, I.own⟩
theorem Rep.drop2 {a : R} {d : D} {u v : V} (h : Rep K S B (a :: .val d :: Δ) (u :: v :: δ) Γ σ H) : Rep K S B (a :: Δ) (u :: δ) Γ σ H := by
  obtain ⟨Hs, p1, p2, I⟩ := h
  obtain ⟨p1', I'⟩ := I.drop2
  exact ⟨Hs, p1', p2, I'⟩
end

/-! ### names, constants -/
def wVar (i : Nat) : WE := fun _ Γ P => match Γ[i]? with
  | some (some r) => P (.val r.d) (Γ.set i (some (.val r.d)))
  | _ => False
def wC (d : D) : WE := fun _ Γ P => P (.val d) Γ
section
variable {X : Cx} {S : SK} {W : WX} {pos : Pos} {a b c : Expr}

theorem pd_var {x : Str} (i : Nat) (h : PE X (.Name x pos) (tVar i)) : PE X (.Name x pos) (DE X.K S X.mg W (wVar i)) := by
  refine PE.imp h fun σ H Q ⟨B, Δ, δ, Γ, xp, P, ⟨Hs, p1, p2, I⟩, hs, k, _⟩ => ?_
  unfold wVar at hs
  split at hs
  · rename_i r e
    obtain ⟨v, Hs', p2', e1, e2, d, I'⟩ := I.frzAt e
    exact ⟨v, e1, k v H _ _ (I'.fin d) hs⟩
  · exact hs.elim
theorem pd_c {v : V} {d : D} (h : PE X a (tC v)) (hd : ∀ K tk Hs, Den K tk Hs v d) : PE X a (DE X.K S X.mg W (wC d)) := by
  refine PE.imp h fun σ H Q ⟨B, Δ, δ, Γ, xp, P, ⟨Hs, p1, p2, I⟩, hs, k, _⟩ => ?_
  exact k v H _ _ (I.fin (hd _ _ _)) hs
theorem pd_int {i j} : PE X (.Constant (.int i) j pos) (DE X.K S X.mg W (wC (.int i))) := pd_c pe_int fun _ _ _ => .int i
theorem pd_str {i j} (h : SOk i := by exact ⟨by decide +kernel, by decide +kernel⟩) : PE X (.Constant (.str i) j pos) (DE X.K S X.mg W (wC (.str i))) := pd_c pe_str fun _ _ _ => .str h
theorem pd_bl {i j} : PE X (.Constant (.bool i) j pos) (DE X.K S X.mg W (wC (.bl i))) := pd_c pe_bl fun _ _ _ => .bl i
theorem pd_non {j} : PE X (.Constant .none j pos) (DE X.K S X.mg W (wC .non)) := pd_c pe_non fun _ _ _ => .non

/-! ### two operands -/
def BinS (K : PySem.W.Frag) (S : SK) (r : R2) (w : D → D → (R → Prop) → Prop) : Prop := ∀ {B : Bs} {Hs : Hp} {Δ : List R} {δ : List V} {Γ : Nv} {σ : L2.St} {H : Hp} {p1 p2 : List Addr} {x y : V} {a b : D} {P : R → Prop} {Q : VK},
  RepI K S B Hs Δ δ Γ σ H p1 p2 → Den K B.tk Hs x a → Den K B.tk Hs y b → w a b P → (∀ v H' c, Rep K S B (c :: Δ) (v :: δ) Γ σ H' → P c → Q v H') → r x y H Q
def wBin (w : D → D → (R → Prop) → Prop) (sa sb : WE) : WE := fun xp Γ P => sa xp Γ fun ra Γ1 => sb xp Γ1 fun rb Γ2 => w ra.d rb.d fun c => P c Γ2
def wUn (w : D → (R → Prop) → Prop) (sa : WE) : WE := fun xp Γ P => sa xp Γ fun ra Γ1 => w ra.d fun c => P c Γ1
variable {sa sb sc : WE}
theorem bin_run {r : R2} {w : D → D → (R → Prop) → Prop} (hw : BinS X.K S r w) {σ : L2.St} {H : Hp} {Q : VK} (h : DE X.K S X.mg W (wBin w sa sb) σ H Q) : tOp r (DE X.K S X.mg W sa) (DE X.K S X.mg W sb) σ H Q := by
  obtain ⟨B, Δ, δ, Γ, xp, P, rp, hs, k, xl⟩ := h
  refine ⟨B, Δ, δ, Γ, xp, _, rp, hs, fun v H1 ra Γ1 rp1 h1 => ?_, xl⟩
  refine ⟨B, ra :: Δ, v :: δ, Γ1, xp, _, rp1, h1, fun u H2 rb Γ2 rp2 h2 => ?_, xl.push⟩
  obtain ⟨Hs, q1, q2, I, d1, d2⟩ := rp2.frz2
  exact hw I d2 d1 h2 fun z H' c rp' h' => k z H' c Γ2 rp' h'
theorem pd_bin {op : Operator} {r : R2} {w : D → D → (R → Prop) → Prop} (ho : OpR X (binaryOp op) r) (hw : BinS X.K S r w) (ha : PE X a (DE X.K S X.mg W sa)) (hb : PE X b (DE X.K S X.mg W sb)) : PE X (.BinOp a op b pos) (DE X.K S X.mg W (wBin w sa sb)) :=
  PE.imp (pe_op ho ha hb) fun _ _ _ h => bin_run hw h
theorem pd_cmp {op : CmpOp} {r : R2} {w : D → D → (R → Prop) → Prop} (ho : OpR X (compareOp op) r) (hw : BinS X.K S r w) (ha : PE X a (DE X.K S X.mg W sa)) (hb : PE X b (DE X.K S X.mg W sb)) (hm : behindInMarks op b = false) : PE X (.Compare a [op] [b] pos) (DE X.K S X.mg W (wBin w sa sb)) :=
  PE.imp (pe_cmpR ho ha hb hm) fun _ _ _ h => bin_run hw h
theorem pd_un {op : UnaryOp} {r : V → Hp → VK → Prop} {w : D → (R → Prop) → Prop} (ho : UnR X (unaryOp op) r)
    (hw : ∀ {B : Bs} {Hs : Hp} {Δ : List R} {δ : List V} {Γ : Nv} {σ : L2.St} {H : Hp} {p1 p2 : List Addr} {x : V} {a : D} {P : R → Prop} {Q : VK}, RepI X.K S B Hs Δ δ Γ σ H p1 p2 → Den X.K B.tk Hs x a → w a P → (∀ v H' c, Rep X.K S B (c :: Δ) (v :: δ) Γ σ H' → P c → Q v H') → r x H Q)
    (ha : PE X a (DE X.K S X.mg W sa)) : PE X (.UnaryOp op a pos) (DE X.K S X.mg W (wUn w sa)) := by
  refine PE.imp (pe_un ho ha) fun σ H Q ⟨B, Δ, δ, Γ, xp, P, rp, hs, k, xl⟩ => ?_
  refine ⟨B, Δ, δ, Γ, xp, _, rp, hs, fun v H1 ra Γ1 rp1 h1 => ?_, xl⟩
  obtain ⟨Hs, q1, q2, I, d1⟩ := rp1.frz
  exact hw I d1 h1 fun z H' c rp' h' => k z H' c Γ1 rp' h'

/-! ### tests -/
/-- a test by a value that is a bool -/
def wB (s : WE) : WT := fun xp Γ P => s xp Γ fun r Γ' => ∃ b, r = .val (.bl b) ∧ P b Γ'
theorem tB_run {s : WE} {σ : L2.St} {H : Hp} {Q : Bool → Hp → Prop} (h : DT X.K S X.mg W (wB s) σ H Q) : DE X.K S X.mg W s σ H fun x H' => ∃ k, x = .bl k ∧ Q k H' := by
  obtain ⟨B, Δ, δ, Γ, xp, P, rp, hs, k, xl⟩ := h
  refine ⟨B, Δ, δ, Γ, xp, _, rp, hs, fun v H1 ra Γ1 rp1 h1 => ?_, xl⟩
  obtain ⟨b, e, h1⟩ := h1
  subst e
  obtain ⟨Hs, q1, q2, I, d1⟩ := rp1.frz
  cases d1
  exact ⟨b, rfl, k b H1 Γ1 I.rep h1⟩
theorem pdt_cmp {op : CmpOp} {r : R2} {w : D → D → (R → Prop) → Prop} (ho : OpR X (compareOp op) r) (hw : BinS X.K S r w) (ha : PE X a (DE X.K S X.mg W sa)) (hb : PE X b (DE X.K S X.mg W sb)) (hm : behindInMarks op b = false) : PT X (.Compare a [op] [b] pos) (DT X.K S X.mg W (wB (wBin w sa sb))) :=
  PT.imp (pt_cmpR ho ha hb hm) fun _ _ _ h => bin_run hw (tB_run h)
/-- any expression whose value is a bool -/
theorem pdt_val {s : WE} (h : PE X a (DE X.K S X.mg W s)) (he : ∀ whole, isTrue a X.env whole = (do let v ← whole; standAt a.pos; holding [v] (truthy v))) : PT X a (DT X.K S X.mg W (wB s)) :=
  PT.imp (pt_val h he) fun _ _ _ h => tB_run h
def wAnd (s t : WT) : WT := fun xp Γ P => s xp Γ fun b Γ1 => if b = true then t xp Γ1 P else P false Γ1
def wOr (s t : WT) : WT := fun xp Γ P => s xp Γ fun b Γ1 => if b = true then P true Γ1 else t xp Γ1 P
def wNot (s : WT) : WT := fun xp Γ P => s xp Γ fun b Γ1 => P (!b) Γ1
variable {ta tb : WT} {rest : List Expr}
theorem pdw_and1 (ha : PT X a (DT X.K S X.mg W ta)) : PW X (.BoolOp .And [a] pos) (DT X.K S X.mg W ta) := pw_and1 ha
theorem pdw_or1 (ha : PT X a (DT X.K S X.mg W ta)) : PW X (.BoolOp .Or [a] pos) (DT X.K S X.mg W ta) := pw_or1 ha
theorem pdw_and (ha : PT X a (DT X.K S X.mg W ta)) (hb : PW X (.BoolOp .And (b :: rest) pos) (DT X.K S X.mg W tb)) : PW X (.BoolOp .And (a :: b :: rest) pos) (DT X.K S X.mg W (wAnd ta tb)) := by
  refine PW.imp (pw_and ha hb) fun σ H Q ⟨B, Δ, δ, Γ, xp, P, rp, hs, k, xl⟩ => ?_
  refine ⟨B, Δ, δ, Γ, xp, _, rp, hs, fun c H1 Γ1 rp1 h1 => ?_, xl⟩
  cases c with
  | true => exact iteT ⟨B, Δ, δ, Γ1, xp, P, rp1, h1, k, xl⟩
  | false => exact iteF (k false H1 Γ1 rp1 h1)
theorem pdw_or (ha : PT X a (DT X.K S X.mg W ta)) (hb : PW X (.BoolOp .Or (b :: rest) pos) (DT X.K S X.mg W tb)) : PW X (.BoolOp .Or (a :: b :: rest) pos) (DT X.K S X.mg W (wOr ta tb)) := by
  refine PW.imp (pw_or ha hb) fun σ H Q ⟨B, Δ, δ, Γ, xp, P, rp, hs, k, xl⟩ => ?_
  refine ⟨B, Δ, δ, Γ, xp, _, rp, hs, fun c H1 Γ1 rp1 h1 => ?_, xl⟩
  cases c with
  | true => exact iteT (k true H1 Γ1 rp1 h1)
  | false => exact iteF ⟨B, Δ, δ, Γ1, xp, P, rp1, h1, k, xl⟩
theorem pdt_not (ha : PT X a (DT X.K S X.mg W ta)) : PT X (.UnaryOp .Not a pos) (DT X.K S X.mg W (wNot ta)) := by
  refine PT.imp (pt_not ha) fun σ H Q ⟨B, Δ, δ, Γ, xp, P, rp, hs, k, xl⟩ => ?_
  exact ⟨B, Δ, δ, Γ, xp, _, rp, hs, fun c H1 Γ1 rp1 h1 => k (!c) H1 Γ1 rp1 h1, xl⟩
/-- and, or, not as values: bools -/
def wAndV (s t : WE) : WE := fun xp Γ P => s xp Γ fun r Γ1 => ∃ b, r = .val (.bl b) ∧ if b = true then t xp Γ1 P else P (.val (.bl false)) Γ1
def wOrV (s t : WE) : WE := fun xp Γ P => s xp Γ fun r Γ1 => ∃ b, r = .val (.bl b) ∧ if b = true then P (.val (.bl true)) Γ1 else t xp Γ1 P
def wNotV (s : WE) : WE := fun xp Γ P => s xp Γ fun r Γ1 => ∃ b, r = .val (.bl b) ∧ P (.val (.bl (!b))) Γ1
theorem pd_one {op} (h : PE X a (DE X.K S X.mg W sa)) : PE X (.BoolOp op [a] pos) (DE X.K S X.mg W sa) := pe_one h
theorem pd_and (ha : PE X a (DE X.K S X.mg W sa)) (hb : PE X (.BoolOp .And (b :: rest) pos) (DE X.K S X.mg W sb)) : PE X (.BoolOp .And (a :: b :: rest) pos) (DE X.K S X.mg W (wAndV sa sb)) := by
  refine PE.imp (pe_and ha hb) fun σ H Q ⟨B, Δ, δ, Γ, xp, P, rp, hs, k, xl⟩ => ?_
  refine ⟨B, Δ, δ, Γ, xp, _, rp, hs, fun v H1 ra Γ1 rp1 h1 => ?_, xl⟩
  obtain ⟨c, e, h1⟩ := h1
  subst e
  obtain ⟨Hs, q1, q2, I, d1⟩ := rp1.frz
  cases d1
  refine ⟨c, rfl, ?_⟩
  cases c with
  | true => exact iteT ⟨B, Δ, δ, Γ1, xp, P, I.rep, h1, k, xl⟩
  | false => exact iteF (k _ H1 _ Γ1 (I.fin (.bl false)) h1)
theorem pd_or (ha : PE X a (DE X.K S X.mg W sa)) (hb : PE X (.BoolOp .Or (b :: rest) pos) (DE X.K S X.mg W sb)) : PE X (.BoolOp .Or (a :: b :: rest) pos) (DE X.K S X.mg W (wOrV sa sb)) := by
  refine PE.imp (pe_or ha hb) fun σ H Q ⟨B, Δ, δ, Γ, xp, P, rp, hs, k, xl⟩ => ?_
  refine ⟨B, Δ, δ, Γ, xp, _, rp, hs, fun v H1 ra Γ1 rp1 h1 => ?_, xl⟩
  obtain ⟨c, e, h1⟩ := h1
  subst e
  obtain ⟨Hs, q1, q2, I, d1⟩ := rp1.frz
  cases d1
  refine ⟨c, rfl, ?_⟩
  cases c with
  | true => exact iteT (k _ H1 _ Γ1 (I.fin (.bl true)) h1)
  | false => exact iteF ⟨B, Δ, δ, Γ1, xp, P, I.rep, h1, k, xl⟩
theorem pd_not (ha : PE X a (DE X.K S X.mg W sa)) : PE X (.UnaryOp .Not a pos) (DE X.K S X.mg W (wNotV sa)) := by
  refine PE.imp (pe_not ha) fun σ H Q ⟨B, Δ, δ, Γ, xp, P, rp, hs, k, xl⟩ => ?_
  refine ⟨B, Δ, δ, Γ, xp, _, rp, hs, fun v H1 ra Γ1 rp1 h1 => ?_, xl⟩
  obtain ⟨c, e, h1⟩ := h1
  subst e
  obtain ⟨Hs, q1, q2, I, d1⟩ := rp1.frz
  cases d1
  exact ⟨c, rfl, k _ H1 _ Γ1 (I.fin (.bl _)) h1⟩
def wIfE (t : WT) (s u : WE) : WE := fun xp Γ P => t xp Γ fun b Γ1 => if b = true then s xp Γ1 P else u xp Γ1 P
theorem pd_if (hc : PT X c (DT X.K S X.mg W ta)) (ha : PE X a (DE X.K S X.mg W sa)) (hb : PE X b (DE X.K S X.mg W sb)) : PE X (.IfExp c a b pos) (DE X.K S X.mg W (wIfE ta sa sb)) := by
  refine PE.imp (pe_ifExp hc ha hb) fun σ H Q ⟨B, Δ, δ, Γ, xp, P, rp, hs, k, xl⟩ => ?_
  refine ⟨B, Δ, δ, Γ, xp, _, rp, hs, fun c H1 Γ1 rp1 h1 => ?_, xl⟩
  cases c with
  | true => exact iteT ⟨B, Δ, δ, Γ1, xp, P, rp1, h1, k, xl⟩
  | false => exact iteF ⟨B, Δ, δ, Γ1, xp, P, rp1, h1, k, xl⟩
/-- a < b < c -/
def wChain (w w' : D → D → (R → Prop) → Prop) (sa sb sc : WE) : WE := fun xp Γ P => sa xp Γ fun ra Γ1 => sb xp Γ1 fun rb Γ2 => w ra.d rb.d fun c => ∃ k, c = .val (.bl k) ∧
  if k = true then sc xp Γ2 fun rc Γ3 => w' rb.d rc.d fun c => P c Γ3 else P (.val (.bl false)) Γ2
theorem chain_run {r r' : R2} {w w' : D → D → (R → Prop) → Prop} (hw : BinS X.K S r w) (hw' : BinS X.K S r' w') {σ : L2.St} {H : Hp} {Q : VK} (h : DE X.K S X.mg W (wChain w w' sa sb sc) σ H Q) :
    tChain r r' (DE X.K S X.mg W sa) (DE X.K S X.mg W sb) (DE X.K S X.mg W sc) σ H Q := by
  obtain ⟨B, Δ, δ, Γ, xp, P, rp, hs, k, xl⟩ := h
  refine ⟨B, Δ, δ, Γ, xp, _, rp, hs, fun v H1 ra Γ1 rp1 h1 => ?_, xl⟩
  refine ⟨B, ra :: Δ, v :: δ, Γ1, xp, _, rp1, h1, fun u H2 rb Γ2 rp2 h2 => ?_, xl.push⟩
  obtain ⟨Hs, q1, q2, I, d1, d2⟩ := rp2.frz2
  refine hw (I.push d1) d2 d1 h2 fun z H' c rp' h' => ?_
  obtain ⟨kk, e, h'⟩ := h'
  subst e
  obtain ⟨Hs3, q1, q2, I3, d3⟩ := rp'.frz
  cases d3
  refine ⟨kk, rfl, ?_⟩
  cases kk with
  | false => exact iteF (k _ H' _ Γ2 ((RepI.pop I3).elim fun _ J => J.fin (.bl false)) h')
  | true =>
    refine iteT ⟨B, .val rb.d :: Δ, u :: δ, Γ2, xp, _, I3.rep, h', fun w3 H3 rc Γ3 rp3 h3 => ?_, xl.push⟩
    obtain ⟨Hs4, q1, q2, I4, d4, d5⟩ := rp3.frz2
    exact hw' I4 d5 d4 h3 fun z H' c rp' h' => k z H' c Γ3 rp' h'
theorem pd_chain {op op' : CmpOp} {r r' : R2} {w w' : D → D → (R → Prop) → Prop} (ho : OpR X (compareOp op) r) (hw : BinS X.K S r w) (ho' : OpR X (compareOp op') r') (hw' : BinS X.K S r' w')
    (ha : PE X a (DE X.K S X.mg W sa)) (hb : PE X b (DE X.K S X.mg W sb)) (hc : PE X c (DE X.K S X.mg W sc)) (hm : lastMarks [op, op'] [b, c] = false) : PE X (.Compare a [op, op'] [b, c] pos) (DE X.K S X.mg W (wChain w w' sa sb sc)) :=
  PE.imp (pe_chain ho ho' ha hb hc hm) fun _ _ _ h => chain_run hw hw' h
theorem pdt_chain {op op' : CmpOp} {r r' : R2} {w w' : D → D → (R → Prop) → Prop} (ho : OpR X (compareOp op) r) (hw : BinS X.K S r w) (ho' : OpR X (compareOp op') r') (hw' : BinS X.K S r' w')
    (ha : PE X a (DE X.K S X.mg W sa)) (hb : PE X b (DE X.K S X.mg W sb)) (hc : PE X c (DE X.K S X.mg W sc)) (hm : lastMarks [op, op'] [b, c] = false) : PT X (.Compare a [op, op'] [b, c] pos) (DT X.K S X.mg W (wB (wChain w w' sa sb sc))) :=
  PT.imp (pt_chain ho ho' ha hb hc hm) fun _ _ _ h => chain_run hw hw' (tB_run h)

/-! ### argument lists, displays -/
def wNil : WA := fun _ Γ P => P [] Γ
def wCons (s : WE) (t : WA) : WA := fun xp Γ P => s xp Γ fun r Γ1 => t xp Γ1 fun ds Γ2 => P (r.d :: ds) Γ2
variable {e : Expr} {es : List Expr} {ss : WA}
theorem pda_nil : PA X [] (DA X.K S X.mg W wNil) := PA.imp pa_nil fun σ H Q ⟨B, Δ, δ, Γ, xp, P, ⟨Hs, p1, p2, I⟩, hs, k, _⟩ => k [] H [] Γ Hs p1 p2 I .nil hs
theorem pda_cons (ha : PE X e (DE X.K S X.mg W sa)) (hr : PA X es (DA X.K S X.mg W ss)) (hs : starEach (e :: es) X.env = (false, eval e X.env) :: starEach es X.env := by rfl) : PA X (e :: es) (DA X.K S X.mg W (wCons sa ss)) := by
  refine PA.imp (pa_cons ha hr hs) fun σ H Q ⟨B, Δ, δ, Γ, xp, P, rp, hs, k, xl⟩ => ?_
  refine ⟨B, Δ, δ, Γ, xp, _, rp, hs, fun v H1 ra Γ1 rp1 h1 => ?_, xl⟩
  refine ⟨B, ra :: Δ, v :: δ, Γ1, xp, _, rp1, h1, fun vs H2 ds Γ2 Hs p1 p2 I2 d2 h2 => ?_, xl.push⟩
  obtain ⟨Hs', p1', e', d, I'⟩ := I2.frz
  exact k (v :: vs) H2 (ra.d :: ds) Γ2 Hs' p1' p2 I' (.cons d (d2.mono e')) h2
def wTup (s : WA) : WE := fun xp Γ P => s xp Γ fun ds Γ1 => ds.length ≤ sizeLine ∧ P (.val (.tup ds)) Γ1
def wLst (s : WA) : WE := fun xp Γ P => s xp Γ fun ds Γ1 => ds.length ≤ sizeLine ∧ P (.lst ds) Γ1
theorem pd_tup {x1} (h : PA X es (DA X.K S X.mg W ss)) : PE X (.Tuple es x1 pos) (DE X.K S X.mg W (wTup ss)) := by
  refine PE.imp (pe_tup h) fun σ H Q ⟨B, Δ, δ, Γ, xp, P, rp, hs, k, xl⟩ => ?_
  refine ⟨B, Δ, δ, Γ, xp, _, rp, hs, fun vs H1 ds Γ1 Hs p1 p2 I d h1 => ?_, xl⟩
  exact ⟨by rw [d.length]; exact h1.1, fun p n => k _ _ _ Γ1 (I.finT d n) h1.2⟩
theorem pd_lst (h : PA X es (DA X.K S X.mg W ss)) : PE X (.List es pos) (DE X.K S X.mg W (wLst ss)) := by
  refine PE.imp (pe_lst h) fun σ H Q ⟨B, Δ, δ, Γ, xp, P, rp, hs, k, xl⟩ => ?_
  refine ⟨B, Δ, δ, Γ, xp, _, rp, hs, fun vs H1 ds Γ1 Hs p1 p2 I d h1 => ?_, xl⟩
  exact ⟨by rw [d.length]; exact h1.1, fun p n => k _ _ _ Γ1 (I.finL d n) h1.2⟩

/-! ### calls of what is built in, by values -/
def CallS (K : PySem.W.Frag) (S : SK) (r : List V → Hp → VK → Prop) (w : List D → (R → Prop) → Prop) : Prop := ∀ {B : Bs} {Hs : Hp} {Δ : List R} {δ : List V} {Γ : Nv} {σ : L2.St} {H : Hp} {p1 p2 : List Addr} {vs : List V} {ds : List D} {P : R → Prop} {Q : VK},
  RepI K S B Hs Δ δ Γ σ H p1 p2 → DenAll K B.tk Hs vs ds → w ds P → (∀ v H' c, Rep K S B (c :: Δ) (v :: δ) Γ σ H' → P c → Q v H') → r vs H Q
def wCB (w : List D → (R → Prop) → Prop) (s : WA) : WE := fun xp Γ P => s xp Γ fun ds Γ1 => w ds fun c => P c Γ1
theorem pd_callB {x : Str} {id : String} {p : Pos} {r : List V → Hp → VK → Prop} {w : List D → (R → Prop) → Prop} (hc : CallR X (.builtin id) r) (hw : CallS X.K S r w) (hg : Gl X x) (hm : X.mg x = none) (hv : bootBuiltins x = some (.builtin id)) (ha : PA X (e :: es) (DA X.K S X.mg W ss))
    (hn : x ≠ "__name__" := by decide) (hdb : (x == ("__debug__" : Str)) = false := by decide)
    (he : starEach (e :: es) X.env = (false, eval e X.env) :: starEach es X.env := by rfl) (hpl : (backTo pos (starEach es X.env)).any (·.1) = false := by rfl) : PE X (.Call (.Name x p) (e :: es) [] pos) (DE X.K S X.mg W (wCB w ss)) := by
  refine PE.imp (pe_callB hc hg hm hv ha hn hdb he hpl) fun σ H Q ⟨B, Δ, δ, Γ, xp, P, rp, hs, k, xl⟩ => ?_
  exact ⟨B, Δ, δ, Γ, xp, _, rp, hs, fun vs H1 ds Γ1 Hs p1 p2 I d h1 => hw I d h1 fun v H' c rp' h' => k v H' c Γ1 rp' h', xl⟩
theorem pd_callTy {x : Str} {T : String} {p : Pos} {r : List V → Hp → VK → Prop} {w : List D → (R → Prop) → Prop} (hc : CallR X (.type T) r) (hw : CallS X.K S r w) (hg : Gl X x) (hm : X.mg x = none) (hv : bootBuiltins x = some (.type T)) (ha : PA X (e :: es) (DA X.K S X.mg W ss))
    (hn : x ≠ "__name__" := by decide) (hdb : (x == ("__debug__" : Str)) = false := by decide)
    (he : starEach (e :: es) X.env = (false, eval e X.env) :: starEach es X.env := by rfl) (hpl : (backTo pos (starEach es X.env)).any (·.1) = false := by rfl) : PE X (.Call (.Name x p) (e :: es) [] pos) (DE X.K S X.mg W (wCB w ss)) := by
  refine PE.imp (pe_callTy hc hg hm hv ha hn hdb he hpl) fun σ H Q ⟨B, Δ, δ, Γ, xp, P, rp, hs, k, xl⟩ => ?_
  exact ⟨B, Δ, δ, Γ, xp, _, rp, hs, fun vs H1 ds Γ1 Hs p1 p2 I d h1 => hw I d h1 fun v H' c rp' h' => k v H' c Γ1 rp' h', xl⟩
end
end DL

set_option maxHeartbeats 1000000
namespace DL
open PySem PySem.Spec L2

/-! ### texts that are well -/
theorem SOk.append {a b : Str} (ha : SOk a) (hb : SOk b) (h : a.length + b.length ≤ sizeLine) : SOk (a ++ b) := by
  refine ⟨?_, ?_⟩
  · have h1 := ha.1
    have h2 := hb.1
    unfold PyData.strOk at *
    show (a.cps ++ b.cps).all _ = true
    rw [Array.all_append, h1, h2]; rfl
  · show (a.cps ++ b.cps).size ≤ _
    rw [Array.size_append]; exact h
theorem SOk.one {a : Str} (ha : SOk a) {i : Int} {c : Nat} (h : atI a.cps.toList i = some c) : SOk ⟨#[c]⟩ := by
  refine ⟨?_, by show 1 ≤ sizeLine; decide⟩
  obtain ⟨j, _, h2, _⟩ := atI_get h
  have h1 := ha.1
  unfold PyData.strOk at *
  rw [← Array.all_toList, List.all_eq_true] at h1
  have := h1 c (List.mem_of_getElem? h2)
  simpa using this
theorem SOk.cut {a : Str} (ha : SOk a) (lo hi : Option Int) : SOk (cutS a lo hi) := by
  refine ⟨?_, Nat.le_trans (cutS_length a lo hi) ha.2⟩
  have h1 := ha.1
  unfold PyData.strOk at *
  rw [← Array.all_toList, List.all_eq_true] at h1
  rw [← Array.all_toList, List.all_eq_true]
  intro c hc
  refine h1 c ?_
  have : (cutS a lo hi).cps.toList = ((a.cps.toList.drop (HT.sIx a.length 0 lo)).take (HT.sIx a.length a.length hi - HT.sIx a.length 0 lo)) := by
    unfold cutS; simp
  rw [this] at hc
  exact List.mem_of_mem_drop (List.mem_of_mem_take hc)

/-! ### == as data -/
mutual
def D.py : D → PyData
  | .non => .none | .bl b => .bool b | .int i => .int i | .str x => .str x
  | .tup l => .tuple (D.pys l) | .lst l => .list (D.pys l) | .fro l => .list (D.pys l)
  | .dct _ => .none | .tok => .none | .raw _ => .none | .exc _ _ _ => .none
def D.pys : List D → List PyData
  | [] => []
  | d :: ds => d.py :: D.pys ds
end
mutual
/-- no dict, token or raw value within -/
def D.plain : D → Bool
  | .non => true | .bl _ => true | .int _ => true | .str _ => true
  | .tup l => D.plains l | .lst l => D.plains l | .fro l => D.plains l
  | .dct _ => false | .tok => false | .raw _ => false | .exc _ _ _ => false
def D.plains : List D → Bool
  | [] => true
  | d :: ds => d.plain && D.plains ds
end
def D.eqOk (a : D) : Prop := a.plain = true ∧ a.py.depth ≤ 64
def D.eqv (a b : D) : Bool := PyData.eqv a.py b.py
section
variable {K : PySem.W.Frag} {tk : Option Addr} {H : Hp}
mutual
theorem Den.dp : ∀ {v : V} {d : D}, Den K tk H v d → d.plain = true → Dp K H v d.py
  | _, _, .non, _ => by unfold D.py; exact .non
  | _, _, .bl b, _ => by unfold D.py; exact .bl b
  | _, _, .int i, _ => by unfold D.py; exact .int i
  | _, _, .str (x := x) h, _ => by unfold D.py; exact .str x
  | _, _, .tup h a, p => by unfold D.py; exact .tup h (DenAll.dp a (by simpa [D.plain] using p))
  | _, _, .lst h a, p => by unfold D.py; exact .lst (.inl (.inl h)) (DenAll.dp a (by simpa [D.plain] using p))
  | _, _, .fro h a, p => by unfold D.py; exact .lst h (DenAll.dp a (by simpa [D.plain] using p))
  | _, _, .dct _ _, p => by simp [D.plain] at p
  | _, _, .tok _, p => by simp [D.plain] at p
  | _, _, .raw _, p => by simp [D.plain] at p
  | _, _, .exc _ _, p => by simp [D.plain] at p
theorem DenAll.dp : ∀ {vs : List V} {ds : List D}, DenAll K tk H vs ds → D.plains ds = true → DpAll K H vs (D.pys ds)
  | _, _, .nil, _ => by unfold D.pys; exact .nil
  | _, _, .cons h a, p => by
    simp only [D.plains, Bool.and_eq_true] at p
    unfold D.pys
    exact .cons (Den.dp h p.1) (DenAll.dp a p.2)
end
mutual
theorem Den.lay : ∀ {v : V} {d : D}, Den K tk H v d → d.py.canLay0 = true
  | _, _, .non => by simp [D.py, PyData.canLay0]
  | _, _, .bl b => by simp [D.py, PyData.canLay0]
  | _, _, .int i => by simp [D.py, PyData.canLay0]
  | _, _, .str (x := x) h => by simp only [D.py, PyData.canLay0]; exact h.1
  | _, _, .tup h a => by simp only [D.py, PyData.canLay0]; exact DenAll.lay a
  | _, _, .lst h a => by simp only [D.py, PyData.canLay0]; exact DenAll.lay a
  | _, _, .fro h a => by simp only [D.py, PyData.canLay0]; exact DenAll.lay a
  | _, _, .dct _ _ => by simp [D.py, PyData.canLay0]
  | _, _, .tok _ => by simp [D.py, PyData.canLay0]
  | _, _, .raw _ => by simp [D.py, PyData.canLay0]
  | _, _, .exc _ _ => by simp [D.py, PyData.canLay0]
theorem DenAll.lay : ∀ {vs : List V} {ds : List D}, DenAll K tk H vs ds → PyData.canLayAll0 (D.pys ds) = true
  | _, _, .nil => by simp [D.pys, PyData.canLayAll0]
  | _, _, .cons h a => by simp only [D.pys, PyData.canLayAll0, Bool.and_eq_true]; exact ⟨Den.lay h, DenAll.lay a⟩
end
theorem Den.shaped {v : V} {d : D} (h : Den K tk H v d) (e : d.eqOk) : SeqAt.shaped d.py = true := by
  unfold SeqAt.shaped
  rw [h.lay, decide_eq_true e.2]; rfl
end

section
variable {K : PySem.W.Frag} {S : SK} {X : Cx}
/-! ### + - * // % and the like -/
def rAdd4 (K : PySem.W.Frag) : R2 := fun x y H Q => (rI0 (fun i j => .int (i + j)) x y H Q ∨ (∃ i j, x = .str i ∧ y = .str j ∧ i.length + j.length ≤ sizeLine ∧ Q (.str (i ++ j)) H)) ∨ (rCat x y H Q ∨ rCatA K x y H Q)
theorem op_add4 : OpR X (binaryOp .Add) (rAdd4 X.K) := (op_add.or op_add_str).or (op_cat.or op_catA)
def wAdd : D → D → (R → Prop) → Prop
  | .int i, .int j, P => P (.val (.int (i + j)))
  | .str a, .str b, P => a.length + b.length ≤ sizeLine ∧ P (.val (.str (a ++ b)))
  | .lst a, .lst b, P => a.length + b.length ≤ sizeLine ∧ P (.lst (a ++ b))
  | .tup a, .tup b, P => a.length + b.length ≤ sizeLine ∧ P (.val (.tup (a ++ b)))
  | _, _, _ => False
theorem bs_add : BinS K S (rAdd4 K) wAdd := by
  intro B Hs Δ δ Γ σ H p1 p2 x y a b P Q I da db hw k
  cases a <;> cases b <;> try exact (show False from hw).elim
  · cases da; cases db
    exact .inl (.inl ⟨_, _, rfl, rfl, k _ _ _ (I.fin (.int _)) hw⟩)
  · cases da with
    | str ha => cases db with
      | str hb => exact .inl (.inr ⟨_, _, rfl, rfl, hw.1, k _ _ _ (I.fin (.str (ha.append hb hw.1))) hw.2⟩)
  · cases da with
    | tup h1 a1 => cases db with
      | tup h2 a2 =>
        refine .inr (.inr ⟨_, _, _, _, rfl, rfl, I.sqT h1, I.sqT h2, by rw [a1.length, a2.length]; exact hw.1, fun e => ?_, fun _ e => ?_, fun _ _ p n => ?_⟩)
        · subst e; cases a1; exact k _ _ _ (I.fin (.tup h2 a2)) hw.2
        · subst e; cases a2; refine k _ _ _ (I.fin (.tup h1 a1)) ?_
          have := hw.2
          rwa [List.append_nil] at this
        · exact k _ _ _ (I.finT (a1.append a2) n) hw.2
  · cases da with
    | lst h1 a1 => cases db with
      | lst h2 a2 =>
        exact .inr (.inl ⟨_, _, _, _, rfl, rfl, I.sub _ _ h1, I.sub _ _ h2, by rw [a1.length, a2.length]; exact hw.1, fun p n => k _ _ _ (I.finL (a1.append a2) n) hw.2⟩)
/-- ints to an int, under a condition -/
def wII (C : Int → Int → Prop) (g : Int → Int → D) : D → D → (R → Prop) → Prop
  | .int i, .int j, P => C i j ∧ P (.val (g i j))
  | _, _, _ => False
def wII0 (g : Int → Int → D) : D → D → (R → Prop) → Prop
  | .int i, .int j, P => P (.val (g i j))
  | _, _, _ => False
theorem bs_II {C : Int → Int → Prop} {g : Int → Int → V} {g' : Int → Int → D} (hg : ∀ K tk H i j, Den K tk H (g i j) (g' i j)) : BinS K S (rI C g) (wII C g') := by
  intro B Hs Δ δ Γ σ H p1 p2 x y a b P Q I da db hw k
  cases a <;> cases b <;> try exact (show False from hw).elim
  cases da; cases db
  exact ⟨_, _, rfl, rfl, hw.1, k _ _ _ (I.fin (hg _ _ _ _ _)) hw.2⟩
theorem bs_II0 {g : Int → Int → V} {g' : Int → Int → D} (hg : ∀ K tk H i j, Den K tk H (g i j) (g' i j)) : BinS K S (rI0 g) (wII0 g') := by
  intro B Hs Δ δ Γ σ H p1 p2 x y a b P Q I da db hw k
  cases a <;> cases b <;> try exact (show False from hw).elim
  cases da; cases db
  exact ⟨_, _, rfl, rfl, k _ _ _ (I.fin (hg _ _ _ _ _)) hw⟩
def wSub := wII0 fun i j => .int (i - j)
theorem bs_sub : BinS K S (rI0 fun i j => .int (i - j)) wSub := bs_II0 fun _ _ _ _ _ => .int _
def wMod := wII (fun _ j => 0 < j) fun i j => .int (i % j)
theorem bs_mod : BinS K S (rI (fun _ j => 0 < j) fun i j => .int (i % j)) wMod := bs_II fun _ _ _ _ _ => .int _
def wDiv := wII CDiv fun i j => .int (i / j)
theorem bs_div : BinS K S (rI CDiv fun i j => .int (i / j)) wDiv := bs_II fun _ _ _ _ _ => .int _
def wPow := wII CPow fun i j => .int (i ^ j.toNat)
theorem bs_pow : BinS K S (rI CPow fun i j => .int (i ^ j.toNat)) wPow := bs_II fun _ _ _ _ _ => .int _
def wShl := wII CPow fun i j => .int (i * 2 ^ j.toNat)
theorem bs_shl : BinS K S (rI CPow fun i j => .int (i * 2 ^ j.toNat)) wShl := bs_II fun _ _ _ _ _ => .int _
def wShr := wII (fun _ j => 0 ≤ j) fun i j => .int (i / 2 ^ j.toNat)
theorem bs_shr : BinS K S (rI (fun _ j => 0 ≤ j) fun i j => .int (i / 2 ^ j.toNat)) wShr := bs_II fun _ _ _ _ _ => .int _
def wBAnd := wII0 fun i j => .int (Builtin.bitAnd i j)
theorem bs_band : BinS K S (rI0 fun i j => .int (Builtin.bitAnd i j)) wBAnd := bs_II0 fun _ _ _ _ _ => .int _
def wBOr := wII0 fun i j => .int (Builtin.bitOr i j)
theorem bs_bor : BinS K S (rI0 fun i j => .int (Builtin.bitOr i j)) wBOr := bs_II0 fun _ _ _ _ _ => .int _
def wBXor := wII0 fun i j => .int (Builtin.bitXor i j)
theorem bs_bxor : BinS K S (rI0 fun i j => .int (Builtin.bitXor i j)) wBXor := bs_II0 fun _ _ _ _ _ => .int _
/-! texts times an int -/
def repS (s : Str) (n : Nat) : Str := ⟨(List.replicate n s.cps.toList).flatten.toArray⟩
theorem repS_len (s : Str) (n : Nat) : (repS s n).length = n * s.length := by
  show (List.replicate n s.cps.toList).flatten.toArray.size = n * s.cps.size
  simp
theorem repS_fold (a : Array Nat) : ∀ (n : Nat) (b : Array Nat), (List.replicate n a).foldl (· ++ ·) b = (b.toList ++ (List.replicate n a.toList).flatten).toArray
  | 0, b => by simp
  | n + 1, b => by
    rw [List.replicate_succ, List.foldl_cons, repS_fold a n (b ++ a)]
    simp [List.replicate_succ]
theorem repS_eq (s : Str) (n : Nat) : (⟨(List.replicate n s.cps).foldl (· ++ ·) #[]⟩ : Str) = repS s n := by
  unfold repS
  rw [repS_fold]
  simp
theorem repS_empty (n : Nat) {s : Str} (h : s.length = 0) : repS s n = s := by
  obtain ⟨⟨l⟩⟩ := s
  have : l = [] := List.eq_nil_of_length_eq_zero h
  subst this
  unfold repS
  simp
theorem SOk.rep {s : Str} (hs : SOk s) {n : Nat} (h : s.length * n ≤ sizeLine) : SOk (repS s n) := by
  refine ⟨?_, by rw [repS_len, Nat.mul_comm]; exact h⟩
  have h1 := hs.1
  unfold PyData.strOk repS at *
  rw [← Array.all_toList, List.all_eq_true] at h1
  rw [← Array.all_toList, List.all_eq_true]
  intro c hc
  simp only [List.mem_flatten, List.mem_replicate] at hc
  obtain ⟨l, ⟨_, rfl⟩, hc⟩ := hc
  exact h1 c hc
def rRepS : R2 := fun x y H Q => ∃ s k, x = .str s ∧ y = .int k ∧ -(2 ^ 63) ≤ k ∧ k < 2 ^ 63 ∧ s.length * k.toNat ≤ 16777216 ∧ Q (.str (repS s k.toNat)) H
theorem op_repS : OpR X (binaryOp .Mult) rRepS := by
  intro pins s σ H x y v u Q I rx ry h
  obtain ⟨z, k, rfl, rfl, h1, h2, h3, q⟩ := h
  obtain ⟨t, rfl⟩ := rx
  obtain ⟨t', rfl⟩ := ry
  have fin : ∀ (tk : Nat) (t : Tok), EP X pins σ Q (.str (repS z k.toNat) t) { s with toks := tk } := fun tk t => ⟨.str (repS z k.toNat), H, I.tok _, ⟨_, rfl⟩, q⟩
  refine PySem.P.mul_str ?_ (fun h _ => ?_) (fun h _ => PyProof.Rows.short24 h3) ?_
  · rw [decide_eq_false (show ¬ k < -(2 ^ 63 : Int) by omega), decide_eq_false (show ¬ k ≥ 2 ^ 63 by omega)]; rfl
  · have hk : 0 < k := by omega
    have e : ((z.length * k.toNat : Nat) : Int) = (z.length : Int) * k := by
      rw [Int.natCast_mul, Int.toNat_of_nonneg (by omega)]
    have h4 : (z.length : Int) ≤ (2 ^ 63 - 1) / k := by
      rw [Int.le_ediv_iff_mul_le hk, ← e]
      omega
    omega
  · split
    · rename_i hn
      have e : repS z k.toNat = Str.empty := by rw [show k.toNat = 0 by omega]; rfl
      exact ⟨by decide, by have := fin (s.toks + 1) s.toks; rwa [e] at this⟩
    · split
      · rename_i hn hc
        have e : repS z k.toNat = z := by
          rcases Bool.or_eq_true _ _ ▸ hc with hc | hc
          · have : k = 1 := by simpa using hc
            subst this
            obtain ⟨⟨l⟩⟩ := z
            simp [repS]
          · exact repS_empty _ (by simpa using hc)
        have := fin s.toks t
        rwa [e] at this
      · refine ⟨?_, ?_⟩
        · rw [repS_eq, repS_len, Nat.mul_comm, sizeLine_eq]; exact h3
        · rw [repS_eq]; exact fin _ _
/-- * : ints; a list, a text by an int -/
def rMul2 : R2 := fun x y H Q => (rI CMul (fun i j => .int (i * j)) x y H Q ∨ rRep x y H Q) ∨ rRepS x y H Q
theorem op_mul2 : OpR X (binaryOp .Mult) rMul2 := (op_mul.or op_rep).or op_repS
def wMul : D → D → (R → Prop) → Prop
  | .int i, .int j, P => CMul i j ∧ P (.val (.int (i * j)))
  | .lst l, .int k, P => -(2 ^ 63) ≤ k ∧ k < 2 ^ 63 ∧ l.length * k.toNat ≤ sizeLine ∧ P (.lst (List.replicate k.toNat l).flatten)
  | .str s, .int k, P => (-(2 ^ 63) ≤ k ∧ k < 2 ^ 63 ∧ s.length * k.toNat ≤ 16777216) ∧ P (.val (.str (repS s k.toNat)))
  | _, _, _ => False
theorem bs_mul : BinS K S rMul2 wMul := by
  intro B Hs Δ δ Γ σ H p1 p2 x y a b P Q I da db hw k
  cases a <;> cases b <;> try exact (show False from hw).elim
  · cases da; cases db
    exact .inl (.inl ⟨_, _, rfl, rfl, hw.1, k _ _ _ (I.fin (.int _)) hw.2⟩)
  · cases db
    cases da with
    | str hs =>
      exact .inr ⟨_, _, rfl, rfl, hw.1.1, hw.1.2.1, hw.1.2.2, k _ _ _ (I.fin (.str (hs.rep (by rw [sizeLine_eq]; exact hw.1.2.2)))) hw.2⟩
  · cases db
    cases da with
    | lst h1 a1 =>
      exact .inl (.inr ⟨_, _, _, rfl, rfl, I.sub _ _ h1, hw.1, hw.2.1, by rw [a1.length]; exact hw.2.2.1, fun p n => k _ _ _ (I.finL (a1.rep _) n) hw.2.2.2⟩)

/-! ### comparisons -/
abbrev rStr (g : List Nat → List Nat → Bool) : R2 := fun x y H Q => ∃ i j, x = .str i ∧ y = .str j ∧ Q (.bl (g i.cps.toList j.cps.toList)) H
def wOrd (f : Int → Int → Bool) (g : List Nat → List Nat → Bool) : D → D → (R → Prop) → Prop
  | .int i, .int j, P => P (.val (.bl (f i j)))
  | .str a, .str b, P => P (.val (.bl (g a.cps.toList b.cps.toList)))
  | _, _, _ => False
theorem bs_ord {f : Int → Int → Bool} {g : List Nat → List Nat → Bool} : BinS K S (fun x y H Q => rI0 (fun i j => .bl (f i j)) x y H Q ∨ rStr g x y H Q) (wOrd f g) := by
  intro B Hs Δ δ Γ σ H p1 p2 x y a b P Q I da db hw k
  cases a <;> cases b <;> try exact (show False from hw).elim
  · cases da; cases db
    exact .inl ⟨_, _, rfl, rfl, k _ _ _ (I.fin (.bl _)) hw⟩
  · cases da; cases db
    exact .inr ⟨_, _, rfl, rfl, k _ _ _ (I.fin (.bl _)) hw⟩
def wLt := wOrd (fun i j => decide (i < j)) fun a b => decide (a < b)
def wLe := wOrd (fun i j => decide (i ≤ j)) fun a b => !decide (b < a)
def wGt := wOrd (fun i j => decide (j < i)) fun a b => decide (b < a)
def wGe := wOrd (fun i j => decide (j ≤ i)) fun a b => !decide (a < b)
theorem op_lt2 : OpR X (compareOp .Lt) (fun x y H Q => rI0 (fun i j => .bl (decide (i < j))) x y H Q ∨ rStr (fun a b => decide (a < b)) x y H Q) := op_lt.or op_lt_str
theorem op_le2 : OpR X (compareOp .LtE) (fun x y H Q => rI0 (fun i j => .bl (decide (i ≤ j))) x y H Q ∨ rStr (fun a b => !decide (b < a)) x y H Q) := op_le.or op_le_str
theorem op_gt2 : OpR X (compareOp .Gt) (fun x y H Q => rI0 (fun i j => .bl (decide (j < i))) x y H Q ∨ rStr (fun a b => decide (b < a)) x y H Q) := op_gt.or op_gt_str
theorem op_ge2 : OpR X (compareOp .GtE) (fun x y H Q => rI0 (fun i j => .bl (decide (j ≤ i))) x y H Q ∨ rStr (fun a b => !decide (a < b)) x y H Q) := op_ge.or op_ge_str
def wEq (a b : D) (P : R → Prop) : Prop := a.eqOk ∧ b.eqOk ∧ P (.val (.bl (D.eqv a b)))
def wNe (a b : D) (P : R → Prop) : Prop := a.eqOk ∧ b.eqOk ∧ P (.val (.bl (!D.eqv a b)))
theorem bs_eq : BinS K S (rEqD K) wEq := by
  intro B Hs Δ δ Γ σ H p1 p2 x y a b P Q I da db hw k
  exact ⟨_, _, (da.mono I.sub).dp hw.1.1, (db.mono I.sub).dp hw.2.1.1, da.shaped hw.1, db.shaped hw.2.1, k _ _ _ (I.fin (.bl _)) hw.2.2⟩
theorem bs_ne : BinS K S (rNeD K) wNe := by
  intro B Hs Δ δ Γ σ H p1 p2 x y a b P Q I da db hw k
  exact ⟨_, _, (da.mono I.sub).dp hw.1.1, (db.mono I.sub).dp hw.2.1.1, da.shaped hw.1, db.shaped hw.2.1, k _ _ _ (I.fin (.bl _)) hw.2.2⟩
/-- is None, is not None -/
def D.isNon : D → Option Bool
  | .non => some true
  | .tok => some false
  | .raw _ => none
  | _ => some false
def wIsN (a b : D) (P : R → Prop) : Prop := b = .non ∧ ∃ k, a.isNon = some k ∧ P (.val (.bl k))
def wNotN (a b : D) (P : R → Prop) : Prop := b = .non ∧ ∃ k, a.isNon = some k ∧ P (.val (.bl (!k)))
theorem Den.isNon {tk : Option Addr} {H : Hp} {v : V} {d : D} {k : Bool} (h : Den K tk H v d) (e : d.isNon = some k) : decide (v = .non) = k := by
  cases h <;> simp [D.isNon] at e <;> subst e <;> first | rfl | simp
theorem bs_isN : BinS K S (fun x y H Q => y = .non ∧ Q (.bl (decide (x = .non))) H) wIsN := by
  intro B Hs Δ δ Γ σ H p1 p2 x y a b P Q I da db hw k
  obtain ⟨rfl, c, e, q⟩ := hw
  cases db
  exact ⟨rfl, by rw [da.isNon e]; exact k _ _ _ (I.fin (.bl _)) q⟩
theorem bs_notN : BinS K S (fun x y H Q => y = .non ∧ Q (.bl (!decide (x = .non))) H) wNotN := by
  intro B Hs Δ δ Γ σ H p1 p2 x y a b P Q I da db hw k
  obtain ⟨rfl, c, e, q⟩ := hw
  cases db
  exact ⟨rfl, by rw [da.isNon e]; exact k _ _ _ (I.fin (.bl _)) q⟩

/-! ### what is owned, read -/
theorem RepI.slot {B : Bs} {Hs : Hp} {Δ : List R} {δ : List V} {Γ : Nv} {σ : L2.St} {H : Hp} {p1 p2 : List Addr} {i : Nat} {r : R} {v : V} (I : RepI K S B Hs Δ δ Γ σ H p1 p2) (h : Γ[i]? = some (some r)) (e : σ[i]? = some (some v)) : ∃ q, Own K B.tk Hs H r v q := by
  obtain ⟨v', q, _, _, h1, _, h3, _⟩ := I.sl.at h
  rw [e] at h1; cases h1
  exact ⟨q, h3⟩
/-- keys -/
def keyOf : D → Option Key
  | .int i => some (.inl i)
  | .str x => some (.inr x)
  | _ => none
theorem Den.key {tk : Option Addr} {H : Hp} {v : V} {d : D} {k : Key} (h : Den K tk H v d) (e : keyOf d = some k) : v = kV k := by
  cases h <;> simp [keyOf] at e <;> subst e <;> rfl
def valD (kds : List (Key × D)) (k : Key) : Option D := (kds.find? fun kv => decide (kv.1 = k)).map (·.2)
theorem DenKs.val {tk : Option Addr} {H : Hp} {k : Key} : ∀ {kvs : List (Key × V)} {kds : List (Key × D)}, DenKs K tk H kvs kds → (valV kvs k = none ∧ valD kds k = none) ∨ ∃ v d, valV kvs k = some v ∧ valD kds k = some d ∧ Den K tk H v d
  | _, _, .nil => .inl ⟨rfl, rfl⟩
  | _, _, .cons (k := k') (v := v) (d := d) h a => by
    by_cases e : k' = k
    · exact .inr ⟨v, d, by simp [valV, List.find?_cons, e], by simp [valD, List.find?_cons, e], h⟩
    · rcases DenKs.val (k := k) a with ⟨h1, h2⟩ | ⟨v', d', h1, h2, h3⟩
      · exact .inl ⟨by simpa [valV, List.find?_cons, e] using h1, by simpa [valD, List.find?_cons, e] using h2⟩
      · exact .inr ⟨v', d', by simpa [valV, List.find?_cons, e] using h1, by simpa [valD, List.find?_cons, e] using h2, h3⟩
/-! ### a[b] -/
def rIxK : R2 := fun x y H Q => ∃ a v, x = .ref a ∧ DGet H a y (some v) ∧ Q v H
theorem ix_dict (hu : X.A.units + 1 < cLine) : IxR X rIxK := by
  intro value slice pins s σ H x y v u Q I rx ry h hs
  obtain ⟨a, z, rfl, g, q⟩ := h
  cases rx
  exact PyProof.Rows.tail_any (dict_typeIs I g) PySem.F.slot_dict_getitem.lookup (d_getItem hu I g ry fun w' s' I' r' => ⟨z, H, I', r', q⟩) hs
abbrev rIx4 (K : PySem.W.Frag) : R2 := fun x y H Q => rIx K x y H Q ∨ rIxK x y H Q
theorem ix_any (hu : X.A.units + 1 < cLine) : IxR X (rIx4 X.K) := ix_seq.or (ix_dict hu)
def wIx : D → D → (R → Prop) → Prop
  | .tup l, .int i, P => ∃ d, atI l i = some d ∧ P (.val d)
  | .lst l, .int i, P => ∃ d, atI l i = some d ∧ P (.val d)
  | .fro l, .int i, P => ∃ d, atI l i = some d ∧ P (.val d)
  | .str z, .int i, P => ∃ c, atI z.cps.toList i = some c ∧ P (.val (.str ⟨#[c]⟩))
  | .dct kds, y, P => ∃ k d, keyOf y = some k ∧ valD kds k = some d ∧ P (.val d)
  | _, _, _ => False
theorem DenAll.atI {tk : Option Addr} {H : Hp} {vs : List V} {ds : List D} {i : Int} {d : D} (h : DenAll K tk H vs ds) (e : atI ds i = some d) : ∃ v, L2.atI vs i = some v ∧ Den K tk H v d := by
  obtain ⟨j, h1, h2, h3, _⟩ := atI_get e
  obtain ⟨v, hv, dv⟩ := h.get h2
  refine ⟨v, ?_, dv⟩
  unfold L2.atI at e ⊢
  rw [h.length]
  cases q : ixN ds.length i with
  | none => rw [q] at e; cases e
  | some j' =>
    have : j' = j := by
      have := (ixN_seq q).1
      rw [h1] at this; cases this; rfl
    subst this
    exact hv
/-- the first operand may be owned -/
def BinO (K : PySem.W.Frag) (S : SK) (r : R2) (w : D → D → (R → Prop) → Prop) : Prop := ∀ {B : Bs} {Hs : Hp} {Δ : List R} {δ : List V} {Γ : Nv} {σ : L2.St} {H : Hp} {p1 p2 q : List Addr} {x y : V} {a : R} {b : D} {P : R → Prop} {Q : VK},
  RepI K S B Hs Δ δ Γ σ H p1 p2 → Own K B.tk Hs H a x q → Den K B.tk Hs y b → w a.s b P → (∀ v H' c, Rep K S B (c :: Δ) (v :: δ) Γ σ H' → P c → Q v H') → r x y H Q
theorem BinO.bs {r : R2} {w : D → D → (R → Prop) → Prop} (h : BinO K S r w) : BinS K S r w := fun I da db hw k => h I (.val da) db hw k
theorem bo_ix : BinO K S (rIx4 K) wIx := by
  intro B Hs Δ δ Γ σ H p1 p2 q x y a b P Q I da db hw k
  have seqL : ∀ {p : Addr} {vs : List V} {ds : List D}, SqL K H p vs → DenAll K B.tk Hs vs ds → (∃ i d, b = .int i ∧ atI ds i = some d ∧ P (.val d)) → rIx4 K (.ref p) y H Q := by
    intro p vs ds h1 h2 ⟨i, d, hb, e, hp⟩
    subst hb
    cases db
    obtain ⟨v, hv, dv⟩ := h2.atI e
    exact .inl (.inl ⟨_, _, _, _, rfl, rfl, h1, hv, k _ _ _ (I.fin dv) hp⟩)
  have dctK : ∀ {p : Addr} {kvs : List (Key × V)} {kds : List (Key × D)}, H p = some (.dK kvs) → DenKs K B.tk Hs kvs kds → (∃ k d, keyOf b = some k ∧ valD kds k = some d ∧ P (.val d)) → rIx4 K (.ref p) y H Q := by
    intro p kvs kds h1 h2 ⟨key, d, hb, e, hp⟩
    have := db.key hb
    subst this
    rcases h2.val (k := key) with ⟨_, z⟩ | ⟨v, d', hv, hd, dv⟩
    · rw [e] at z; cases z
    · rw [e] at hd; cases hd
      exact .inr ⟨p, v, rfl, by rw [← hv]; exact DGet.k h1, k _ _ _ (I.fin dv) hp⟩
  cases da with
  | bx h1 a1 z => exact (show False from hw).elim
  | lst h1 a1 =>
    cases b <;> try exact (show False from hw).elim
    obtain ⟨d, e, hp⟩ := hw
    exact seqL (.inl (.inl h1)) a1 ⟨_, d, rfl, e, hp⟩
  | dct h1 a1 => exact dctK h1 a1 (by simpa [wIx, R.s] using hw)
  | @val _ d0 da =>
    cases da with
    | str hs =>
      cases b <;> try exact (show False from hw).elim
      cases db
      obtain ⟨c, e, hp⟩ := hw
      exact .inl (.inr (.inr ⟨_, _, _, rfl, rfl, hs.2, e, k _ _ _ (I.fin (.str (hs.one e))) hp⟩))
    | tup h1 a1 =>
      cases b <;> try exact (show False from hw).elim
      cases db
      obtain ⟨d, e, hp⟩ := hw
      obtain ⟨v, hv, dv⟩ := a1.atI e
      exact .inl (.inr (.inl ⟨_, _, _, _, rfl, rfl, I.sqT h1, hv, k _ _ _ (I.fin dv) hp⟩))
    | lst h1 a1 =>
      cases b <;> try exact (show False from hw).elim
      obtain ⟨d, e, hp⟩ := hw
      exact seqL (.inl (.inl (I.sub _ _ h1))) a1 ⟨_, d, rfl, e, hp⟩
    | fro h1 a1 =>
      cases b <;> try exact (show False from hw).elim
      obtain ⟨d, e, hp⟩ := hw
      exact seqL (I.sqL h1) a1 ⟨_, d, rfl, e, hp⟩
    | dct h1 a1 => exact dctK (I.sub _ _ h1) a1 (by simpa [wIx, R.s] using hw)
    | _ => exact (show False from hw).elim
/-! ### len -/
def D.len : D → Option Nat
  | .str z => some z.length
  | .tup l => some l.length
  | .lst l => some l.length
  | .fro l => some l.length
  | .dct l => some l.length
  | _ => none
abbrev rLen2 (K : PySem.W.Frag) : List V → Hp → VK → Prop := fun xs H Q => (∃ x n, xs = [x] ∧ LenV K x H n ∧ Q (.int n) H) ∨ ∃ a kvs, xs = [.ref a] ∧ H a = some (.dK kvs) ∧ Q (.int kvs.length) H
theorem call_len2 : CallR X (.builtin "len") (rLen2 X.K) := call_len.or (by
  intro pins s σ H xs us Q I r h
  obtain ⟨a, kvs, rfl, e, q⟩ := h
  obtain ⟨u, rfl, rx⟩ := vals1 r
  cases rx
  exact d_len I (.inl e) fun t s' I' => ⟨.int kvs.length, H, I', ⟨t, rfl⟩, q⟩)
theorem len_own {B : Bs} {Hs : Hp} {Δ : List R} {δ : List V} {Γ : Nv} {σ : L2.St} {H : Hp} {p1 p2 q : List Addr} {x : V} {a : R} {n : Nat} {Q : VK} (I : RepI K S B Hs Δ δ Γ σ H p1 p2) (da : Own K B.tk Hs H a x q) (e : a.s.len = some n) (k : Q (.int n) H) : rLen2 K [x] H Q := by
  cases da with
  | bx h1 a1 z => simp [R.s, D.len] at e
  | lst h1 a1 =>
    simp [R.s, D.len] at e; subst e
    rw [← a1.length] at k
    exact .inl ⟨_, _, rfl, .inl ⟨_, .inl (.inl h1), rfl⟩, k⟩
  | dct h1 a1 =>
    simp [R.s, D.len] at e; subst e
    rw [← a1.length] at k
    exact .inr ⟨_, _, rfl, h1, k⟩
  | val da =>
    cases da with
    | str hs => simp [R.s, D.len] at e; subst e; exact .inl ⟨_, _, rfl, ⟨hs.2, rfl⟩, k⟩
    | tup h1 a1 => simp [R.s, D.len] at e; subst e; rw [← a1.length] at k; exact .inl ⟨_, _, rfl, .inr ⟨_, I.sqT h1, rfl⟩, k⟩
    | lst h1 a1 => simp [R.s, D.len] at e; subst e; rw [← a1.length] at k; exact .inl ⟨_, _, rfl, .inl ⟨_, .inl (.inl (I.sub _ _ h1)), rfl⟩, k⟩
    | fro h1 a1 => simp [R.s, D.len] at e; subst e; rw [← a1.length] at k; exact .inl ⟨_, _, rfl, .inl ⟨_, I.sqL h1, rfl⟩, k⟩
    | dct h1 a1 => simp [R.s, D.len] at e; subst e; rw [← a1.length] at k; exact .inr ⟨_, _, rfl, I.sub _ _ h1, k⟩
    | _ => simp [R.s, D.len] at e
def wLen (ds : List D) (P : R → Prop) : Prop := ∃ d n, ds = [d] ∧ d.len = some n ∧ P (.val (.int n))
theorem cs_len : CallS K S (rLen2 K) wLen := by
  intro B Hs Δ δ Γ σ H p1 p2 vs ds P Q I da hw k
  obtain ⟨d, n, rfl, e, hp⟩ := hw
  cases da with
  | cons h a =>
    cases a
    exact len_own I (a := .val d) (q := []) (.val h) e (k _ _ _ (I.fin (.int _)) hp)
/-! ### in, not in -/
abbrev rInD2 (K : PySem.W.Frag) (neg : Bool) : R2 := fun x y H Q => ∃ d ds, Dp K H x d ∧ (Dp K H y (.list ds) ∨ Dp K H y (.tuple ds)) ∧ SeqAt.shaped d = true ∧ PyData.canLayAll0 ds = true ∧ Q (.bl (if neg then !ds.any fun z => PyData.eqv z d else ds.any fun z => PyData.eqv z d)) H
theorem room_in {A : Around} {xs : List PyData} {d : PyData} (hd : SeqAt.shaped d = true) (hu : A.units + 65 < cLine) : A.units + 1 + min (PyData.depthAll xs) d.depth < cLine := by
  have h1 := SeqAt.depth_of_shaped hd
  have h2 : min (PyData.depthAll xs) d.depth ≤ d.depth := Nat.min_le_right _ _
  omega
theorem op_inD2 (hu : X.A.units + 65 < cLine) : OpR X (compareOp .In) (rInD2 X.K false) := by
  intro pins s σ H x y v u Q I rx ry h
  obtain ⟨d, ds, hd, he, sd, se, q⟩ := h
  obtain ⟨as, r1⟩ := Dp.reads I d x v hd rx
  rcases he with he | he
  · obtain ⟨bs, r2⟩ := Dp.reads I (.list ds) y u he ry
    exact SeqAt.in_list_reads r2 r1 se (SeqAt.canLay_of_shaped sd) (room_in sd hu) ⟨.bl _, H, I, rfl, q⟩
  · obtain ⟨bs, r2⟩ := Dp.reads I (.tuple ds) y u he ry
    exact SeqAt.in_tuple_reads r2 r1 se (SeqAt.canLay_of_shaped sd) (room_in sd hu) ⟨.bl _, H, I, rfl, q⟩
theorem op_ninD2 (hu : X.A.units + 65 < cLine) : OpR X (compareOp .NotIn) (rInD2 X.K true) := by
  intro pins s σ H x y v u Q I rx ry h
  obtain ⟨d, ds, hd, he, sd, se, q⟩ := h
  obtain ⟨as, r1⟩ := Dp.reads I d x v hd rx
  rcases he with he | he
  · obtain ⟨bs, r2⟩ := Dp.reads I (.list ds) y u he ry
    exact SeqAt.notIn_list_reads r2 r1 se (SeqAt.canLay_of_shaped sd) (room_in sd hu) ⟨.bl _, H, I, rfl, q⟩
  · obtain ⟨bs, r2⟩ := Dp.reads I (.tuple ds) y u he ry
    exact SeqAt.notIn_tuple_reads r2 r1 se (SeqAt.canLay_of_shaped sd) (room_in sd hu) ⟨.bl _, H, I, rfl, q⟩
abbrev rInK (neg : Bool) : R2 := fun y x H Q => ∃ a o, x = .ref a ∧ DGet H a y o ∧ Q (.bl (if neg then !o.isSome else o.isSome)) H
theorem op_inK (hu : X.A.units + 65 < cLine) : OpR X (compareOp .In) (rInK false) := by
  intro pins s σ H x y v u Q I rx ry h
  obtain ⟨a, o, rfl, g, q⟩ := h
  cases ry
  exact d_in (by omega) I g rx fun s' I' => ⟨.bl _, H, I', rfl, q⟩
theorem op_ninK (hu : X.A.units + 65 < cLine) : OpR X (compareOp .NotIn) (rInK true) := by
  intro pins s σ H x y v u Q I rx ry h
  obtain ⟨a, o, rfl, g, q⟩ := h
  cases ry
  exact d_notIn (by omega) I g rx fun s' I' => ⟨.bl _, H, I', rfl, q⟩
abbrev rInS (neg : Bool) : R2 := fun x y H Q => ∃ (c : Nat) (z : Str), x = .str ⟨#[c]⟩ ∧ y = .str z ∧ Q (.bl (if neg then !decide (c ∈ z.cps.toList) else decide (c ∈ z.cps.toList))) H
abbrev rIn4 (K : PySem.W.Frag) (neg : Bool) : R2 := fun x y H Q => (rInD2 K neg x y H Q ∨ rInK neg x y H Q) ∨ rInS neg x y H Q
theorem op_in4 (hu : X.A.units + 65 < cLine) : OpR X (compareOp .In) (rIn4 X.K false) := ((op_inD2 hu).or (op_inK hu)).or op_in_sign
theorem op_nin4 (hu : X.A.units + 65 < cLine) : OpR X (compareOp .NotIn) (rIn4 X.K true) := ((op_ninD2 hu).or (op_ninK hu)).or op_notIn_sign
/-- whether a value is in another one -/
def D.inOk (a b : D) : Option Bool := match b with
  | .tup l => if a.plain && D.plains l && decide (a.py.depth ≤ 64) then some (l.any fun z => D.eqv z a) else none
  | .lst l => if a.plain && D.plains l && decide (a.py.depth ≤ 64) then some (l.any fun z => D.eqv z a) else none
  | .fro l => if a.plain && D.plains l && decide (a.py.depth ≤ 64) then some (l.any fun z => D.eqv z a) else none
  | .dct kds => (keyOf a).map fun k => (valD kds k).isSome
  | .str z => match a with
    | .str w => match w.cps.toList with
      | [c] => some (decide (c ∈ z.cps.toList))
      | _ => none
    | _ => none
  | _ => none
def wIn (neg : Bool) (a b : D) (P : R → Prop) : Prop := ∃ k, D.inOk a b = some k ∧ P (.val (.bl (if neg then !k else k)))
theorem pys_any (a : PyData) : ∀ l : List D, ((D.pys l).any fun z => PyData.eqv z a) = l.any fun z => PyData.eqv z.py a
  | [] => by simp [D.pys]
  | d :: l => by simp only [D.pys, List.any_cons]; rw [pys_any a l]
/-- the second operand may be owned -/
def BinO2 (K : PySem.W.Frag) (S : SK) (r : R2) (w : D → D → (R → Prop) → Prop) : Prop := ∀ {B : Bs} {Hs : Hp} {Δ : List R} {δ : List V} {Γ : Nv} {σ : L2.St} {H : Hp} {p1 p2 q : List Addr} {x y : V} {a : D} {b : R} {P : R → Prop} {Q : VK},
  RepI K S B Hs Δ δ Γ σ H p1 p2 → Den K B.tk Hs x a → Own K B.tk Hs H b y q → w a b.s P → (∀ v H' c, Rep K S B (c :: Δ) (v :: δ) Γ σ H' → P c → Q v H') → r x y H Q
theorem BinO2.bs {r : R2} {w : D → D → (R → Prop) → Prop} (h : BinO2 K S r w) : BinS K S r w := fun I da db hw k => h I da (.val db) hw k
theorem str_one {w : Str} {c : Nat} (h : w.cps.toList = [c]) : w = ⟨#[c]⟩ := by
  cases w with
  | mk a => cases a with
    | mk l => simp at h; subst h; rfl
theorem bo_in {neg : Bool} : BinO2 K S (rIn4 K neg) (wIn neg) := by
  intro B Hs Δ δ Γ σ H p1 p2 q x y a b P Q I da db hw k
  obtain ⟨kb, e, hp⟩ := hw
  have seq : ∀ {vs : List V} {l : List D}, DenAll K B.tk Hs vs l → (if a.plain && D.plains l && decide (a.py.depth ≤ 64) then some (l.any fun z => D.eqv z a) else none) = some kb → (DpAll K H vs (D.pys l) → (Dp K H y (.list (D.pys l)) ∨ Dp K H y (.tuple (D.pys l)))) → rIn4 K neg x y H Q := by
    intro vs l h1 h2 h3
    split at h2
    · rename_i hc
      simp only [Bool.and_eq_true, decide_eq_true_eq] at hc
      cases h2
      refine .inl (.inl ⟨_, D.pys l, (da.mono I.sub).dp hc.1.1, h3 ((h1.mono I.sub).dp hc.1.2), da.shaped ⟨hc.1.1, hc.2⟩, h1.lay, ?_⟩)
      rw [pys_any]
      exact k _ _ _ (I.fin (.bl _)) hp
    · cases h2
  have dct : ∀ {p : Addr} {kvs : List (Key × V)} {kds : List (Key × D)}, y = .ref p → H p = some (.dK kvs) → DenKs K B.tk Hs kvs kds → ((keyOf a).map fun k => (valD kds k).isSome) = some kb → rIn4 K neg x y H Q := by
    intro p kvs kds hy h1 h2 h3
    subst hy
    cases hk : keyOf a with
    | none => rw [hk] at h3; cases h3
    | some key =>
      rw [hk] at h3
      simp at h3
      have := da.key hk
      subst this
      refine .inl (.inr ⟨p, _, rfl, DGet.k h1, ?_⟩)
      have e2 : (valV kvs key).isSome = kb := by
        rw [← h3]
        rcases h2.val (k := key) with ⟨z1, z2⟩ | ⟨v, d', hv, hd, dv⟩
        · rw [z1, z2]; rfl
        · rw [hv, hd]; rfl
      rw [e2]
      exact k _ _ _ (I.fin (.bl _)) hp
  cases db with
  | bx h1 a1 z => simp [R.s, D.inOk] at e
  | lst h1 a1 => exact seq a1 e fun h => .inl (.lst (.inl (.inl h1)) h)
  | dct h1 a1 => exact dct rfl h1 a1 e
  | val db =>
    cases db with
    | tup h1 a1 => exact seq a1 e fun h => .inr (.tup (I.sqT h1) h)
    | lst h1 a1 => exact seq a1 e fun h => .inl (.lst (.inl (.inl (I.sub _ _ h1))) h)
    | fro h1 a1 => exact seq a1 e fun h => .inl (.lst (I.sqL h1) h)
    | dct h1 a1 => exact dct rfl (I.sub _ _ h1) a1 e
    | @str z hs =>
      simp only [R.s, D.inOk] at e
      split at e
      · rename_i w
        split at e
        · rename_i c hc
          cases e
          cases da
          refine .inr ⟨c, z, by rw [str_one hc], rfl, k _ _ _ (I.fin (.bl _)) hp⟩
        · cases e
      · cases e
    | _ => simp [R.s, D.inOk] at e
/-! ### a[lo:hi] -/
def cutL {α : Type} (xs : List α) (lo hi : Option Int) : List α := (xs.drop (HT.sIx xs.length 0 lo)).take (HT.sIx xs.length xs.length hi - HT.sIx xs.length 0 lo)
theorem DenAll.cut {tk : Option Addr} {H : Hp} {vs : List V} {ds : List D} (h : DenAll K tk H vs ds) (lo hi : Option Int) : DenAll K tk H (cutV vs lo hi) (cutL ds lo hi) := by
  unfold cutV cutL
  rw [h.length]
  exact (h.drop _).take _
def wSl : D → Option Int → Option Int → (R → Prop) → Prop
  | .str z, lo, hi, P => P (.val (.str (cutS z lo hi)))
  | .tup l, lo, hi, P => P (.val (.tup (cutL l lo hi)))
  | .lst l, lo, hi, P => P (.lst (cutL l lo hi))
  | .fro l, lo, hi, P => P (.lst (cutL l lo hi))
  | _, _, _, _ => False
abbrev rSl3 (K : PySem.W.Frag) : V → Option Int → Option Int → Hp → VK → Prop := fun x lo hi H Q => (rSlS x lo hi H Q ∨ rSlA K x lo hi H Q) ∨ rSlL K x lo hi H Q
theorem sl_any3 : SlR X (rSl3 X.K) := (sl_str.or sl_tupA).or sl_list
theorem sl_own {B : Bs} {Hs : Hp} {Δ : List R} {δ : List V} {Γ : Nv} {σ : L2.St} {H : Hp} {p1 p2 q : List Addr} {x : V} {a : R} {lo hi : Option Int} {P : R → Prop} {Q : VK}
    (I : RepI K S B Hs Δ δ Γ σ H p1 p2) (da : Own K B.tk Hs H a x q) (hw : wSl a.s lo hi P) (k : ∀ v H' c, Rep K S B (c :: Δ) (v :: δ) Γ σ H' → P c → Q v H') : rSl3 K x lo hi H Q := by
  cases da with
  | bx h1 a1 z => exact (show False from hw).elim
  | lst h1 a1 => exact .inr ⟨_, _, rfl, .inl (.inl h1), fun p n => k _ _ _ (I.finL (a1.cut lo hi) n) hw⟩
  | dct h1 a1 => exact (show False from hw).elim
  | val da =>
    cases da with
    | str hs => exact .inl (.inl ⟨_, rfl, hs.2, k _ _ _ (I.fin (.str (hs.cut lo hi))) hw⟩)
    | @tup _ xs ds h1 a1 =>
      refine .inl (.inr ⟨_, _, rfl, I.sqT h1, fun e => ?_, fun _ p n => k _ _ _ (I.finT (a1.cut lo hi) n) hw⟩)
      refine k _ _ _ (I.fin (.tup h1 a1)) ?_
      have e2 : cutL ds lo hi = ds := by
        unfold cutL
        rw [← a1.length, e.1, e.2, a1.length]
        simp
      have hw' : P (.val (.tup (cutL ds lo hi))) := hw
      rwa [e2] at hw'
    | lst h1 a1 => exact .inr ⟨_, _, rfl, .inl (.inl (I.sub _ _ h1)), fun p n => k _ _ _ (I.finL (a1.cut lo hi) n) hw⟩
    | fro h1 a1 => exact .inr ⟨_, _, rfl, I.sqL h1, fun p n => k _ _ _ (I.finL (a1.cut lo hi) n) hw⟩
    | _ => exact (show False from hw).elim
end
end DL

set_option maxHeartbeats 1000000
namespace DL
open PySem PySem.Spec L2

/-! ### targets -/
abbrev WG := R → Nv → (Nv → Prop) → Prop
abbrev WGs := List D → Nv → (Nv → Prop) → Prop
section
variable (K : PySem.W.Frag) (S : SK)
/-- the slots is alone may have changed -/
def Eqv (is : List Nat) (σ σ' : L2.St) : Prop := σ'.length = σ.length ∧ ∀ j, j ∉ is → σ'[j]? = σ[j]?
def DG (is : List Nat) (w : WG) : TG := fun v σ H Q => ∃ B Δ δ Γ r P, Rep K S B (r :: Δ) (v :: δ) Γ σ H ∧ w r Γ P ∧ ∀ σ' H' Γ', Rep K S B Δ δ Γ' σ' H' → P Γ' → Eqv is σ σ' → Q σ' H'
def DGs (is : List Nat) (w : WGs) : TGs := fun vs σ H Q => ∃ B Δ δ Γ ds P, Rep K S B (ds.map R.val ++ Δ) (vs ++ δ) Γ σ H ∧ vs.length = ds.length ∧ w ds Γ P ∧ ∀ σ' H' Γ', Rep K S B Δ δ Γ' σ' H' → P Γ' → Eqv is σ σ' → Q σ' H'
/-- what a loop walks: the items -/
structure ItD (tk : Option Addr) (J : It) (v : V) (d : D) (ds : List D) : Prop where
  go : ∀ {B : Bs} {Hs : Hp} {Δ : List R} {δ : List V} {Γ : Nv} {σ : L2.St} {H : Hp} {p1 p2 : List Addr} {i : Nat}, B.tk = tk → RepI K S B Hs Δ δ Γ σ H p1 p2 → Den K tk Hs v d → i < ds.length →
    J.go i H ∧ ∀ x H', J.yld i H x H' → ∃ Hs' d', ds[i]? = some d' ∧ RepI K S B Hs' Δ δ Γ σ H' p1 p2 ∧ Same Hs Hs' ∧ Den K tk Hs' x d'
  stop : ∀ {B : Bs} {Hs : Hp} {Δ : List R} {δ : List V} {Γ : Nv} {σ : L2.St} {H : Hp} {p1 p2 : List Addr} {i : Nat}, B.tk = tk → RepI K S B Hs Δ δ Γ σ H p1 p2 → Den K tk Hs v d → ds.length ≤ i → J.stop i H
variable (mg : Str → Option Value) (W : WX)
def DI (w : WA) : TI := fun σ H R' => ∃ B Δ δ Γ xp P, Rep K S B Δ δ Γ σ H ∧ w xp Γ P ∧ (∀ v H' d ds Γ' J, Rep K S B (.val d :: Δ) (v :: δ) Γ' σ H' → ItD K S B.tk J v d ds → P ds Γ' → R' J H') ∧ XL K S mg B W Δ δ σ xp
end
def wN (i : Nat) : WG := fun r Γ P => i < Γ.length ∧ P (Γ.set i (some r))
def wGnil : WGs := fun ds Γ P => ds = [] ∧ P Γ
def wGcons (g : WG) (t : WGs) : WGs := fun ds Γ P => ∃ d r, ds = d :: r ∧ g (.val d) Γ fun Γ1 => t r Γ1 P
def wGtup (n : Nat) (t : WGs) : WG := fun r Γ P => ∃ ds, r.d = .tup ds ∧ ds.length = n ∧ t ds Γ P
section
variable {X : Cx} {S : SK} {pos : Pos} {K : PySem.W.Frag}
theorem gN_run {i : Nat} {v : V} {σ : L2.St} {H : Hp} {Q : L2.St → Hp → Prop} (h : DG K S [i] (wN i) v σ H Q) : gName i v σ H Q := by
  obtain ⟨B, Δ, δ, Γ, r, P, ⟨Hs, p1, p2, I⟩, ⟨hi, hp⟩, k⟩ := h
  obtain ⟨p1', p2', I'⟩ := I.store hi
  exact k _ _ _ ⟨Hs, p1', p2', I'⟩ hp ⟨List.length_set, fun j hj => List.getElem?_set_ne (fun e => hj (by simp [e]))⟩
theorem PG.imp {e : Expr} {t t' : TG} (h : PG X e t) (k : ∀ v σ H Q, t' v σ H Q → t v σ H Q) : PG X e t' := ⟨fun pins s σ H v u Q I r q => h.run pins s σ H v u Q I r (k v σ H Q q)⟩
theorem PGs.imp {e : List Expr} {t t' : TGs} (h : PGs X e t) (k : ∀ v σ H Q, t' v σ H Q → t v σ H Q) : PGs X e t' := ⟨fun pins s σ H v u Q I r q => h.run pins s σ H v u Q I r (k v σ H Q q)⟩
theorem pdg_name {x : Str} (i : Nat) (h : PG X (.Name x pos) (gName i)) : PG X (.Name x pos) (DG X.K S [i] (wN i)) := PG.imp h fun _ _ _ _ q => gN_run q
theorem pdgs_nil : PGs X [] (DGs X.K S [] wGnil) := PGs.imp pgs_nil fun vs σ H Q ⟨B, Δ, δ, Γ, ds, P, rp, hl, ⟨e, hp⟩, k⟩ => by
  subst e
  cases vs with
  | nil => exact ⟨rfl, k _ _ _ rp hp ⟨rfl, fun _ _ => rfl⟩⟩
  | cons _ _ => simp at hl
theorem pdgs_cons {e : Expr} {es : List Expr} {g : WG} {t : WGs} {is js : List Nat} (h1 : PG X e (DG X.K S is g)) (h2 : PGs X es (DGs X.K S js t)) (hs : (assignEach (e :: es) X.env).map (·.2) = assign e X.env :: (assignEach es X.env).map (·.2) := by rfl) : PGs X (e :: es) (DGs X.K S (is ++ js) (wGcons g t)) := by
  refine PGs.imp (pgs_cons h1 h2 hs) fun vs σ H Q ⟨B, Δ, δ, Γ, ds, P, rp, hl, ⟨d, r, e, hp⟩, k⟩ => ?_
  subst e
  cases vs with
  | nil => simp at hl
  | cons v vs =>
    refine ⟨v, vs, rfl, B, r.map R.val ++ Δ, vs ++ δ, Γ, .val d, _, rp, hp, fun σ' H' Γ' rp' hp' q => ?_⟩
    exact ⟨B, Δ, δ, Γ', r, P, rp', by simpa using hl, hp', fun σ2 H2 Γ2 rp2 hp2 q2 => k σ2 H2 Γ2 rp2 hp2 ⟨q2.1.trans q.1, fun j hj => (q2.2 j fun z => hj (by simp [z])).trans (q.2 j fun z => hj (by simp [z]))⟩⟩
theorem RepI.pushAll {B : Bs} {Hs : Hp} {Δ : List R} {δ : List V} {Γ : Nv} {σ : L2.St} {H : Hp} {p1 p2 : List Addr} (I : RepI K S B Hs Δ δ Γ σ H p1 p2) : ∀ {vs : List V} {ds : List D}, DenAll K B.tk Hs vs ds → RepI K S B Hs (ds.map R.val ++ Δ) (vs ++ δ) Γ σ H p1 p2
  | _, _, .nil => I
  | _, _, .cons h a => (RepI.pushAll I a).push h
theorem pdg_tup {es : List Expr} {k : Nat} {t : WGs} {n : Nat} {is : List Nat} (hc : X.calm = true) (h : PGs X es (DGs X.K S is t)) (hn : (assignEach es X.env).length = n := by rfl) (hst : (assignEach es X.env).findIdx? (·.1) = none := by rfl) :
    PG X (.Tuple es k pos) (DG X.K S is (wGtup n t)) := by
  refine PG.imp (pg_tup hc h hn hst) fun v σ H Q ⟨B, Δ, δ, Γ, r, P, rp, ⟨ds, e, hl, hp⟩, k⟩ => ?_
  obtain ⟨Hs, p1, p2, I, d⟩ := rp.frz
  rw [e] at d
  cases d with
  | tup h1 a1 =>
    exact ⟨_, _, rfl, I.sqT h1, by rw [a1.length]; exact hl, B, Δ, δ, Γ, ds, P, ⟨Hs, p1, p2, I.pushAll a1⟩, a1.length, hp, k⟩
end

/-! ### statements -/
section
variable {X : Cx} {S : SK} {W : WX} {pos : Pos} {st : Stmt} {rest : List Stmt} {s t u : WS} {e : Expr} {se : WE} {K : PySem.W.Frag} {mg : Str → Option Value}
def wNext : WS := fun Γ m => m.nx Γ
def wSeq (s t : WS) : WS := fun Γ m => s Γ { m with nx := fun Γ' => t Γ' m }
def wBrk : WS := fun Γ m => m.bk Γ
def wCt : WS := fun Γ m => m.ct Γ
theorem next_run {D : Ends} {σ : L2.St} {H : Hp} (h : DS K S mg W wNext D σ H) : tNext D σ H := by
  obtain ⟨B, Δ, δ, Γ, m, rp, hs, k1, _⟩ := h
  exact k1 _ _ _ rp hs
theorem pds_nil : PSs X [] (DS X.K S X.mg W wNext) := PSs.imp pss_nil fun _ _ _ h => next_run h
theorem pds_pass : PS X (.Pass pos) (DS X.K S X.mg W wNext) := PS.imp ps_pass fun _ _ _ h => next_run h
theorem pds_doc {x j pos'} : PS X (.Expr (.Constant (.str x) j pos) pos') (DS X.K S X.mg W wNext) := PS.imp ps_doc fun _ _ _ h => next_run h
theorem pds_cons (h1 : PS X st (DS X.K S X.mg W s)) (h2 : PSs X rest (DS X.K S X.mg W t)) : PSs X (st :: rest) (DS X.K S X.mg W (wSeq s t)) := by
  refine PSs.imp (pss_cons h1 h2) fun D σ H ⟨B, Δ, δ, Γ, m, rp, hs, k1, k2, k3, k4, k5⟩ => ?_
  exact ⟨B, Δ, δ, Γ, { m with nx := fun Γ' => t Γ' m }, rp, hs, fun σ' H' Γ' rp' h' => ⟨B, Δ, δ, Γ', m, rp', h', k1, k2, k3, k4, k5⟩, k2, k3, k4, k5⟩
theorem pds_one (h1 : PS X st (DS X.K S X.mg W s)) : PSs X [st] (DS X.K S X.mg W s) := pss_one h1
theorem pds_brk : PS X (.Break pos) (DS X.K S X.mg W wBrk) := PS.imp ps_break fun _ _ _ ⟨B, Δ, δ, Γ, m, rp, hs, k1, k2, k3, k4, k5⟩ => k2 _ _ _ rp hs
theorem pds_ct : PS X (.Continue pos) (DS X.K S X.mg W wCt) := PS.imp ps_continue fun _ _ _ ⟨B, Δ, δ, Γ, m, rp, hs, k1, k2, k3, k4, k5⟩ => k3 _ _ _ rp hs
/-- a value dropped -/
def wDrop (se : WE) : WS := fun Γ m => se m.xp Γ fun _ Γ' => m.nx Γ'
theorem drop_run {te : TE} (hk : ∀ σ H Q, DE K S mg W se σ H Q → te σ H Q) {D : Ends} {σ : L2.St} {H : Hp} (h : DS K S mg W (wDrop se) D σ H) : tDrop te D σ H := by
  obtain ⟨B, Δ, δ, Γ, m, rp, hs, k1, k2, k3, k4, k5⟩ := h
  exact hk _ _ _ ⟨B, Δ, δ, Γ, m.xp, _, rp, hs, fun v H' r Γ' rp' h' => k1 _ _ _ rp'.pop h', k5 σ⟩
theorem pds_expr (he : PE X e (DE X.K S X.mg W se)) (hs : swapsWith e none pos.line X.env = pure false := by rfl) : PS X (.Expr e pos) (DS X.K S X.mg W (wDrop se)) :=
  PS.imp (ps_expr he hs) fun _ _ _ h => drop_run (fun _ _ _ q => q) h
def wRet (se : WE) : WS := fun Γ m => se m.xp Γ m.rt
theorem pds_ret (he : PE X e (DE X.K S X.mg W se)) : PS X (.Return (some e) pos) (DS X.K S X.mg W (wRet se)) := by
  refine PS.imp (ps_ret he) fun D σ H ⟨B, Δ, δ, Γ, m, rp, hs, k1, k2, k3, k4, k5⟩ => ?_
  exact ⟨B, Δ, δ, Γ, m.xp, _, rp, hs, fun v H' r Γ' rp' h' => k4 v r σ H' Γ' rp' h', k5 σ⟩
/-- a local that is told no more -/
def wMov (i : Nat) : WE := fun _ Γ P => match Γ[i]? with
  | some (some r) => P r (Γ.set i none)
  | _ => False
def wRetN : WS := fun Γ m => m.rt (.val .non) Γ
theorem pds_retN : PS X (.Return none pos) (DS X.K S X.mg W wRetN) := by
  refine PS.imp ps_retN fun D σ H ⟨B, Δ, δ, Γ, m, ⟨Hs, p1, p2, I⟩, hs, k1, k2, k3, k4, k5⟩ => ?_
  exact k4 _ _ _ _ _ (I.fin .non) hs
/-- name = e -/
def wSet (i : Nat) (se : WE) : WS := fun Γ m => se m.xp Γ fun r Γ' => i < Γ'.length ∧ m.nx (Γ'.set i (some r))
theorem set_run {i : Nat} {te : TE} (hk : ∀ σ H Q, DE K S mg W se σ H Q → te σ H Q) {D : Ends} {σ : L2.St} {H : Hp} (h : DS K S mg W (wSet i se) D σ H) : tAsg te (gName i) D σ H := by
  obtain ⟨B, Δ, δ, Γ, m, rp, hs, k1, k2, k3, k4, k5⟩ := h
  refine hk _ _ _ ⟨B, Δ, δ, Γ, m.xp, _, rp, hs, fun v H' r Γ' rp' h' => ?_, k5 σ⟩
  exact gN_run ⟨B, Δ, δ, Γ', r, m.nx, rp', h', fun σ' H' Γ' rp hp _ => k1 σ' H' Γ' rp hp⟩
theorem pds_set {i : Nat} {y : Str} {pos' : Pos} (hp : ∀ {te : TE}, PE X e te → PS X (.Assign [.Name y pos'] e pos) (tAsg te (gName i))) (he : PE X e (DE X.K S X.mg W se)) : PS X (.Assign [.Name y pos'] e pos) (DS X.K S X.mg W (wSet i se)) :=
  PS.imp (hp he) fun _ _ _ h => set_run (fun _ _ _ q => q) h
/-- target = e -/
def wAsg (se : WE) (g : WG) : WS := fun Γ m => se m.xp Γ fun r Γ' => g r Γ' m.nx
theorem pds_asg {tg : Expr} {g : WG} {is : List Nat} (he : PE X e (DE X.K S X.mg W se)) (hg : PG X tg (DG X.K S is g)) (hs : swapsWithSole [tg] e pos.line X.env = pure false := by rfl) (hw : swappedStores [tg] e X.env = pure none := by rfl)
    (h1 : (assignEach [tg] X.env).map (·.2) = [assign tg X.env] := by rfl) : PS X (.Assign [tg] e pos) (DS X.K S X.mg W (wAsg se g)) := by
  refine PS.imp (ps_asg he hg hs hw h1) fun D σ H ⟨B, Δ, δ, Γ, m, rp, hs, k1, k2, k3, k4, k5⟩ => ?_
  exact ⟨B, Δ, δ, Γ, m.xp, _, rp, hs, fun v H' r Γ' rp' h' => ⟨B, Δ, δ, Γ', r, m.nx, rp', h', fun σ' H' Γ' rp hp _ => k1 σ' H' Γ' rp hp⟩, k5 σ⟩
/-- x op= e -/
def wAug (i : Nat) (w : D → D → (R → Prop) → Prop) (se : WE) : WS := fun Γ m => se m.xp Γ fun r Γ' => ∃ a, Γ'[i]? = some (some (.val a)) ∧ w a r.d fun c => i < Γ'.length ∧ m.nx (Γ'.set i (some c))
def BinI (X : Cx) (K : PySem.W.Frag) (S : SK) (op : Operator) (ti : TIp) (w : D → D → (R → Prop) → Prop) : Prop := PIp X op ti ∧ BinS K S ti w
theorem aug_run {i : Nat} {ti : TIp} {w : D → D → (R → Prop) → Prop} (hw : BinS K S ti w) {D : Ends} {σ : L2.St} {H : Hp} (hv : ∃ v, σ[i]? = some (some v)) (h : DS K S mg W (wAug i w se) D σ H) : tAug i (DE K S mg W se) ti D σ H := by
  obtain ⟨v, hv⟩ := hv
  obtain ⟨B, Δ, δ, Γ, m, rp, hs, k1, k2, k3, k4, k5⟩ := h
  refine ⟨v, hv, B, Δ, δ, Γ, m.xp, _, rp, hs, fun y H' r Γ' rp' h' => ?_, k5 σ⟩
  obtain ⟨a, ha, hw'⟩ := h'
  obtain ⟨Hs, p1, p2, I, d⟩ := rp'.frz
  obtain ⟨q, ho⟩ := I.slot ha hv
  cases ho with
  | val da => exact hw I da d hw' fun z H2 c rp2 hc => gN_run ⟨B, Δ, δ, Γ', c, m.nx, rp2, hc, fun σ' H' Γ' rp hp _ => k1 σ' H' Γ' rp hp⟩
/-- if -/
def wIf (c : WT) (s t : WS) : WS := fun Γ m => c m.xp Γ fun b Γ' => if b = true then s Γ' m else t Γ' m
theorem pds_if {c : Expr} {a b : List Stmt} {tc : WT} (hc : PT X c (DT X.K S X.mg W tc)) (ha : PSs X a (DS X.K S X.mg W s)) (hb : PSs X b (DS X.K S X.mg W t)) : PS X (.If c a b pos) (DS X.K S X.mg W (wIf tc s t)) := by
  refine PS.imp (ps_if hc ha hb) fun D σ H ⟨B, Δ, δ, Γ, m, rp, hs, k1, k2, k3, k4, k5⟩ => ?_
  refine ⟨B, Δ, δ, Γ, m.xp, _, rp, hs, fun b H' Γ' rp' h' => ?_, k5 σ⟩
  cases b with
  | true => exact iteT ⟨B, Δ, δ, Γ', m, rp', h', k1, k2, k3, k4, k5⟩
  | false => exact iteF ⟨B, Δ, δ, Γ', m, rp', h', k1, k2, k3, k4, k5⟩
/-- for -/
def wFor (g : WG) (b : WS) : List D → Nv → M → Prop
  | [], Γ, m => m.nx Γ
  | d :: ds, Γ, m => g (.val d) Γ fun Γ1 => b Γ1 { m with nx := fun Γ' => wFor g b ds Γ' m, ct := fun Γ' => wFor g b ds Γ' m, bk := m.nx }
def wForS (w : WA) (g : WG) (b : WS) : WS := fun Γ m => w m.xp Γ fun ds Γ' => wFor g b ds Γ' m
theorem drop_get {α : Type} {l : List α} {i : Nat} {x : α} (h : l[i]? = some x) : l.drop i = x :: l.drop (i + 1) := by
  obtain ⟨hl, e⟩ := List.getElem?_eq_some_iff.mp h
  rw [List.drop_eq_getElem_cons hl, e]
theorem for_run {w : WA} {g : WG} {b : WS} {is : List Nat} {D : Ends} {σ : L2.St} {H : Hp} (h : DS K S mg W (wForS w g b) D σ H) : tFor (DI K S mg W w) (DG K S is g) (DS K S mg W b) D σ H := by
  obtain ⟨B, Δ, δ, Γ, m, rp, hs, k1, k2, k3, k4, k5⟩ := h
  refine ⟨B, Δ, δ, Γ, m.xp, _, rp, hs, fun v H1 d ds Γ1 J rp1 it h1 => ?_, k5 σ⟩
  refine ⟨fun i n σ H => n = ds.length - i ∧ i ≤ ds.length ∧ ∃ Γ, Rep K S B (.val d :: Δ) (v :: δ) Γ σ H ∧ wFor g b (ds.drop i) Γ m, ⟨_, rfl, Nat.zero_le _, Γ1, rp1, h1⟩, ?_⟩
  rintro i n σ H ⟨rfl, hi, Γ2, rp2, h2⟩
  obtain ⟨Hs, p1, p2, I⟩ := rp2
  have dv : Den K B.tk Hs v d := by
    have tm := I.tm
    cases tm with
    | cons ho _ => cases ho with
      | val dv => exact dv
  by_cases hlt : i < ds.length
  · obtain ⟨hg, hy⟩ := it.go rfl I dv hlt
    refine .inr ⟨hg, fun σ H => ∃ Γ, Rep K S B (.val d :: Δ) (v :: δ) Γ σ H ∧ wFor g b (ds.drop (i + 1)) Γ m, fun σ' H' ⟨Γ', rp', h'⟩ => ⟨ds.length - (i + 1), by omega, rfl, hlt, Γ', rp', h'⟩, fun x H' y => ?_⟩
    obtain ⟨Hs', d', e, I', _, dx⟩ := hy x H' y
    rw [drop_get e] at h2
    refine ⟨B, .val d :: Δ, v :: δ, Γ2, .val d', _, I'.fin dx, h2, fun σ' H2 Γ' rp' h' _ => ?_⟩
    exact ⟨B, .val d :: Δ, v :: δ, Γ', _, rp', h', fun σ3 H3 Γ3 rp3 h3 => ⟨Γ3, rp3, h3⟩, fun σ3 H3 Γ3 rp3 h3 => k1 _ _ _ rp3.pop h3, fun σ3 H3 Γ3 rp3 h3 => ⟨Γ3, rp3, h3⟩, fun u r σ3 H3 Γ3 rp3 h3 => k4 u r σ3 H3 Γ3 rp3.drop2 h3, fun σ' => (k5 σ').push⟩
  · have e : i = ds.length := by omega
    subst e
    rw [List.drop_length] at h2
    exact .inl ⟨it.stop rfl I dv (Nat.le_refl _), k1 _ _ _ (I.rep.pop) h2⟩
theorem pds_for {tg iter : Expr} {body : List Stmt} {w : WA} {g : WG} {b : WS} {is : List Nat} (hp : PassesOwn (model X.prog X.w) X.A X.env X.xe) (hc : X.calm = true) (hi : PI X tg iter (DI X.K S X.mg W w)) (hg : PG X tg (DG X.K S is g)) (hb : PSs X body (DS X.K S X.mg W b))
    (hs : ∀ x, foldedSetIterable iter X.env x = pure x := by intro _; rfl) : PS X (.For tg iter body [] pos) (DS X.K S X.mg W (wForS w g b)) := PS.imp (ps_for hp hc hi hg hb hs) fun _ _ _ h => for_run h
/-- while -/
def wWh (c : WT) (b : WS) : Nat → Nv → M → Prop
  | 0, _, _ => False
  | n + 1, Γ, m => c m.xp Γ fun k Γ1 => if k = true then b Γ1 { m with nx := fun Γ' => wWh c b n Γ' m, ct := fun Γ' => wWh c b n Γ' m, bk := m.nx } else m.nx Γ1
def wWhile (c : WT) (b : WS) : WS := fun Γ m => ∃ n, wWh c b n Γ m
theorem pds_while {c : Expr} {body : List Stmt} {tc : WT} {b : WS} (hp : PassesOwn (model X.prog X.w) X.A X.env X.xe) (hc : PT X c (DT X.K S X.mg W tc)) (hb : PSs X body (DS X.K S X.mg W b)) : PS X (.While c body [] pos) (DS X.K S X.mg W (wWhile tc b)) := by
  refine PS.imp (ps_while hp hc hb) fun D σ H ⟨B, Δ, δ, Γ, m, rp, ⟨n0, hs⟩, k1, k2, k3, k4, k5⟩ => ?_
  refine ⟨fun n σ H => ∃ Γ, Rep X.K S B Δ δ Γ σ H ∧ wWh tc b n Γ m, ⟨n0, Γ, rp, hs⟩, ?_⟩
  rintro n σ H ⟨Γ1, rp1, h1⟩
  cases n with
  | zero => exact (show False from h1).elim
  | succ n =>
    refine ⟨B, Δ, δ, Γ1, m.xp, _, rp1, h1, fun k H' Γ' rp' h' => ?_, k5 σ⟩
    cases k with
    | true =>
      refine iteT ⟨fun σ H => ∃ Γ, Rep X.K S B Δ δ Γ σ H ∧ wWh tc b n Γ m, fun σ' H' h => ⟨n, Nat.lt_succ_self _, h⟩, ?_⟩
      exact ⟨B, Δ, δ, Γ', _, rp', h', fun σ3 H3 Γ3 rp3 h3 => ⟨Γ3, rp3, h3⟩, k1, fun σ3 H3 Γ3 rp3 h3 => ⟨Γ3, rp3, h3⟩, k4, k5⟩
    | false => exact iteF (k1 _ _ _ rp' h')
end

/-! ### what is walked -/
section
variable {X : Cx} {S : SK} {W : WX} {pos : Pos} {tg e : Expr} {se : WE} {ss : WA} {K : PySem.W.Frag}
theorem PI.imp {iter : Expr} {t t' : TI} (h : PI X tg iter t) (k : ∀ σ H R', t' σ H R' → t σ H R') : PI X tg iter t' := ⟨fun pins s σ H R' I q => h.run pins s σ H R' I (k σ H R' q)⟩
theorem itd_list {tk : Option Addr} {a : Addr} {d : D} {ds : List D} (hd : d = .lst ds ∨ d = .fro ds) : ItD K S tk (Itl K a) (.ref a) d ds where
  go := by
    intro B Hs Δ δ Γ σ H p1 p2 i e I h hi
    subst e
    obtain ⟨xs, hx, ha⟩ : ∃ xs, SqL K H a xs ∧ DenAll K B.tk Hs xs ds := by
      rcases hd with rfl | rfl
      · cases h with | lst h1 a1 => exact ⟨_, .inl (.inl (I.sub _ _ h1)), a1⟩
      · cases h with | fro h1 a1 => exact ⟨_, I.sqL h1, a1⟩
    have hx' : i < xs.length := by rw [ha.length]; exact hi
    refine ⟨⟨xs, xs[i], hx, by simp [hx']⟩, fun x H' y => ?_⟩
    obtain ⟨e, y⟩ := y
    subst e
    obtain ⟨d', e', dx⟩ := ha.getV (y xs hx)
    exact ⟨Hs, d', e', I, fun _ _ z => z, dx⟩
  stop := by
    intro B Hs Δ δ Γ σ H p1 p2 i e I h hi
    subst e
    rcases hd with rfl | rfl
    · cases h with | lst h1 a1 => exact ⟨_, .inl (.inl (I.sub _ _ h1)), by rw [a1.length]; exact hi⟩
    · cases h with | fro h1 a1 => exact ⟨_, I.sqL h1, by rw [a1.length]; exact hi⟩
theorem itd_tup {tk : Option Addr} {a : Addr} {ds : List D} : ItD K S tk (Itt K a) (.ref a) (.tup ds) ds where
  go := by
    intro B Hs Δ δ Γ σ H p1 p2 i e I h hi
    subst e
    cases h with
    | @tup _ xs _ h1 ha =>
      have hx' : i < xs.length := by rw [ha.length]; exact hi
      refine ⟨⟨xs, xs[i], I.sqT h1, by simp [hx']⟩, fun x H' y => ?_⟩
      obtain ⟨e, y⟩ := y
      subst e
      obtain ⟨d', e', dx⟩ := ha.getV (y xs (I.sqT h1))
      exact ⟨Hs, d', e', I, fun _ _ z => z, dx⟩
  stop := by
    intro B Hs Δ δ Γ σ H p1 p2 i e I h hi
    subst e
    cases h with | tup h1 a1 => exact ⟨_, I.sqT h1, by rw [a1.length]; exact hi⟩
def chars (x : Str) : List D := x.cps.toList.map fun c => D.str ⟨#[c]⟩
theorem itd_str {tk : Option Addr} {x : Str} : ItD K S tk (Its x) (.str x) (.str x) (chars x) where
  go := by
    intro B Hs Δ δ Γ σ H p1 p2 i e I h hi
    subst e
    have hi' : i < x.cps.size := by simpa [chars] using hi
    refine ⟨hi', fun v H' y => ?_⟩
    obtain ⟨e, c, hc, ev⟩ := y
    subst e
    subst ev
    cases h with
    | str hs =>
      have hc' : x.cps.toList[i]? = some c := by simpa using hc
      refine ⟨Hs, .str ⟨#[c]⟩, by simp [chars, hc'], I, fun _ _ z => z, .str ?_⟩
      refine ⟨?_, by show 1 ≤ sizeLine; decide⟩
      have h1 := hs.1
      unfold PyData.strOk at *
      rw [← Array.all_toList, List.all_eq_true] at h1
      have := h1 c (List.mem_of_getElem? hc')
      simpa using this
  stop := by
    intro B Hs Δ δ Γ σ H p1 p2 i e I h hi
    show x.cps.size ≤ i
    simpa [chars] using hi
/-- the items of a list, a tuple, a text -/
def D.items : D → Option (List D)
  | .lst l => some l
  | .fro l => some l
  | .tup l => some l
  | .str x => some (chars x)
  | _ => none
def wIter (se : WE) : WA := fun xp Γ P => se xp Γ fun r Γ1 => ∃ ds, r.d.items = some ds ∧ (ds.length ≤ sizeLine → P ds Γ1)
theorem pdi_any (he : PE X e (DE X.K S X.mg W se)) : PI X tg e (DI X.K S X.mg W (wIter se)) := by
  refine ⟨fun pins s σ H R' I h => ?_⟩
  obtain ⟨B, Δ, δ, Γ, xp, P, rp, hs, k, xl⟩ := h
  refine thn (he.run pins s σ H (fun v H' => ∃ d ds Γ', Rep X.K S B (.val d :: Δ) (v :: δ) Γ' σ H' ∧ d.items = some ds ∧ (ds.length ≤ sizeLine → P ds Γ')) I ⟨B, Δ, δ, Γ, xp, _, rp, hs, fun v H' r Γ' rp' ⟨ds, e, hp⟩ => ?_, xl⟩) fun v s1 ⟨x, H1, I1, r1, d, ds, Γ1, rp1, ei, hp⟩ => ?_
  · obtain ⟨Hs, p1, p2, I', dv⟩ := rp'.frz
    exact ⟨r.d, ds, Γ', I'.fin dv, e, hp⟩
  · obtain ⟨Hs, p1, p2, J1, dv⟩ := rp1.frz
    have lst : ∀ {a : Addr} {xs : List V}, x = .ref a → SqL X.K H1 a xs → xs.length = ds.length → (d = .lst ds ∨ d = .fro ds) → wpAny (model X.prog X.w) X.A (pyIter v) (PIE X pins σ tg R') X.xe s1 := by
      intro a xs ex hq hle hd
      subst ex
      cases r1
      obtain ⟨its, rv, p, hz⟩ := I1.list hq
      refine wpAny_pyIter_list p.isList ?_
      refine ⟨s1.heap.objs.size, [s1.heap.objs.size], _, _, H1, rfl, I1.kept (t' := s1.toks) fun b o e => Heap.get?_push_of_some _ e, turn_list a _, ⟨_, Heap.get?_push_size _ rfl, rfl, rfl⟩, fun b hb => ?_, k _ _ _ _ _ _ rp1 (itd_list hd) (hp (by rw [← hle]; exact hz))⟩
      have e : b = s1.heap.objs.size := by simpa using hb
      subst e
      exact I1.fpOk (Nat.le_refl _) (I1.hok.fresh (Nat.le_refl _))
    have dv' : Den X.K B.tk Hs x d := dv
    cases dv' with
    | lst h1 a1 => cases ei; exact lst rfl (.inl (.inl (J1.sub _ _ h1))) a1.length (.inl rfl)
    | fro h1 a1 => cases ei; exact lst rfl (J1.sqL h1) a1.length (.inr rfl)
    | @tup a xs l h1 a1 =>
      cases ei
      cases r1
      obtain ⟨its, rv, p, hz⟩ := I1.tuple (J1.sqT h1)
      refine wpAny_pyIter_tuple (show s1.heap.IsTuple a its.toArray from p) ?_
      refine ⟨s1.heap.objs.size, [s1.heap.objs.size], _, _, H1, rfl, I1.kept (t' := s1.toks) fun b o e => Heap.get?_push_of_some _ e, turn_tuple a _, ⟨_, Heap.get?_push_size _ rfl, rfl, rfl⟩, fun b hb => ?_, k _ _ _ _ _ _ rp1 itd_tup (hp (by rw [← a1.length]; exact hz))⟩
      have e : b = s1.heap.objs.size := by simpa using hb
      subst e
      exact I1.fpOk (Nat.le_refl _) (I1.hok.fresh (Nat.le_refl _))
    | @str y hs =>
      cases ei
      obtain ⟨t, rfl⟩ := r1
      have q := k _ _ _ _ _ _ rp1 itd_str (hp (by simpa [chars, Str.length] using hs.2))
      cases ha : y.cps.all (· < 128)
      · exact wpAny_pyIter_wide ha (pi_one (tk := s1.toks) I1 _ (turn_str _ y t "str_iterator" (.inr rfl)) ⟨_, Heap.get?_push_size _ rfl, rfl, rfl⟩ q)
      · exact wpAny_pyIter_ascii ha (pi_one (tk := s1.toks) I1 _ (turn_str _ y t "str_ascii_iterator" (.inl rfl)) ⟨_, Heap.get?_push_size _ rfl, rfl, rfl⟩ q)
    | _ => cases ei
/-- ranges -/
def rng (lo : Int) (n : Nat) : List D := (List.range n).map fun i => D.int (lo + (i : Nat))
theorem itd_range {tk : Option Addr} {lo : Int} {n : Nat} {v : V} {d : D} : ItD K S tk (Itr lo n) v d (rng lo n) where
  go := by
    intro B Hs Δ δ Γ σ H p1 p2 i e I h hi
    have hi' : i < n := by simpa [rng] using hi
    refine ⟨hi', fun x H' y => ?_⟩
    obtain ⟨e1, e2⟩ := y
    subst e1 e2
    exact ⟨Hs, .int (lo + i), by simp [rng, hi'], I, fun _ _ z => z, .int _⟩
  stop := by
    intro B Hs Δ δ Γ σ H p1 p2 i e I h hi
    show n ≤ i
    simpa [rng] using hi
def wRng1 (ss : WA) : WA := fun xp Γ P => ss xp Γ fun ds Γ1 => ∃ j : Int, ds = [.int j] ∧ -(2 ^ 62) ≤ j ∧ j < 2 ^ 62 ∧ P (rng 0 j.toNat) Γ1
def wRng2 (ss : WA) : WA := fun xp Γ P => ss xp Γ fun ds Γ1 => ∃ i j : Int, ds = [.int i, .int j] ∧ (-(2 ^ 62) ≤ i ∧ i < 2 ^ 62 ∧ -(2 ^ 62) ≤ j ∧ j < 2 ^ 62) ∧ P (rng i (j - i).toNat) Γ1
theorem pdi_range1 {a : Expr} {p : Pos} (hg : Gl X "range") (hm : X.mg "range" = none) (ha : PA X [a] (DA X.K S X.mg W ss)) (hs : starEach [a] X.env = [(false, eval a X.env)] := by rfl) : PI X tg (.Call (.Name "range" p) [a] [] pos) (DI X.K S X.mg W (wRng1 ss)) := by
  refine PI.imp (pi_range1 hg hm ha hs) fun σ H R' ⟨B, Δ, δ, Γ, xp, P, rp, hs, k, xl⟩ => ?_
  refine ⟨B, Δ, δ, Γ, xp, _, rp, hs, fun vs H' ds Γ' Hs p1 p2 I d hp => ?_, xl⟩
  obtain ⟨j, e, h1, h2, hp⟩ := hp
  subst e
  cases d with
  | cons d1 d2 =>
    cases d1; cases d2
    exact ⟨j, rfl, h1, h2, k _ _ _ _ _ _ (I.fin .non) itd_range hp⟩
theorem pdi_range2 {a b : Expr} {p : Pos} (hg : Gl X "range") (hm : X.mg "range" = none) (ha : PA X [a, b] (DA X.K S X.mg W ss)) (hs : starEach [a, b] X.env = [(false, eval a X.env), (false, eval b X.env)] := by rfl) (hs2 : starEach [b] X.env = [(false, eval b X.env)] := by rfl) :
    PI X tg (.Call (.Name "range" p) [a, b] [] pos) (DI X.K S X.mg W (wRng2 ss)) := by
  refine PI.imp (pi_range2 hg hm ha hs hs2) fun σ H R' ⟨B, Δ, δ, Γ, xp, P, rp, hs, k, xl⟩ => ?_
  refine ⟨B, Δ, δ, Γ, xp, _, rp, hs, fun vs H' ds Γ' Hs p1 p2 I d hp => ?_, xl⟩
  obtain ⟨i, j, e, h1, hp⟩ := hp
  subst e
  cases d with
  | cons d1 d2 => cases d2 with
    | cons d2 d3 =>
      cases d1; cases d2; cases d3
      exact ⟨i, j, rfl, h1, k _ _ _ _ _ _ (I.fin .non) itd_range hp⟩
end
end DL

set_option maxHeartbeats 1000000
namespace DL
open PySem PySem.Spec L2

/-! ### what a def promises, as data -/
abbrev WF := List D → (R → Prop) → (XD → Prop) → Prop
section
variable (K : PySem.W.Frag) (S : SK) (mg : Str → Option Value)
def spD (n : Nat) (w : WF) : Sp := fun vs H Q E => ∃ (st : Option (Addr × List Addr)) (Hs : Hp) (ds : List D) (rt : R → Prop) (xp : XD → Prop), vs.length = n ∧ Same Hs H ∧ (∀ b ∈ (Bs.mk st Hs H).fp, Hs b = none) ∧ (Bs.mk st Hs H).fp.Nodup ∧ S.ok ⟨st, Hs, H⟩ Hs H ∧
  DenAll K (Bs.mk st Hs H).tk Hs vs ds ∧ w ds rt xp ∧ (∀ v d H', RepV K S ⟨st, Hs, H⟩ v d H' → rt d → Q v H') ∧ ∀ cls dx H' x, RepX K S mg ⟨st, Hs, H⟩ [] [] [] [] H' cls dx x → xp x → E cls dx H'
end
section
variable {K : PySem.W.Frag} {S : SK} {mg : Str → Option Value} {B : Bs} {Hs H H' : Hp} {Δ : List R} {δ : List V} {Γ : Nv} {σ : L2.St} {p1 p2 : List Addr}
theorem Slots.append {K : PySem.W.Frag} {tk : Option Addr} {Hs H : Hp} : ∀ {Γ Γ2 : Nv} {σ σ2 : L2.St} {p q : List Addr}, Slots K tk Hs H Γ σ p → Slots K tk Hs H Γ2 σ2 q → Slots K tk Hs H (Γ ++ Γ2) (σ ++ σ2) (p ++ q)
  | _, _, _, _, _, _, .nil, b => b
  | _, _, _, _, _, _, .un a, b => .un (Slots.append a b)
  | _, _, _, _, _, _, .cons h a, b => by
    have := Slots.cons h (Slots.append a b)
    rwa [← List.append_assoc] at this
/-- behind a call -/
theorem RepI.calledR (I : RepI K S B Hs Δ δ Γ σ H p1 p2) {Hs' : Hp} {q1 q2 : List Addr} {Δ' : List R} {δ' : List V} (J : RepI K S ⟨B.st, Hs, H⟩ Hs' Δ' δ' [] [] H' q1 q2) : RepI K S B Hs' (Δ' ++ Δ) (δ' ++ δ) Γ σ H' (q1 ++ p1) p2 := by
  have hfp : (Bs.mk B.st Hs H).fp = B.fp := rfl
  have fresh : ∀ b ∈ q1, H b = none := fun b hb => J.own b (List.mem_append_left _ hb)
  have offp : ∀ b ∈ p1 ++ p2, H' b = H b := fun b hb => by
    obtain ⟨o, e⟩ := I.live b (List.mem_append_right _ hb)
    rw [e]
    refine J.h0 b o (fun z => ?_) e
    exact (List.nodup_append.mp I.nd).2.2 b z b hb rfl
  have ss : Same Hs Hs' := J.s0
  refine ⟨J.sub, fun b hb => ?_, ?_, J.st, ?_, I.sl.mono ss fun b hb => offp b (List.mem_append_right _ hb), fun b o hb e => J.h0 b o hb (I.h0 b o hb e), I.l0, fun b o e => ss b o (I.s0 b o e), fun b o e => ?_, fun b hb => ?_⟩
  · have old : b ∈ p1 ++ p2 → Hs' b = none := fun z => by
      cases q : Hs' b with
      | none => rfl
      | some o =>
        obtain ⟨u, e⟩ := I.live b (List.mem_append_right _ z)
        rcases J.new b o q with y | y
        · have y' : Hs b = some o := y
          rw [I.off b (List.mem_append_right _ z)] at y'; cases y'
        · have y' : H b = none := y
          rw [e] at y'; cases y'
    simp only [List.mem_append] at hb
    rcases hb with z | (z | z) | z
    · exact J.off b (List.mem_append_left _ z)
    · exact J.off b (by simp [z])
    · exact old (by simp [z])
    · exact old (by simp [z])
  · have n1 := I.nd
    have n2 := J.nd
    have n3 : (q1 ++ (B.fp ++ (p1 ++ p2))).Nodup := by
      refine List.nodup_append.mpr ⟨(List.nodup_append.mp (List.nodup_append.mp n2).2.1).1, n1, fun a ha b hb e => ?_⟩
      subst e
      obtain ⟨o, e⟩ := I.live a hb
      rw [fresh a ha] at e; cases e
    have pm : (B.fp ++ (q1 ++ p1 ++ p2)).Perm (q1 ++ (B.fp ++ (p1 ++ p2))) := by
      simp only [List.perm_iff_count, List.count_append]
      intro a; omega
    exact pm.nodup_iff.mpr n3
  · have t := I.tm.mono ss fun b hb => offp b (List.mem_append_left _ hb)
    have := J.tm.append t
    rw [← List.map_append, ← List.map_append] at this
    exact this
  · rcases J.new b o e with y | y
    · exact I.new b o y
    · have y' : H b = none := y
      exact .inr (I.fresh0 y')
  · simp only [List.mem_append] at hb
    rcases hb with (z | z) | z
    · exact I.fresh0 (fresh b z)
    · exact I.own b (by simp [z])
    · exact I.own b (by simp [z])
theorem RepI.called (I : RepI K S B Hs Δ δ Γ σ H p1 p2) {Hs' : Hp} {q1 q2 : List Addr} (J : RepI K S ⟨B.st, Hs, H⟩ Hs' [] [] [] [] H' q1 q2) : RepI K S B Hs' Δ δ Γ σ H' p1 p2 := by
  have e : q1 = [] := by
    have t : Slots K (Bs.mk B.st Hs H).tk Hs' H' [] [] q1 := J.tm
    cases t; rfl
  subst e
  exact I.calledR J
theorem RepI.bare (I : RepI K S B Hs Δ δ Γ σ H p1 p2) : RepI K S B Hs [] [] [] [] H [] [] :=
  ⟨I.sub, fun b hb => I.off b (by simp at hb; exact List.mem_append_left _ hb), by simpa using (List.nodup_append.mp I.nd).1, I.st, .nil, .nil, I.h0, I.l0, I.s0, I.new, fun b hb => by simp at hb⟩
theorem slots_start {tk : Option Addr} : ∀ {vs : List V} {ds : List D} (k : Nat), DenAll K tk Hs vs ds → Slots K tk Hs H (ds.map (fun d => some (.val d)) ++ List.replicate k none) (vs.map some ++ List.replicate k none) []
  | _, _, 0, .nil => .nil
  | _, _, k + 1, .nil => .un (slots_start k .nil)
  | _, _, k, .cons h a => Slots.cons (q := []) (.val h) (slots_start k a)
end

/-- the slots at a def's entry -/
def ini (m : Nat) (ds : List D) : Nv := ds.map (fun d => some (.val d)) ++ List.replicate (m - ds.length) none

section
variable {P : Program} {w : World} {K : PySem.W.Frag} {mg : Str → Option Value} {base : Heap} {S : SK}
/-- THE RULE for a def: its body as data -/
theorem ok_fn {x qual : Str} {st : Stmt} {f : Addr} {fd : FuncData} {N ps : List Str} {k n : Nat} {body : WS} {wf : WF} (F : Fun K x qual st f fd) (Sc : FnScope N ps (defScope st)) (hn : ps.length = n)
    (hbody : ∀ (cdv : Value) (A : Around) (outer : List Env) (s : Shared) (H : Hp) (E : XK), Room k (A.deeper (PyProof.Rows.envOfC qual (defScope st) s.heap.objs.size f cdv)) →
      PSs (cxOf (L2.CX P w) P w K mg base N qual (defScope st) f cdv A outer s H E) (defBody st) (DS K S mg (fun cls d _ H => E cls d H) body))
    (hw : ∀ ds rt xp, ds.length = n → wf ds rt xp → body (ini N.length ds) { nx := fun _ => rt (.val .non), rt := fun r _ => rt r, xp := fun x _ => xp x }) :
    FnOk P w K mg base (L2.CX P w) (k + 1) f fd ps (spD K S mg n wf) := by
  refine F.okX Sc (fun vs H Q E h => ?_) (fun cdv A outer s H vs Q E hr h => ⟨_, hbody cdv A outer s H E hr, ?_⟩)
  · obtain ⟨_, _, _, _, _, e, _⟩ := h
    rw [e, hn]
  · obtain ⟨sto, Hs, ds, rt, xp, hl, hsub, hoff, hnd, hok, hda, hwf, kr, kx⟩ := h
    have I : RepI K S ⟨sto, Hs, H⟩ Hs [] [] (ini N.length ds) (L2.start N vs) H [] [] := by
      refine ⟨hsub, fun b hb => hoff b (by simpa using hb), by simpa using hnd, hok, .nil, ?_, fun b o _ e => e, hok.live, fun b o e => e, fun b o e => .inl e, fun b hb => by simp at hb⟩
      unfold ini L2.start
      rw [hda.length]
      exact slots_start _ hda
    refine ⟨⟨sto, Hs, H⟩, [], [], _, _, I.rep, hw ds rt xp (by rw [← hda.length, hl]) hwf, fun σ' H' Γ' rp hr => ?_, fun _ _ _ _ q => q.elim, fun _ _ _ _ q => q.elim, fun v r σ' H' Γ' rv hr => kr v r H' rv.retV hr, fun σ' => ?_⟩
    · obtain ⟨Hs', p1, p2, I'⟩ := rp
      exact kr _ _ _ (I'.fin .non).retV hr
    · rintro cls d H' x' Γ' ⟨Hs', p1, p2, C, dx, fs, I', a, b, c, e, f⟩ q
      exact kx cls d H' x' ⟨Hs', [], [], C, dx, fs, I'.bare, a, b, c, e, f⟩ q
end

/-! ### calls of a def -/
section
variable {X : Cx} {S : SK} {W : WX} {k n : Nat} {f : Addr} {fd : FuncData} {ps : List Str} {wf : WF} {x : Str} {p pos : Pos} {e : Expr} {es : List Expr} {ss : WA}
def wCall (wf : WF) (ss : WA) : WE := fun xp Γ P => ss xp Γ fun ds Γ1 => wf ds (fun r => P r Γ1) fun y => xp y Γ1
theorem sp_of {B : Bs} {Hs H : Hp} {Δ : List R} {δ : List V} {Γ : Nv} {σ : L2.St} {p1 p2 : List Addr} {vs : List V} {ds : List D} {xp : XD → Nv → Prop} {P : R → Nv → Prop} {Q : VK} {K : PySem.W.Frag} {mg : Str → Option Value} (I : RepI K S B Hs Δ δ Γ σ H p1 p2) (da : DenAll K B.tk Hs vs ds) (hl : vs.length = n)
    (hw : wf ds (fun r => P r Γ) fun y => xp y Γ) (k : ∀ v H' r Γ', Rep K S B (r :: Δ) (v :: δ) Γ' σ H' → P r Γ' → Q v H') (xl : XL K S mg B W Δ δ σ xp) : spD K S mg n wf vs H Q (L2.WE W σ) := by
  refine ⟨B.st, Hs, ds, _, _, hl, I.sub, fun b hb => I.off b (List.mem_append_left _ hb), (List.nodup_append.mp I.nd).1, I.st, da, hw, fun v r H' ⟨Hs', q1, q2, J⟩ hp => ?_, fun cls dx H' y ⟨Hs', q1, q2, C, dx', fs, J, a, b, c, e, f⟩ hx => ?_⟩
  · exact k v H' _ Γ (I.calledR J).rep hp
  · exact xl cls dx H' y Γ ⟨Hs', p1, p2, C, dx', fs, I.called J, a, b, c, e, f⟩ hx
/-- Fun's callee with the promise of data -/
abbrev FnD (X : Cx) (S : SK) (k : Nat) (f : Addr) (fd : FuncData) (ps : List Str) (n : Nat) (wf : WF) : Prop := FnOk X.prog X.w X.K X.mg X.base (L2.CX X.prog X.w) k f fd ps (spD X.K S X.mg n wf)
theorem pd_call (F : FnD X S k f fd ps n wf) (hr : Room k X.A) (hg : Gl X x) (hm : X.mg x = some (.ref f)) (hk : PySem.W.keepIn X.K (.ref f) = true) (hb : Binds X.K fd ps []) (tk : Takes X W) (hps : ps.length = n)
    (ha : PA X (e :: es) (DA X.K S X.mg W ss)) (hdb : (x == ("__debug__" : Str)) = false := by decide) (he : starEach (e :: es) X.env = (false, eval e X.env) :: starEach es X.env := by rfl) (hpl : (backTo pos (starEach es X.env)).any (·.1) = false := by rfl) :
    PE X (.Call (.Name x p) (e :: es) [] pos) (DE X.K S X.mg W (wCall (fun ds rt xp => ds.length = n ∧ wf ds rt xp) ss)) := by
  refine PE.imp (pe_callS (E := L2.WE W) F hr hg hm hk hb (fun σ => passAt tk σ) ha hdb he hpl) fun σ H Q ⟨B, Δ, δ, Γ, xp, P, rp, hs, k, xl⟩ => ?_
  exact ⟨B, Δ, δ, Γ, xp, _, rp, hs, fun vs H1 ds Γ1 Hs p1 p2 I d h1 => sp_of I d (by rw [d.length]; exact h1.1) h1.2 k xl, xl⟩
theorem pd_call0 (F : FnD X S k f fd [] 0 wf) (hr : Room k X.A) (hg : Gl X x) (hm : X.mg x = some (.ref f)) (hk : PySem.W.keepIn X.K (.ref f) = true) (hb : Binds X.K fd [] []) (tk : Takes X W) (hdb : (x == ("__debug__" : Str)) = false := by decide) :
    PE X (.Call (.Name x p) [] [] pos) (DE X.K S X.mg W (wCall wf wNil)) := by
  refine ⟨fun pins s σ H Q I ⟨B, Δ, δ, Γ, xp, P, ⟨Hs, p1, p2, J⟩, hs, k, xl⟩ => ?_⟩
  refine wpAny_Call_Name_kw (ld_glob I hg hm ?_ hdb)
  exact PySem.W.callWith_K0 I.kIn hk (run_fnS (us := []) (E := L2.WE W) F hr hb (passAt tk σ) I .nil (sp_of J .nil rfl hs k xl))
/-- picked places -/
def pk {α : Type} (ix : List Nat) (l : List α) : List α := ix.filterMap (l[·]?)
theorem pk_vals {vs : List V} {us : List Value} (r : Vals vs us) : ∀ ix : List Nat, Vals (pk ix vs) (pk ix us)
  | [] => .nil
  | i :: ix => by
    unfold pk
    rw [List.filterMap_cons, List.filterMap_cons]
    cases h : vs[i]? with
    | none => rw [r.none_of h]; exact pk_vals r ix
    | some v =>
      obtain ⟨u, hu, ru⟩ := r.get h
      rw [hu]
      exact .cons ru (pk_vals r ix)
theorem pk_den {K : PySem.W.Frag} {tk : Option Addr} {H : Hp} {vs : List V} {ds : List D} (r : DenAll K tk H vs ds) : ∀ ix : List Nat, DenAll K tk H (pk ix vs) (pk ix ds)
  | [] => .nil
  | i :: ix => by
    unfold pk
    rw [List.filterMap_cons, List.filterMap_cons]
    cases h : vs[i]? with
    | none =>
      have : ds[i]? = none := by
        rw [List.getElem?_eq_none_iff] at h ⊢
        rw [← r.length]; exact h
      rw [this]; exact pk_den r ix
    | some v =>
      obtain ⟨d, hd, rd⟩ := r.getV h
      rw [hd]
      exact .cons rd (pk_den r ix)
/-- how a call of keywords ks binds, behind m positional ones: the parameters are these and the keywords' values at the places ix -/
def KwB (K : PySem.W.Frag) (fd : FuncData) (ps ks : List Str) (m : Nat) (ix : List Nat) : Prop :=
  ∀ (s : Shared) (us ws : List Value), K.In s.heap → us.length = m → ws.length = ks.length → BindsTo s fd ⟨us, ks.zip ws⟩ (ps.zip (us ++ pk ix ws))
theorem KwB.mk {K : PySem.W.Frag} {x qual : Str} {st : Stmt} {f : Addr} {fd : FuncData} {ps ks : List Str} {m : Nat} {ix : List Nat} (F : Fun K x qual st f fd)
    (h : ∀ (kV doc pm : Value) (an : Option Addr) (cdv ct : Value) (us ws : List Value), us.length = m → ws.length = ks.length → bindArgs (PySem.W.fnOf x qual (defArgs st) (defBody st) (defScope st) .none kV doc pm an cdv ct) ⟨us, ks.zip ws⟩ = pure (ps.zip (us ++ pk ix ws))) : KwB K fd ps ks m ix := by
  obtain ⟨oc, od, kV, doc, pm, an, cdv, ct, osl, rfl, lk, hcd⟩ := F.ex
  exact fun s us ws _ h1 h2 => .of_eq (h kV doc pm an cdv ct us ws h1 h2)
def wCallK (wf : WF) (n : Nat) (ix : List Nat) (ss kk : WA) : WE := fun xp Γ P => ss xp Γ fun ds Γ1 => kk xp Γ1 fun zs Γ2 => (ds ++ pk ix zs).length = n ∧ wf (ds ++ pk ix zs) (fun r => P r Γ2) fun y => xp y Γ2
theorem pdk_nil : PK X [] (DA X.K S X.mg W wNil) := ⟨fun pos pins s σ H Q I ⟨B, Δ, δ, Γ, xp, P, ⟨Hs, p1, p2, J⟩, hs, k, _⟩ => pk_nil.run pos pins s σ H Q I (k [] H [] Γ Hs p1 p2 J .nil hs)⟩
theorem pdk_cons {kws : List Keyword} {nm : Option Str} {kpos : Pos} {se : WE} (ha : PE X e (DE X.K S X.mg W se)) (hr : PK X kws (DA X.K S X.mg W ss)) : PK X (⟨nm, e, kpos⟩ :: kws) (DA X.K S X.mg W (wCons se ss)) := by
  refine ⟨fun pos pins s σ H Q I ⟨B, Δ, δ, Γ, xp, P, rp, hs, k, xl⟩ => (pk_cons ha hr).run pos pins s σ H Q I ?_⟩
  refine ⟨B, Δ, δ, Γ, xp, _, rp, hs, fun v H1 ra Γ1 rp1 h1 => ?_, xl⟩
  refine ⟨B, ra :: Δ, v :: δ, Γ1, xp, _, rp1, h1, fun vs H2 ds Γ2 Hs p1 p2 I2 d2 h2 => ?_, xl.push⟩
  obtain ⟨Hs', p1', e', d, I'⟩ := I2.frz
  exact k (v :: vs) H2 (ra.d :: ds) Γ2 Hs' p1' p2 I' (.cons d (d2.mono e')) h2
theorem popAll {K : PySem.W.Frag} {B : Bs} {Hs H : Hp} {Δ : List R} {δ : List V} {Γ : Nv} {σ : L2.St} {p2 : List Addr} : ∀ {vs : List V} {ds : List D} {p1 : List Addr}, vs.length = ds.length → RepI K S B Hs (ds.map R.val ++ Δ) (vs ++ δ) Γ σ H p1 p2 → ∃ p1', RepI K S B Hs Δ δ Γ σ H p1' p2 ∧ DenAll K B.tk Hs vs ds
  | [], [], p1, _, I => ⟨p1, I, .nil⟩
  | v :: vs, d :: ds, p1, hl, I => by
    have tm := I.tm
    have dv : Den K B.tk Hs v d := by
      have tm' : Slots K B.tk Hs H (some (.val d) :: (ds.map R.val ++ Δ).map some) (some v :: (vs ++ δ).map some) p1 := tm
      cases tm' with
      | cons ho _ => cases ho with
        | val dv => exact dv
    obtain ⟨p1', I'⟩ := RepI.pop I
    obtain ⟨p1'', I'', da⟩ := popAll (by simpa using hl) I'
    exact ⟨p1'', I'', .cons dv da⟩
theorem XL.pushAll {K : PySem.W.Frag} {mg : Str → Option Value} {B : Bs} {Δ : List R} {δ : List V} {σ : L2.St} {xp : XD → Nv → Prop} (h : XL K S mg B W Δ δ σ xp) : ∀ {vs : List V} {ds : List D}, vs.length = ds.length → XL K S mg B W (ds.map R.val ++ Δ) (vs ++ δ) σ xp
  | [], [], _ => h
  | v :: vs, d :: ds, hl => (XL.pushAll h (by simpa using hl)).push
theorem kw_run {K : PySem.W.Frag} {mg : Str → Option Value} {ix : List Nat} {kk : WA} {m nk : Nat} {σ : L2.St} {H : Hp} {Q : VK} {R' : List V → Hp → Prop}
    {B : Bs} {Δ : List R} {δ : List V} {xp : XD → Nv → Prop} {P : R → Nv → Prop} (k : ∀ v H' r Γ', Rep K S B (r :: Δ) (v :: δ) Γ' σ H' → P r Γ' → Q v H') (xl : XL K S mg B W Δ δ σ xp)
    {vs : List V} {ds : List D} {Γ1 : Nv} {Hs : Hp} {p1 p2 : List Addr} (I : RepI K S B Hs Δ δ Γ1 σ H p1 p2) (d : DenAll K B.tk Hs vs ds) (h : kk xp Γ1 fun zs Γ2 => (ds ++ pk ix zs).length = n ∧ wf (ds ++ pk ix zs) (fun r => P r Γ2) fun y => xp y Γ2) :
    DA K S mg W kk σ H fun zs H2 => spD K S mg n wf (vs ++ pk ix zs) H2 Q (L2.WE W σ) := by
  refine ⟨B, ds.map R.val ++ Δ, vs ++ δ, Γ1, xp, _, (I.pushAll d).rep, h, fun zs H2 es Γ2 Hs2 q1 q2 I2 d2 h2 => ?_, xl.pushAll d.length⟩
  obtain ⟨q1', I3, d3⟩ := popAll d.length I2
  have da := d3.append (pk_den d2 ix)
  exact sp_of I3 da (by rw [da.length]; exact h2.1) h2.2 k xl
theorem pd_callK {kws : List Keyword} {ks : List Str} {ix : List Nat} {kk : WA} {m : Nat} (F : FnD X S k f fd ps n wf) (hr : Room k X.A) (hg : Gl X x) (hm : X.mg x = some (.ref f)) (hk : PySem.W.keepIn X.K (.ref f) = true) (hb : KwB X.K fd ps ks (m + 1) ix) (tk : Takes X W)
    (ha : PA X (e :: es) (DA X.K S X.mg W ss)) (hes : es.length = m) (hkw : PK X kws (DA X.K S X.mg W kk)) (hkl : ks.length = kws.length) (hall : (backToKw pos (keywordEach kws X.env)).all (·.1.isSome) = true := by rfl) (hks : (backToKw pos (keywordEach kws X.env)).filterMap (·.1) = ks := by rfl)
    (hdb : (x == ("__debug__" : Str)) = false := by decide) (he : starEach (e :: es) X.env = (false, eval e X.env) :: starEach es X.env := by rfl)
    (hpl : ((backTo pos (starEach (e :: es) X.env)).any (·.1) || (backToKw pos (keywordEach kws X.env)).any (·.1.isNone)) = false := by rfl) :
    PE X (.Call (.Name x p) (e :: es) kws pos) (DE X.K S X.mg W (wCallK (fun ds rt xp => wf ds rt xp) n ix (fun xp Γ P => ss xp Γ fun ds Γ1 => ds.length = m + 1 ∧ P ds Γ1) (fun xp Γ P => kk xp Γ fun zs Γ1 => zs.length = ks.length ∧ P zs Γ1))) := by
  refine ⟨fun pins s σ H Q I ⟨B, Δ, δ, Γ, xp, P, rp, hs, kq, xl⟩ => ?_⟩
  refine wpAny_Call_Name_kw (ld_glob I hg hm ?_ hdb)
  refine PySem.W.callWith_KW (h₀ := X.base) I.ok.mod.kin hk hall (thn (ha.run pos pins s σ H (fun vs H1 => vs.length = m + 1 ∧ DA X.K S X.mg W kk σ H1 fun zs H2 => zs.length = ks.length ∧ spD X.K S X.mg n wf (vs ++ pk ix zs) H2 Q (L2.WE W σ)) I ?_) fun us s1 ⟨vs, H1, I1, r, hl1, q⟩ => ?_) hpl he
  · refine ⟨B, Δ, δ, Γ, xp, _, rp, hs, fun vs H1 ds Γ1 Hs p1 p2 I d h1 => ⟨by rw [d.length]; exact h1.1, ?_⟩, xl⟩
    refine ⟨B, ds.map R.val ++ Δ, vs ++ δ, Γ1, xp, _, (I.pushAll d).rep, h1.2, fun zs H2 es Γ2 Hs2 q1 q2 I2 d2 h2 => ?_, xl.pushAll d.length⟩
    obtain ⟨q1', I3, d3⟩ := popAll d.length I2
    have da := d3.append (pk_den d2 ix)
    obtain ⟨h21, h22, h23⟩ := h2
    exact ⟨by rw [d2.length]; exact h21, sp_of I3 da (by rw [da.length]; exact h22) h23 kq xl⟩
  · refine thn (hkw.run pos pins s1 σ H1 _ I1 q) fun ws s2 ⟨zs, H2, I2, rz, hlz, q2⟩ => ⟨I2.kIn, ?_⟩
    rw [hks]
    have r2 : Vals (vs ++ pk ix zs) (us ++ pk ix ws) := r.append (pk_vals rz ix)
    refine wpAny_call (codeAny_mono (F.run X.A X.stack s2 H2 ⟨us, ks.zip ws⟩ (us ++ pk ix ws) (vs ++ pk ix zs) Q (L2.WE W σ) hr I2.env0 (hb s2 us ws I2.kIn (by rw [← r.length]; exact hl1) (by rw [← rz.length]; exact hlz)) r2 q2) fun r s' hq => ?_)
    cases r with
    | error e => exact passAt tk σ pins H2 s2 e s' I2 hq
    | ok fl =>
      cases fl with
      | ret u => exact I2.after hq
      | next => exact False.elim hq
      | brk => exact False.elim hq
      | cont => exact False.elim hq
theorem pd_callK0 {kws : List Keyword} {ks : List Str} {ix : List Nat} {kk : WA} (F : FnD X S k f fd ps n wf) (hr : Room k X.A) (hg : Gl X x) (hm : X.mg x = some (.ref f)) (hk : PySem.W.keepIn X.K (.ref f) = true) (hb : KwB X.K fd ps ks 0 ix) (tk : Takes X W)
    (hkw : PK X kws (DA X.K S X.mg W kk)) (hall : (backToKw pos (keywordEach kws X.env)).all (·.1.isSome) = true := by rfl) (hks : (backToKw pos (keywordEach kws X.env)).filterMap (·.1) = ks := by rfl)
    (hdb : (x == ("__debug__" : Str)) = false := by decide)
    (hpl : ((backTo pos (starEach [] X.env)).any (·.1) || (backToKw pos (keywordEach kws X.env)).any (·.1.isNone)) = false := by rfl) :
    PE X (.Call (.Name x p) [] kws pos) (DE X.K S X.mg W (wCallK (fun ds rt xp => wf ds rt xp) n ix wNil (fun xp Γ P => kk xp Γ fun zs Γ1 => zs.length = ks.length ∧ P zs Γ1))) := by
  refine ⟨fun pins s σ H Q I ⟨B, Δ, δ, Γ, xp, P, ⟨Hs, p1, p2, J⟩, hs, kq, xl⟩ => ?_⟩
  refine wpAny_Call_Name_kw (ld_glob I hg hm ?_ hdb)
  refine PySem.W.callWith_KW0 (h₀ := X.base) I.ok.mod.kin hk hall (thn (hkw.run pos pins s σ H (fun zs H2 => zs.length = ks.length ∧ spD X.K S X.mg n wf ([] ++ pk ix zs) H2 Q (L2.WE W σ)) I ?_) fun ws s2 ⟨zs, H2, I2, rz, hlz, q2⟩ => ⟨I2.kIn, ?_⟩) hpl
  · refine ⟨B, Δ, δ, Γ, xp, _, J.rep, hs, fun zs H2 es Γ2 Hs2 q1 q2 I2 d2 h2 => ?_, xl⟩
    obtain ⟨h21, h22, h23⟩ := h2
    have h22' : (pk ix es).length = n := h22
    exact ⟨by rw [d2.length]; exact h21, sp_of (vs := pk ix zs) I2 (pk_den d2 ix) (by rw [(pk_den d2 ix).length]; exact h22') h23 kq xl⟩
  · rw [hks]
    have r2 : Vals ([] ++ pk ix zs) ([] ++ pk ix ws) := pk_vals rz ix
    refine wpAny_call (codeAny_mono (F.run X.A X.stack s2 H2 ⟨[], ks.zip ws⟩ ([] ++ pk ix ws) ([] ++ pk ix zs) Q (L2.WE W σ) hr I2.env0 (hb s2 [] ws I2.kIn rfl (by rw [← rz.length]; exact hlz)) r2 q2) fun r s' hq => ?_)
    cases r with
    | error e => exact passAt tk σ pins H2 s2 e s' I2 hq
    | ok fl =>
      cases fl with
      | ret u => exact I2.after hq
      | next => exact False.elim hq
      | brk => exact False.elim hq
      | cont => exact False.elim hq
end

/-! ### subscripts, slices, what is asked of a name's own list -/
section
variable {X : Cx} {S : SK} {W : WX} {pos p2 : Pos} {a b e : Expr} {sa sb se : WE} {K : PySem.W.Frag} {mg : Str → Option Value}
theorem pd_ix (hu : X.A.units + 1 < cLine) (ha : PE X a (DE X.K S X.mg W sa)) (hb : PE X b (DE X.K S X.mg W sb)) (hs : PlainIx b := by exact fun _ _ => rfl) : PE X (.Subscript a b pos) (DE X.K S X.mg W (wBin wIx sa sb)) :=
  PE.imp (pe_ix (ix_any hu) ha hb hs) fun _ _ _ h => bin_run bo_ix.bs h
/-- a name's value as it stands -/
def look (Γ : Nv) (i : Nat) : Option D := match Γ[i]? with
  | some (some r) => some r.s
  | _ => none
def wVB (i : Nat) (w : D → D → (R → Prop) → Prop) (sb : WE) : WE := fun xp Γ P => sb xp Γ fun rb Γ2 => ∃ d, look Γ2 i = some d ∧ w d rb.d fun c => P c Γ2
theorem look_own {B : Bs} {Hs H : Hp} {Δ : List R} {δ : List V} {Γ : Nv} {σ : L2.St} {p1 p2 : List Addr} {i : Nat} {d : D} (I : RepI K S B Hs Δ δ Γ σ H p1 p2) (h : look Γ i = some d) : ∃ r v q, r.s = d ∧ σ[i]? = some (some v) ∧ Own K B.tk Hs H r v q := by
  unfold look at h
  split at h
  · rename_i r e
    cases h
    obtain ⟨v, q, _, _, h1, _, h3, _⟩ := I.sl.at e
    exact ⟨r, v, q, rfl, h1, h3⟩
  · cases h
/-- a name's value is there in σ, whatever comes -/
def wVB0 (i : Nat) (w : D → D → (R → Prop) → Prop) (sb : WE) : WE := fun xp Γ P => (∃ d, look Γ i = some d) ∧ wVB i w sb xp Γ P
theorem vb_run {i : Nat} {r : R2} {w : D → D → (R → Prop) → Prop} (hw : BinO K S r w) {σ : L2.St} {H : Hp} {Q : VK} (h : DE K S mg W (wVB0 i w sb) σ H Q) : tOp r (tVar i) (DE K S mg W sb) σ H Q := by
  obtain ⟨B, Δ, δ, Γ, xp, P, ⟨Hs, q1, q2, I⟩, ⟨⟨d0, h0⟩, hs⟩, k, xl⟩ := h
  obtain ⟨_, v, _, _, hv, _⟩ := look_own I h0
  refine ⟨v, hv, B, Δ, δ, Γ, xp, _, I.rep, hs, fun y H2 rb Γ2 rp2 h2 => ?_, xl⟩
  obtain ⟨d, hd, hp⟩ := h2
  obtain ⟨Hs2, q1, q2, I2, d2⟩ := rp2.frz
  obtain ⟨rr, v', q, e1, e2, ho⟩ := look_own I2 hd
  rw [hv] at e2; cases e2
  subst e1
  exact hw I2 ho d2 hp fun z H' c rp' h' => k z H' c Γ2 rp' h'
/-- x[b], x a local name -/
theorem pd_ixV {y : Str} {p : Pos} (i : Nat) (hu : X.A.units + 1 < cLine) (ha : PE X (.Name y p) (tVar i)) (hb : PE X b (DE X.K S X.mg W sb)) (hs : PlainIx b := by exact fun _ _ => rfl) : PE X (.Subscript (.Name y p) b pos) (DE X.K S X.mg W (wVB0 i wIx sb)) :=
  PE.imp (pe_ix (ix_any hu) ha hb hs) fun _ _ _ h => vb_run bo_ix h
/-- len(x), x a local name -/
def wLenV (i : Nat) : WE := fun _ Γ P => ∃ d n, look Γ i = some d ∧ d.len = some n ∧ P (.val (.int n)) Γ
theorem pd_lenV {y : Str} {p q : Pos} (i : Nat) (ha : PE X (.Name y p) (tVar i)) (hg : Gl X "len") (hm : X.mg "len" = none) (he : starEach [.Name y p] X.env = (false, eval (.Name y p) X.env) :: starEach [] X.env := by rfl) :
    PE X (.Call (.Name "len" q) [.Name y p] [] pos) (DE X.K S X.mg W (wLenV i)) := by
  refine PE.imp (pe_callB call_len2 hg hm PySem.boot_len (pa_cons ha pa_nil he) (by decide) (by decide) he) fun σ H Q ⟨B, Δ, δ, Γ, xp, P, ⟨Hs, q1, q2, I⟩, ⟨d, n, hd, hn, hp⟩, k, xl⟩ => ?_
  obtain ⟨rr, v, q, e1, e2, ho⟩ := look_own I hd
  subst e1
  exact ⟨v, e2, len_own I ho hn (k _ _ _ _ (I.fin (.int _)) hp)⟩
/-- y in x, x a local name -/
def wBV (i : Nat) (w : D → D → (R → Prop) → Prop) (sa : WE) : WE := fun xp Γ P => sa xp Γ fun ra Γ2 => ∃ d, look Γ2 i = some d ∧ w ra.d d fun c => P c Γ2
theorem bv_run {i : Nat} {r : R2} {w : D → D → (R → Prop) → Prop} (hw : BinO2 K S r w) {σ : L2.St} {H : Hp} {Q : VK} (h : DE K S mg W (wBV i w sa) σ H Q) : tOp r (DE K S mg W sa) (tVar i) σ H Q := by
  obtain ⟨B, Δ, δ, Γ, xp, P, rp, hs, k, xl⟩ := h
  refine ⟨B, Δ, δ, Γ, xp, _, rp, hs, fun y H2 rb Γ2 rp2 h2 => ?_, xl⟩
  obtain ⟨d, hd, hp⟩ := h2
  obtain ⟨Hs2, q1, q2, I2, d2⟩ := rp2.frz
  obtain ⟨rr, v', q, e1, e2, ho⟩ := look_own I2 hd
  subst e1
  exact ⟨v', e2, hw I2 d2 ho hp fun z H' c rp' h' => k z H' c Γ2 rp' h'⟩
theorem pd_cmpV {op : CmpOp} {r : R2} {w : D → D → (R → Prop) → Prop} {y : Str} {p : Pos} (i : Nat) (ho : OpR X (compareOp op) r) (hw : BinO2 X.K S r w) (ha : PE X a (DE X.K S X.mg W sa)) (hb : PE X (.Name y p) (tVar i)) (hm : behindInMarks op (.Name y p) = false) : PE X (.Compare a [op] [.Name y p] pos) (DE X.K S X.mg W (wBV i w sa)) :=
  PE.imp (pe_cmpR ho ha hb hm) fun _ _ _ h => bv_run hw h
theorem pdt_cmpV {op : CmpOp} {r : R2} {w : D → D → (R → Prop) → Prop} {y : Str} {p : Pos} (i : Nat) (ho : OpR X (compareOp op) r) (hw : BinO2 X.K S r w) (ha : PE X a (DE X.K S X.mg W sa)) (hb : PE X (.Name y p) (tVar i)) (hm : behindInMarks op (.Name y p) = false) : PT X (.Compare a [op] [.Name y p] pos) (DT X.K S X.mg W (wB (wBV i w sa))) :=
  PT.imp (pt_cmpR ho ha hb hm) fun _ _ _ h => bv_run hw (tB_run h)
/-! slices -/
abbrev WP := (XD → Nv → Prop) → Nv → (Option Int → Nv → Prop) → Prop
def DP (K : PySem.W.Frag) (S : SK) (mg : Str → Option Value) (W : WX) (s : WP) : TO := fun σ H Q => ∃ B Δ δ Γ xp P, Rep K S B Δ δ Γ σ H ∧ s xp Γ P ∧ (∀ o H' Γ', Rep K S B Δ δ Γ' σ H' → P o Γ' → Q o H') ∧ XL K S mg B W Δ δ σ xp
def wNoP : WP := fun _ Γ P => P none Γ
def wPt (se : WE) : WP := fun xp Γ P => se xp Γ fun r Γ1 => ∃ i, r = .val (.int i) ∧ P (some i) Γ1
theorem PO.imp {e : Option Expr} {t t' : TO} (h : PO X e t) (k : ∀ σ H Q, t' σ H Q → t σ H Q) : PO X e t' := ⟨fun pins s σ H Q I q => h.run pins s σ H Q I (k σ H Q q)⟩
theorem pdo_none : PO X none (DP X.K S X.mg W wNoP) := PO.imp po_none fun σ H Q ⟨B, Δ, δ, Γ, xp, P, rp, hs, k, xl⟩ => k _ _ _ rp hs
theorem pdo_some (h : PE X e (DE X.K S X.mg W se)) : PO X (some e) (DP X.K S X.mg W (wPt se)) := PO.imp (po_some h) fun σ H Q ⟨B, Δ, δ, Γ, xp, P, rp, hs, k, xl⟩ => by
  refine ⟨B, Δ, δ, Γ, xp, _, rp, hs, fun v H1 ra Γ1 rp1 h1 => ?_, xl⟩
  obtain ⟨i, e, h1⟩ := h1
  subst e
  obtain ⟨Hs, q1, q2, I, d1⟩ := rp1.frz
  cases d1
  exact ⟨i, rfl, k _ _ _ I.rep h1⟩
def wSlice (se : WE) (lo hi : WP) : WE := fun xp Γ P => se xp Γ fun r Γ1 => lo xp Γ1 fun l Γ2 => hi xp Γ2 fun u Γ3 => wSl r.d l u fun c => P c Γ3
variable {lo hi : Option Expr} {wl wh : WP}
theorem pd_slice (he : PE X e (DE X.K S X.mg W se)) (hl : PO X lo (DP X.K S X.mg W wl)) (hh : PO X hi (DP X.K S X.mg W wh)) : PE X (.Subscript e (.Slice lo hi none p2) pos) (DE X.K S X.mg W (wSlice se wl wh)) := by
  refine PE.imp (pe_slice sl_any3 he hl hh) fun σ H Q ⟨B, Δ, δ, Γ, xp, P, rp, hs, k, xl⟩ => ?_
  refine ⟨B, Δ, δ, Γ, xp, _, rp, hs, fun v H1 ra Γ1 rp1 h1 => ?_, xl⟩
  refine ⟨B, ra :: Δ, v :: δ, Γ1, xp, _, rp1, h1, fun l H2 Γ2 rp2 h2 => ?_, xl.push⟩
  refine ⟨B, ra :: Δ, v :: δ, Γ2, xp, _, rp2, h2, fun u H3 Γ3 rp3 h3 => ?_, xl.push⟩
  obtain ⟨Hs, q1, q2, I, d1⟩ := rp3.frz
  exact sl_own I (.val d1) h3 fun z H' c rp' h' => k z H' c Γ3 rp' h'
/-- x[lo:hi], x a local name -/
def wSliceV (i : Nat) (lo hi : WP) : WE := fun xp Γ P => (∃ d, look Γ i = some d) ∧ lo xp Γ fun l Γ2 => hi xp Γ2 fun u Γ3 => ∃ d, look Γ3 i = some d ∧ wSl d l u fun c => P c Γ3
theorem pd_sliceV {y : Str} {p : Pos} (i : Nat) (ha : PE X (.Name y p) (tVar i)) (hl : PO X lo (DP X.K S X.mg W wl)) (hh : PO X hi (DP X.K S X.mg W wh)) : PE X (.Subscript (.Name y p) (.Slice lo hi none p2) pos) (DE X.K S X.mg W (wSliceV i wl wh)) := by
  refine PE.imp (pe_slice sl_any3 ha hl hh) fun σ H Q ⟨B, Δ, δ, Γ, xp, P, ⟨Hs, q1, q2, I⟩, ⟨⟨d0, h0⟩, hs⟩, k, xl⟩ => ?_
  obtain ⟨_, v, _, _, hv, _⟩ := look_own I h0
  refine ⟨v, hv, B, Δ, δ, Γ, xp, _, I.rep, hs, fun l H2 Γ2 rp2 h2 => ?_, xl⟩
  refine ⟨B, Δ, δ, Γ2, xp, _, rp2, h2, fun u H3 Γ3 rp3 h3 => ?_, xl⟩
  obtain ⟨d, hd, hp⟩ := h3
  obtain ⟨Hs3, q1, q2, I3⟩ := rp3
  obtain ⟨rr, v', q, e1, e2, ho⟩ := look_own I3 hd
  rw [hv] at e2; cases e2
  subst e1
  exact sl_own I3 ho hp fun z H' c rp' h' => k z H' c Γ3 rp' h'
end
end DL

set_option maxHeartbeats 1000000
namespace DL
open PySem PySem.Spec L2

section
variable {K : PySem.W.Frag} {S : SK} {B : Bs} {Hs H : Hp} {Δ : List R} {δ : List V} {Γ : Nv} {σ σ2 : L2.St} {p1 p2 : List Addr}
theorem Slots.eqv {tk : Option Addr} : ∀ {Γ : Nv} {σ σ2 : L2.St} {ps : List Addr}, Slots K tk Hs H Γ σ ps → σ2.length = σ.length → (∀ (j : Nat) (r : R), Γ[j]? = some (some r) → σ2[j]? = σ[j]?) → Slots K tk Hs H Γ σ2 ps
  | _, _, [], _, .nil, _, _ => .nil
  | _, _, _ :: _, _, .nil, hl, _ => by simp at hl
  | _, _, [], _, .un _, hl, _ => by simp at hl
  | _, _, [], _, .cons _ _, hl, _ => by simp at hl
  | _, _, o2 :: σ2, _, .un a, hl, h => .un (Slots.eqv a (by simpa using hl) fun j r e => by have := h (j + 1) r (by simpa using e); simpa using this)
  | _, _, o2 :: σ2, _, .cons ho a, hl, h => by
    have e0 := h 0 _ rfl
    simp at e0
    subst e0
    exact .cons ho (Slots.eqv a (by simpa using hl) fun j r e => by have := h (j + 1) r (by simpa using e); simpa using this)
theorem RepI.eqv (I : RepI K S B Hs Δ δ Γ σ H p1 p2) (hl : σ2.length = σ.length) (h : ∀ (j : Nat) (r : R), Γ[j]? = some (some r) → σ2[j]? = σ[j]?) : RepI K S B Hs Δ δ Γ σ2 H p1 p2 :=
  ⟨I.sub, I.off, I.nd, I.st, I.tm, I.sl.eqv hl h, I.h0, I.l0, I.s0, I.new, I.own⟩
/-- an owned list of the stack is changed in place -/
theorem RepI.writeT {i : Nat} {p : Addr} {r r' : R} {o : HO} (I : RepI K S B Hs Δ δ Γ σ H p1 p2) (hi : Δ[i]? = some r) (hv : δ[i]? = some (.ref p)) (hw : ∀ {q}, Own K B.tk Hs H r (.ref p) q → q = [p])
    (h : Own K B.tk Hs (upd H p o) r' (.ref p) [p]) : RepI K S B Hs (Δ.set i r') δ Γ σ (upd H p o) p1 p2 := by
  have hi' : (Δ.map some)[i]? = some (some r) := by simp [hi]
  obtain ⟨v, q, q1, q2, h1, h2, h3, h4⟩ := I.tm.at hi'
  have ev : v = .ref p := by
    simp [hv] at h1
    exact h1.symm
  subst ev
  have := hw h3
  subst this
  subst h2
  have nd := I.nd
  have np : ∀ b, b ∈ B.fp ++ (q1 ++ q2 ++ p2) → b ≠ p := fun b hb e => by
    subst e
    have pm : (B.fp ++ (q1 ++ [b] ++ q2 ++ p2)).Perm (b :: (B.fp ++ (q1 ++ q2 ++ p2))) := by
      simp only [List.perm_iff_count, List.count_append, List.count_cons, List.count_nil]
      intro a; omega
    exact (List.nodup_cons.mp (pm.nodup_iff.mp nd)).1 hb
  have rf : Same Hs Hs := fun _ _ e => e
  have offp : Hs p = none := I.off p (by simp)
  have es : (δ.map some).set i (some (.ref p)) = δ.map some := by
    obtain ⟨hl, he⟩ := List.getElem?_eq_some_iff.mp h1
    rw [← he, List.set_getElem_self]
  have tm' := h4 (H' := upd H p o) rf (fun b hb => upd_ne (np b (by simp only [List.mem_append] at hb ⊢; exact .inr (.inl hb)))) h
  rw [es] at tm'
  refine ⟨fun b u e => ?_, I.off, I.nd, I.st.mono rf fun b hb => upd_ne (np b (List.mem_append_left _ hb)), by rw [List.map_set]; exact tm', I.sl.mono rf fun b hb => upd_ne (np b (by simp [hb])), fun b u hb e => ?_, I.l0, I.s0, I.new, I.own⟩
  · rw [upd_ne (fun z => by subst z; rw [offp] at e; cases e)]; exact I.sub b u e
  · rw [upd_ne (fun z => by subst z; rw [I.own b (by simp)] at e; cases e)]; exact I.h0 b u hb e
/-- what stands at a place of the stack -/
theorem RepI.tmAt {i : Nat} {r : R} (I : RepI K S B Hs Δ δ Γ σ H p1 p2) (hi : Δ[i]? = some r) : ∃ v q, δ[i]? = some v ∧ Own K B.tk Hs H r v q := by
  have hi' : (Δ.map some)[i]? = some (some r) := by simp [hi]
  obtain ⟨v, q, q1, q2, h1, h2, h3, h4⟩ := I.tm.at hi'
  exact ⟨v, q, by simpa using h1, h3⟩
/-- a stable value put into a slot -/
theorem RepI.putVal {i : Nat} {v : V} {d : D} (I : RepI K S B Hs Δ δ Γ σ H p1 p2) (h : Den K B.tk Hs v d) (hi : i < Γ.length) : ∃ p1' p2', RepI K S B Hs Δ δ (Γ.set i (some (.val d))) (σ.set i (some v)) H p1' p2' := (I.push h).store hi
end

/-! ### comprehensions -/
def wipeG (Γ : Nv) : List Nat → Nv
  | [] => Γ
  | v :: vs => (wipeG Γ vs).set v none
/-- what the comprehension's own names held ahead of it -/
def sv (Γ : Nv) (vs : List Nat) : List (Nat × D) := vs.filterMap fun v => match Γ[v]? with
  | some (some (R.val d)) => some (v, d)
  | _ => none
def rest (Γ : Nv) : List (Nat × D) → Nv
  | [] => Γ
  | (v, d) :: l => (rest Γ l).set v (some (.val d))
/-- the turns: acc what was made so far -/
def wLcL (g : WG) (tt : WT) (se : WE) (vs : List Nat) : List D → List D → Nv → (List D → Nv → Prop) → Prop
  | [], acc, Γ, P => P acc Γ
  | d :: ds, acc, Γ, P => g (.val d) Γ fun Γ2 => tt (fun _ _ => False) Γ2 fun b Γ3 => if b = true then se (fun _ _ => False) Γ3 fun r Γ4 => wLcL g tt se vs ds (acc ++ [r.d]) (wipeG Γ4 vs) P else wLcL g tt se vs ds acc (wipeG Γ3 vs) P
def wLc (w : WA) (g : WG) (tt : WT) (se : WE) (vs : List Nat) : WE := fun xp Γ P => w xp Γ fun ds Γ1 => ds.length ≤ sizeLine ∧ wLcL g tt se vs ds [] (wipeG Γ1 vs) fun acc Γ' => P (.lst acc) (rest (wipeG Γ' vs) (sv Γ1 vs))
def wYes : WT := fun _ Γ P => P true Γ
/-- no exception leaves a comprehension -/
abbrev W0 : WX := fun _ _ _ _ => False

section
variable {K : PySem.W.Frag} {S : SK} {mg : Str → Option Value} {W : WX} {B : Bs} {Hs H : Hp} {Δ : List R} {δ : List V} {Γ : Nv} {σ : L2.St} {p1 p2 : List Addr}
theorem wipeG_length (Γ : Nv) : ∀ vs : List Nat, (wipeG Γ vs).length = Γ.length
  | [] => rfl
  | v :: vs => by unfold wipeG; rw [List.length_set, wipeG_length Γ vs]
theorem wipeG_in {Γ : Nv} {j : Nat} {r : R} : ∀ {vs : List Nat}, (wipeG Γ vs)[j]? = some (some r) → j ∉ vs ∧ Γ[j]? = some (some r)
  | [], h => ⟨by simp, h⟩
  | v :: vs, h => by
    unfold wipeG at h
    by_cases hj : v = j
    · subst hj
      by_cases hv : v < (wipeG Γ vs).length
      · rw [List.getElem?_set_self hv] at h; cases h
      · rw [List.getElem?_eq_none (by simpa using hv)] at h; cases h
    · rw [List.getElem?_set_ne hj] at h
      obtain ⟨h1, h2⟩ := wipeG_in h
      exact ⟨by simp only [List.mem_cons, not_or]; exact ⟨fun e => hj e.symm, h1⟩, h2⟩
theorem wipe_out' {σ : L2.St} {j : Nat} : ∀ {vs : List Nat}, j ∉ vs → (wipe σ vs)[j]? = σ[j]?
  | [], _ => rfl
  | v :: vs, h => by
    simp only [List.mem_cons, not_or] at h
    unfold wipe
    rw [List.getElem?_set_ne (Ne.symm h.1)]
    exact wipe_out' h.2
theorem wipe_in' {σ : L2.St} {j : Nat} : ∀ {vs : List Nat}, j ∈ vs → j < σ.length → (wipe σ vs)[j]? = some none
  | [], h, _ => by simp at h
  | v :: vs, h, hl => by
    unfold wipe
    by_cases hj : v = j
    · subst hj
      rw [List.getElem?_set_self (by rw [wipe_length]; exact hl)]
    · rw [List.getElem?_set_ne hj]
      exact wipe_in' ((List.mem_cons.mp h).resolve_left (Ne.symm hj)) hl
theorem wipe_eqv {is : List Nat} {σ σ' : L2.St} {vs : List Nat} (h : Eqv is σ σ') (hs : ∀ i ∈ is, i ∈ vs) : wipe σ' vs = wipe σ vs := by
  apply List.ext_getElem?
  intro j
  by_cases hj : j ∈ vs
  · by_cases hl : j < σ.length
    · rw [wipe_in' hj hl, wipe_in' hj (by rw [h.1]; exact hl)]
    · rw [List.getElem?_eq_none (by rw [wipe_length, h.1]; omega), List.getElem?_eq_none (by rw [wipe_length]; omega)]
  · rw [wipe_out' hj, wipe_out' hj]
    exact h.2 j fun z => hj (hs j z)
theorem wipe_wipe (σ : L2.St) (vs : List Nat) : wipe (wipe σ vs) vs = wipe σ vs := by
  apply List.ext_getElem?
  intro j
  by_cases hj : j ∈ vs
  · by_cases hl : j < σ.length
    · rw [wipe_in' hj (by rw [wipe_length]; exact hl), wipe_in' hj hl]
    · rw [List.getElem?_eq_none (by rw [wipe_length, wipe_length]; omega), List.getElem?_eq_none (by rw [wipe_length]; omega)]
  · rw [wipe_out' hj]
/-- own names forgotten -/
theorem RepI.wiped : ∀ (vs : List Nat) {p2 : List Addr}, RepI K S B Hs Δ δ Γ σ H p1 p2 → ∃ p2', RepI K S B Hs Δ δ (wipeG Γ vs) (wipe σ vs) H p1 p2'
  | [], p2, I => ⟨p2, I⟩
  | v :: vs, p2, I => by
    obtain ⟨p2', I'⟩ := RepI.wiped vs I
    exact I'.forget v none
/-- the slots' values need not be known where a name is forgotten -/
theorem RepI.back {vs : List Nat} (I : RepI K S B Hs Δ δ (wipeG Γ vs) (wipe σ vs) H p1 p2) : RepI K S B Hs Δ δ (wipeG Γ vs) σ H p1 p2 :=
  I.eqv (wipe_length σ vs).symm fun j r e => (wipe_out' (wipeG_in e).1).symm
theorem sv_mem {vs : List Nat} {q : Nat × D} (h : q ∈ sv Γ vs) : Γ[q.1]? = some (some (.val q.2)) := by
  unfold sv at h
  obtain ⟨v, _, e⟩ := List.mem_filterMap.mp h
  split at e
  · rename_i d hd
    cases e
    exact hd
  · cases e
/-- stable values of slots on the stack -/
theorem RepI.saved : ∀ (l : List (Nat × D)), (∀ q ∈ l, Γ[q.1]? = some (some (.val q.2))) → RepI K S B Hs Δ δ Γ σ H p1 p2 → ∃ us : List V, us.length = l.length ∧ (∀ (k : Nat) q v, l[k]? = some q → us[k]? = some v → σ[q.1]? = some (some v)) ∧ RepI K S B Hs (l.map (fun q => R.val q.2) ++ Δ) (us ++ δ) Γ σ H p1 p2
  | [], _, I => ⟨[], rfl, fun k q v e => by simp at e, I⟩
  | q :: l, h, I => by
    obtain ⟨us, h1, h2, I'⟩ := RepI.saved l (fun q hq => h q (List.mem_cons_of_mem _ hq)) I
    have hq := h q (List.mem_cons_self)
    obtain ⟨v, _, _, _, hv, _, ho, _⟩ := I.sl.at hq
    cases ho with
    | val dv =>
      refine ⟨v :: us, by simp [h1], fun k q' v' e1 e2 => ?_, I'.push dv⟩
      cases k with
      | zero => simp at e1 e2; subst e1 e2; exact hv
      | succ k => exact h2 k q' v' (by simpa using e1) (by simpa using e2)
/-- .. and back -/
theorem RepI.restored : ∀ (l : List (Nat × D)) {us : List V} {Γ : Nv} {p1 p2 : List Addr}, us.length = l.length → (∀ (k : Nat) q v, l[k]? = some q → us[k]? = some v → σ[q.1]? = some (some v)) → (∀ q ∈ l, q.1 < Γ.length) →
    RepI K S B Hs (l.map (fun q => R.val q.2) ++ Δ) (us ++ δ) Γ σ H p1 p2 → ∃ p1' p2', RepI K S B Hs Δ δ (rest Γ l) σ H p1' p2' ∧ (rest Γ l).length = Γ.length
  | [], [], Γ, p1, p2, _, _, _, I => ⟨p1, p2, I, rfl⟩
  | q :: l, v :: us, Γ, p1, p2, hl, h, hb, I => by
    have tm := I.tm
    have dv : Den K B.tk Hs v q.2 := by
      have tm' : Slots K B.tk Hs H (some (.val q.2) :: (l.map (fun q => R.val q.2) ++ Δ).map some) (some v :: (us ++ δ).map some) p1 := tm
      cases tm' with
      | cons ho _ => cases ho with
        | val dv => exact dv
    obtain ⟨p1', I'⟩ := RepI.pop (show RepI K S B Hs (.val q.2 :: (l.map (fun q => R.val q.2) ++ Δ)) (v :: (us ++ δ)) Γ σ H p1 p2 from I)
    obtain ⟨q1, q2, I2, el⟩ := RepI.restored l (by simpa using hl) (fun k q' v' e1 e2 => h (k + 1) q' v' (by simpa using e1) (by simpa using e2)) (fun q hq => hb q (List.mem_cons_of_mem _ hq)) I'
    obtain ⟨r1, r2, I3⟩ := I2.putVal dv (i := q.1) (by rw [el]; exact hb q List.mem_cons_self)
    have hσ := h 0 q v rfl rfl
    have es : σ.set q.1 (some v) = σ := by
      obtain ⟨hl, he⟩ := List.getElem?_eq_some_iff.mp hσ
      rw [← he, List.set_getElem_self]
    rw [es] at I3
    exact ⟨r1, r2, I3, by show ((rest Γ l).set q.1 _).length = _; rw [List.length_set]; exact el⟩
theorem lc_run {w : WA} {g : WG} {tt : WT} {se : WE} {vs is : List Nat} {Q : VK} (hs : ∀ i ∈ is, i ∈ vs) (h : DE K S mg W (wLc w g tt se vs) σ H Q) :
    tLc (DI K S mg W w) (DG K S is g) (DT K S mg W0 tt) (DE K S mg W0 se) vs σ H Q := by
  obtain ⟨B, Δ, δ, Γ, xp, P, rp, hs', k, xl⟩ := h
  refine ⟨B, Δ, δ, Γ, xp, _, rp, hs', fun v H1 d ds Γ1 J rp1 it h1 => ?_, xl⟩
  intro D hD
  obtain ⟨Hs, p1, p2, I⟩ := rp1
  obtain ⟨hlen, h1⟩ := h1
  -- the new list, then what the own names held
  obtain ⟨_, _, _, I1⟩ := (I.finL (p := D) .nil hD)
  obtain ⟨us, u1, u2, I2⟩ := RepI.saved (sv Γ1 vs) (fun q hq => sv_mem hq) I1
  obtain ⟨p2', I3⟩ := I2.wiped vs
  have xl0 : ∀ (Δ : List R) (δ : List V) (σ : L2.St), XL K S mg B W0 Δ δ σ (fun _ _ => False) := fun _ _ _ _ _ _ _ _ _ q => q.elim
  have nsv : ((sv Γ1 vs).map (fun q => R.val q.2)).length = us.length := by rw [List.length_map, u1]
  refine ⟨fun i m H => m = ds.length - i ∧ i ≤ ds.length ∧ ∃ acc Γ, Rep K S B ((sv Γ1 vs).map (fun q => R.val q.2) ++ .lst acc :: .val d :: Δ) (us ++ .ref D :: v :: δ) Γ (wipe σ vs) H ∧ acc.length ≤ i ∧ Γ.length = Γ1.length ∧
    wLcL g tt se vs (ds.drop i) acc Γ fun acc Γ' => P (.lst acc) (rest (wipeG Γ' vs) (sv Γ1 vs)), ⟨_, rfl, Nat.zero_le _, [], _, I3.rep, Nat.zero_le _, wipeG_length _ _, h1⟩, ?_⟩
  rintro i m H ⟨rfl, hi, acc, Γ2, ⟨Hs2, q1, q2, I4⟩, ha, hlΓ, h2⟩
  have dv : Den K B.tk Hs2 v d := by
    obtain ⟨v', q, hv', ho⟩ := I4.tmAt (i := (sv Γ1 vs).length + 1) (r := .val d) (by rw [List.getElem?_append_right (by rw [List.length_map]; omega)]; simp)
    rw [List.getElem?_append_right (by omega), u1] at hv'
    simp at hv'
    subst hv'
    cases ho with
    | val dv => exact dv
  by_cases hlt : i < ds.length
  · obtain ⟨hg, hy⟩ := it.go rfl I4 dv hlt
    refine .inr ⟨hg, fun H => ∃ acc Γ, Rep K S B ((sv Γ1 vs).map (fun q => R.val q.2) ++ .lst acc :: .val d :: Δ) (us ++ .ref D :: v :: δ) Γ (wipe σ vs) H ∧ acc.length ≤ i + 1 ∧ Γ.length = Γ1.length ∧
      wLcL g tt se vs (ds.drop (i + 1)) acc Γ fun acc Γ' => P (.lst acc) (rest (wipeG Γ' vs) (sv Γ1 vs)), fun H' ⟨acc', Γ', rp', a', l', h'⟩ => ⟨ds.length - (i + 1), by omega, rfl, hlt, acc', Γ', rp', a', l', h'⟩, fun x H' y => ?_⟩
    obtain ⟨Hs', d', e, I5, _, dx⟩ := hy x H' y
    rw [drop_get e] at h2
    -- the length of the slots' list, by the values'
    have lenσ : ∀ {Δ : List R} {δ : List V} {Γ : Nv} {σ : L2.St} {H : Hp}, Rep K S B Δ δ Γ σ H → σ.length = Γ.length := fun ⟨_, _, _, J⟩ => J.sl.length
    have l0 : (wipe σ vs).length = Γ1.length := (lenσ I4.rep).trans hlΓ
    refine ⟨B, _, _, Γ2, .val d', _, I5.fin dx, h2, fun σ2 H2 Γ3 rp3 h3 eq => ?_⟩
    have ew : wipe σ2 vs = wipe σ vs := by rw [wipe_eqv eq hs, wipe_wipe]
    refine ⟨ew, B, _, _, Γ3, _, _, rp3, h3, fun b H3 Γ4 rp4 h4 => ?_, xl0 _ _ _⟩
    have fin : ∀ {acc : List DL.D} {Γ : Nv} {H : Hp}, Rep K S B ((sv Γ1 vs).map (fun q => R.val q.2) ++ .lst acc :: .val d :: Δ) (us ++ .ref D :: v :: δ) Γ σ2 H → Rep K S B ((sv Γ1 vs).map (fun q => R.val q.2) ++ .lst acc :: .val d :: Δ) (us ++ .ref D :: v :: δ) (wipeG Γ vs) (wipe σ vs) H ∧ (wipeG Γ vs).length = Γ1.length := by
      intro acc Γ H rp
      have l1 := lenσ rp
      obtain ⟨Hs, r1, r2, J⟩ := rp
      obtain ⟨r2', J'⟩ := J.wiped vs
      rw [ew] at J'
      refine ⟨J'.rep, ?_⟩
      rw [wipeG_length, ← l1, eq.1]
      exact l0
    cases b with
    | false =>
      obtain ⟨f1, f2⟩ := fin rp4
      exact iteF ⟨acc, _, f1, Nat.le_succ_of_le ha, f2, h4⟩
    | true =>
      refine iteT ⟨B, _, _, Γ4, _, _, rp4, h4, fun z H5 r Γ5 rp5 h5 => ?_, xl0 _ _ _⟩
      obtain ⟨Hs5, s1, s2, I6, dz⟩ := rp5.frz
      obtain ⟨v', q, hv', ho⟩ := I6.tmAt (i := (sv Γ1 vs).length) (r := .lst acc) (by rw [List.getElem?_append_right (by rw [List.length_map]; omega)]; simp)
      rw [List.getElem?_append_right (by omega), u1] at hv'
      simp at hv'
      subst hv'
      cases ho with
      | @lst _ accV _ hp da =>
        have I7 := I6.writeT (i := (sv Γ1 vs).length) (p := D) (r := .lst acc) (r' := .lst (acc ++ [r.d])) (o := .lst (accV ++ [z])) (by rw [List.getElem?_append_right (by rw [List.length_map]; omega)]; simp)
          (by rw [List.getElem?_append_right (by omega), u1]; simp) (fun {q} ho => by cases ho; rfl) (.lst upd_same (da.append (.cons dz .nil)))
        have es : ((sv Γ1 vs).map (fun q => R.val q.2) ++ R.lst acc :: .val d :: Δ).set (sv Γ1 vs).length (.lst (acc ++ [r.d])) = (sv Γ1 vs).map (fun q => R.val q.2) ++ R.lst (acc ++ [r.d]) :: .val d :: Δ := by
          rw [List.set_append_right _ _ (by rw [List.length_map]; omega)]
          simp
        rw [es] at I7
        obtain ⟨f1, f2⟩ := fin I7.rep
        exact ⟨accV, hp, by rw [da.length]; omega, acc ++ [r.d], _, f1, by rw [List.length_append]; exact Nat.succ_le_succ ha, f2, h5⟩
  · have e : i = ds.length := by omega
    subst e
    rw [List.drop_length] at h2
    refine .inl ⟨it.stop rfl I4 dv (Nat.le_refl _), ?_⟩
    obtain ⟨q2', I5⟩ := I4.wiped vs
    rw [wipe_wipe] at I5
    have I6 := I5.back
    have lσ : σ.length = Γ1.length := by
      have z := I4.sl.length
      rw [wipe_length] at z
      exact z.trans hlΓ
    obtain ⟨r1, r2, I7, _⟩ := RepI.restored (sv Γ1 vs) u1 u2 (fun q hq => by
      have := (List.getElem?_eq_some_iff.mp (sv_mem hq)).1
      rw [wipeG_length, hlΓ]
      exact this) I6
    obtain ⟨r1', I8⟩ := I7.drop2
    exact k _ _ _ _ I8.rep h2
end
end DL

set_option maxHeartbeats 1000000
namespace DL
open PySem PySem.Spec L2

/-! ### comprehensions, the rules -/
section
variable {X : Cx} {S : SK} {W : WX} {pos spos py : Pos} {elt tg iter : Expr} {ifs : List Expr} {scope : Scope} {own : List (Str × Nat)} {w : WA} {g : WG} {tt : WT} {se : WE} {is : List Nat}
theorem pdts_nil : PTs X [] (DT X.K S X.mg W wYes) := ⟨fun pins s σ H Q I ⟨B, Δ, δ, Γ, xp, P, rp, hs, k, xl⟩ => pts_nil.run pins s σ H Q I (k _ _ _ rp hs)⟩
theorem pdts_one {c : Expr} (h : PT X c (DT X.K S X.mg W tt)) : PTs X [c] (DT X.K S X.mg W tt) := pts_one h
theorem pd_lc (hc : X.calm = true) (hN : X.N.Nodup) (hi : PI X tg iter (DI X.K S X.mg W w)) (ok : BlkOk X.N X.env.scope scope own) (hs : ∀ i ∈ is, i ∈ own.map (·.2))
    (hg : ∀ (s : Shared) (H : Hp) (C : Addr) (cl : List (Str × Addr)) (fp : List Addr), PG (X.blk s H scope (compEnvC scope cl C X.env) fp) tg (DG X.K S is g))
    (ht : ∀ (s : Shared) (H : Hp) (C : Addr) (cl : List (Str × Addr)) (fp : List Addr), PTs (X.blk s H scope (compEnvC scope cl C X.env) fp) ifs (DT X.K S X.mg W0 tt))
    (he : ∀ (s : Shared) (H : Hp) (C : Addr) (cl : List (Str × Addr)) (fp : List Addr), PE (X.blk s H scope (compEnvC scope cl C X.env) fp) elt (DE X.K S X.mg W0 se)) (hf : ∀ x, foldedSetIterable iter X.env x = pure x := by intro _; rfl) :
    PE X (.ListComp elt [⟨tg, iter, ifs, 0⟩] scope pos) (DE X.K S X.mg W (wLc w g tt se (own.map (·.2)))) :=
  PE.imp (pe_lc hc hN hi ok hg ht he hf) fun _ _ _ h => lc_run hs h
theorem pds_setLc {i : Nat} {y : Str} (hc : X.calm = true) (hN : X.N.Nodup) (hy : X.N[i]? = some y) (hyl : X.env.scope.names.lookup y = some .local)
    (hsw : swapsWith (.ListComp elt [⟨tg, iter, ifs, 0⟩] scope pos) (some (.Name y py)) spos.line X.env = pure true) (hi : PI X tg iter (DI X.K S X.mg W w)) (ok : BlkOk X.N X.env.scope scope own) (hs : ∀ i ∈ is, i ∈ own.map (·.2))
    (hg : ∀ (s : Shared) (H : Hp) (C : Addr) (cl : List (Str × Addr)) (fp : List Addr), PG (X.blk s H scope (compEnvC scope cl C X.env) fp) tg (DG X.K S is g))
    (ht : ∀ (s : Shared) (H : Hp) (C : Addr) (cl : List (Str × Addr)) (fp : List Addr), PTs (X.blk s H scope (compEnvC scope cl C X.env) fp) ifs (DT X.K S X.mg W0 tt))
    (he : ∀ (s : Shared) (H : Hp) (C : Addr) (cl : List (Str × Addr)) (fp : List Addr), PE (X.blk s H scope (compEnvC scope cl C X.env) fp) elt (DE X.K S X.mg W0 se)) (hf : ∀ x, foldedSetIterable iter X.env x = pure x := by intro _; rfl) :
    PS X (.Assign [.Name y py] (.ListComp elt [⟨tg, iter, ifs, 0⟩] scope pos) spos) (DS X.K S X.mg W (wSet i (wLc w g tt se (own.map (·.2))))) :=
  PS.imp (ps_setLc hc hN hy hyl hsw hi ok hg ht he hf) fun _ _ _ h => set_run (fun _ _ _ q => lc_run hs q) h
end

/-! ### lists of one's own, changed -/
section
variable {X : Cx} {S : SK} {W : WX} {pos apos cpos : Pos} {e a b : Expr} {se sa sb : WE} {K : PySem.W.Frag}
theorem own_lst {K : PySem.W.Frag} {B : Bs} {Hs H : Hp} {Δ : List R} {δ : List V} {Γ : Nv} {σ : L2.St} {p1 p2 : List Addr} {i : Nat} {l : List D} (I : RepI K S B Hs Δ δ Γ σ H p1 p2) (h : Γ[i]? = some (some (.lst l))) :
    ∃ p vs, σ[i]? = some (some (.ref p)) ∧ H p = some (.lst vs) ∧ DenAll K B.tk Hs vs l := by
  obtain ⟨v, q, _, _, h1, _, h3, _⟩ := I.sl.at h
  cases h3 with
  | lst hp da => exact ⟨_, _, h1, hp, da⟩
theorem own_put {K : PySem.W.Frag} {B : Bs} {Hs H : Hp} {Δ : List R} {δ : List V} {Γ : Nv} {σ : L2.St} {p1 p2 : List Addr} {i : Nat} {l l' : List D} {p : Addr} {vs' : List V} (I : RepI K S B Hs Δ δ Γ σ H p1 p2) (h : Γ[i]? = some (some (.lst l)))
    (hv : σ[i]? = some (some (.ref p))) (da : DenAll K B.tk Hs vs' l') : RepI K S B Hs Δ δ (Γ.set i (some (.lst l'))) σ (upd H p (.lst vs')) p1 p2 :=
  I.write h hv (fun ho => by cases ho; rfl) (.lst upd_same da)
/-- x.append(e) -/
def wAppend (i : Nat) (se : WE) : WE := fun xp Γ P => (∃ l0, Γ[i]? = some (some (.lst l0))) ∧ se xp Γ fun r Γ2 => ∃ l, Γ2[i]? = some (some (.lst l)) ∧ l.length < sizeLine ∧ P (.val .non) (Γ2.set i (some (.lst (l ++ [r.d]))))
theorem pd_append {y : Str} {p : Pos} (i : Nat) (ha : PE X (.Name y p) (tVar i)) (he : PE X e (DE X.K S X.mg W se))
    (h : PE X (.Call (.Attribute (.Name y p) "append" apos) [e] [] cpos) (tBM X.K "list" rAppend (tVar i) (tCons (DE X.K S X.mg W se) tNil))) :
    PE X (.Call (.Attribute (.Name y p) "append" apos) [e] [] cpos) (DE X.K S X.mg W (wAppend i se)) := by
  refine PE.imp h fun σ H Q ⟨B, Δ, δ, Γ, xp, P, ⟨Hs, q1, q2, I⟩, ⟨⟨l0, h0⟩, hs⟩, k, xl⟩ => ?_
  obtain ⟨p0, vs0, hv, hp0, _⟩ := own_lst I h0
  refine ⟨_, hv, .inl ⟨rfl, _, .inl (.inl hp0)⟩, B, Δ, δ, Γ, xp, _, I.rep, hs, fun v H1 r Γ2 rp h1 => ?_, xl⟩
  obtain ⟨l, hl, hz, hp⟩ := h1
  obtain ⟨Hs2, r1, r2, I2, dv⟩ := rp.frz
  obtain ⟨p', vs, hv', hp', da⟩ := own_lst I2 hl
  rw [hv] at hv'; cases hv'
  exact ⟨_, _, _, rfl, rfl, hp', by rw [da.length]; exact hz, k _ _ _ _ ((own_put I2 hl hv (da.append (.cons dv .nil))).fin .non) hp⟩
/-- x.pop() -/
def wPop (i : Nat) : WE := fun _ Γ P => ∃ l d, Γ[i]? = some (some (.lst l)) ∧ l[l.length - 1]? = some d ∧ P (.val d) (Γ.set i (some (.lst l.dropLast)))
theorem pd_pop {y : Str} {p : Pos} (i : Nat) (h : PE X (.Call (.Attribute (.Name y p) "pop" apos) [] [] cpos) (tBM0 X.K "list" rPop (tVar i))) :
    PE X (.Call (.Attribute (.Name y p) "pop" apos) [] [] cpos) (DE X.K S X.mg W (wPop i)) := by
  refine PE.imp h fun σ H Q ⟨B, Δ, δ, Γ, xp, P, ⟨Hs, q1, q2, I⟩, ⟨l, d, hl, hd, hp⟩, k, xl⟩ => ?_
  obtain ⟨p0, vs, hv, hp0, da⟩ := own_lst I hl
  obtain ⟨v, hv', dv⟩ := da.get hd
  refine ⟨_, hv, .inl ⟨rfl, _, .inl (.inl hp0)⟩, _, _, v, rfl, rfl, hp0, by rw [da.length]; exact hv', k _ _ _ _ ((own_put I hl hv da.dropLast).fin dv) hp⟩
/-- x.extend(e), e a list -/
def wExtend (i : Nat) (se : WE) : WE := fun xp Γ P => (∃ l0, Γ[i]? = some (some (.lst l0))) ∧ se xp Γ fun r Γ2 => ∃ l m, Γ2[i]? = some (some (.lst l)) ∧ r.d = .lst m ∧ l.length + m.length ≤ sizeLine ∧ P (.val .non) (Γ2.set i (some (.lst (l ++ m))))
theorem pd_extend {y : Str} {p : Pos} (i : Nat) (h : PE X (.Call (.Attribute (.Name y p) "extend" apos) [e] [] cpos) (tBM X.K "list" rExtend (tVar i) (tCons (DE X.K S X.mg W se) tNil))) :
    PE X (.Call (.Attribute (.Name y p) "extend" apos) [e] [] cpos) (DE X.K S X.mg W (wExtend i se)) := by
  refine PE.imp h fun σ H Q ⟨B, Δ, δ, Γ, xp, P, ⟨Hs, q1, q2, I⟩, ⟨⟨l0, h0⟩, hs⟩, k, xl⟩ => ?_
  obtain ⟨p0, vs0, hv, hp0, _⟩ := own_lst I h0
  refine ⟨_, hv, .inl ⟨rfl, _, .inl (.inl hp0)⟩, B, Δ, δ, Γ, xp, _, I.rep, hs, fun v H1 r Γ2 rp h1 => ?_, xl⟩
  obtain ⟨l, m, hl, hm, hz, hp⟩ := h1
  obtain ⟨Hs2, r1, r2, I2, dv⟩ := rp.frz
  obtain ⟨p', vs, hv', hp', da⟩ := own_lst I2 hl
  rw [hv] at hv'; cases hv'
  rw [hm] at dv
  cases dv with
  | lst hb db =>
    exact ⟨_, _, _, _, rfl, rfl, hp', I2.sub _ _ hb, by rw [da.length, db.length]; exact hz, k _ _ _ _ ((own_put I2 hl hv (da.append db)).fin .non) hp⟩
/-- x[a] = e -/
def wSetIx (i : Nat) (sb se : WE) : WS := fun Γ m => se m.xp Γ fun r Γ1 => (∃ l0, Γ1[i]? = some (some (.lst l0))) ∧ sb m.xp Γ1 fun rb Γ2 => ∃ l n j, Γ2[i]? = some (some (.lst l)) ∧ rb = .val (.int n) ∧ ixN l.length n = some j ∧ m.nx (Γ2.set i (some (.lst (l.set j r.d))))
theorem pds_setIx {y : Str} {p tpos : Pos} (i : Nat) (h : PS X (.Assign [.Subscript (.Name y p) b tpos] e pos) (tAsg (DE X.K S X.mg W se) (gSub (tVar i) (DE X.K S X.mg W sb) rSetL))) :
    PS X (.Assign [.Subscript (.Name y p) b tpos] e pos) (DS X.K S X.mg W (wSetIx i sb se)) := by
  refine PS.imp h fun D σ H ⟨B, Δ, δ, Γ, m, rp, hs, k1, k2, k3, k4, k5⟩ => ?_
  refine ⟨B, Δ, δ, Γ, m.xp, _, rp, hs, fun v H1 r Γ1 rp1 h1 => ?_, k5 σ⟩
  obtain ⟨⟨l0, h0⟩, h1⟩ := h1
  obtain ⟨Hs1, r1, r2, I1⟩ := rp1
  obtain ⟨p0, vs0, hv, hp0, _⟩ := own_lst I1 h0
  refine ⟨_, hv, B, r :: Δ, v :: δ, Γ1, m.xp, _, I1.rep, h1, fun u H2 rb Γ2 rp2 h2 => ?_, (k5 σ).push⟩
  obtain ⟨l, n, j, hl, hrb, hj, hp⟩ := h2
  obtain ⟨Hs2, s1, s2, I2, du, dv⟩ := rp2.frz2
  subst hrb
  cases du
  obtain ⟨p', vs, hv', hp', da⟩ := own_lst I2 hl
  rw [hv] at hv'; cases hv'
  exact ⟨_, vs, n, j, rfl, rfl, hp', by rw [da.length]; exact hj, k1 _ _ _ (own_put I2 hl hv (da.set dv j)).rep hp⟩
/-- x, y = a, b : both sides written -/
def wPar (i j : Nat) (sa sb : WE) : WS := fun Γ m => sa m.xp Γ fun ra Γ1 => sb m.xp Γ1 fun rb Γ2 => i < Γ2.length ∧ j < Γ2.length ∧ m.nx ((Γ2.set j (some rb)).set i (some ra))
theorem pds_par {i j : Nat} {x y : Str} {px py pt pt2 : Pos} {kt k2} (hij : i ≠ j) (h : PS X (.Assign [.Tuple [.Name x px, .Name y py] kt pt] (.Tuple [a, b] k2 pt2) pos) (tPar i j (tCons (DE X.K S X.mg W sa) (tCons (DE X.K S X.mg W sb) tNil)))) :
    PS X (.Assign [.Tuple [.Name x px, .Name y py] kt pt] (.Tuple [a, b] k2 pt2) pos) (DS X.K S X.mg W (wPar i j sa sb)) := by
  refine PS.imp h fun D σ H ⟨B, Δ, δ, Γ, m, rp, hs, k1, k2, k3, k4, k5⟩ => ?_
  refine ⟨B, Δ, δ, Γ, m.xp, _, rp, hs, fun v H1 ra Γ1 rp1 h1 => ?_, k5 σ⟩
  refine ⟨B, ra :: Δ, v :: δ, Γ1, m.xp, _, rp1, h1, fun u H2 rb Γ2 rp2 h2 => ?_, (k5 σ).push⟩
  obtain ⟨hi, hj, hp⟩ := h2
  obtain ⟨Hs2, s1, s2, I2⟩ := rp2
  obtain ⟨s1', s2', I3⟩ := I2.store (i := j) hj
  obtain ⟨s1'', s2'', I4⟩ := I3.store (i := i) (by rw [List.length_set]; exact hi)
  rw [List.set_comm (some u) (some v) (Ne.symm hij)] at I4
  exact ⟨v, u, rfl, k1 _ _ _ I4.rep hp⟩
end

/-! ### what is built in -/
section
variable {X : Cx} {S : SK} {K : PySem.W.Frag}
def wAbs (ds : List D) (P : R → Prop) : Prop := ∃ i, ds = [.int i] ∧ P (.val (.int (if i < 0 then -i else i)))
theorem cs_abs : CallS K S (fun xs H Q => ∃ i, xs = [.int i] ∧ Q (.int (if i < 0 then -i else i)) H) wAbs := by
  intro B Hs Δ δ Γ σ H p1 p2 vs ds P Q I da hw k
  obtain ⟨i, rfl, hp⟩ := hw
  cases da with | cons h a => cases a; cases h; exact ⟨i, rfl, k _ _ _ (I.fin (.int _)) hp⟩
/-- int of an int, of a bool -/
def D.asInt : D → Option Int
  | .int i => some i
  | .bl b => some (if b then 1 else 0)
  | _ => none
def wInt (ds : List D) (P : R → Prop) : Prop := ∃ d i, ds = [d] ∧ d.asInt = some i ∧ P (.val (.int i))
theorem cs_int : CallS K S (fun xs H Q => (∃ i, xs = [.int i] ∧ Q (.int i) H) ∨ ∃ k, xs = [.bl k] ∧ Q (.int (if k then 1 else 0)) H) wInt := by
  intro B Hs Δ δ Γ σ H p1 p2 vs ds P Q I da hw k
  obtain ⟨d, i, rfl, e, hp⟩ := hw
  cases da with | cons h a =>
    cases a
    cases h <;> simp [D.asInt] at e
    · subst e; exact .inr ⟨_, rfl, k _ _ _ (I.fin (.int _)) hp⟩
    · subst e; exact .inl ⟨_, rfl, k _ _ _ (I.fin (.int _)) hp⟩
def wMax2 (ds : List D) (P : R → Prop) : Prop := ∃ i j, ds = [.int i, .int j] ∧ P (.val (.int (if j > i then j else i)))
theorem cs_max2 : CallS K S (fun xs H Q => ∃ i j, xs = [.int i, .int j] ∧ Q (.int (if j > i then j else i)) H) wMax2 := by
  intro B Hs Δ δ Γ σ H p1 p2 vs ds P Q I da hw k
  obtain ⟨i, j, rfl, hp⟩ := hw
  cases da with | cons h a => cases a with | cons h2 a => cases a; cases h; cases h2; exact ⟨i, j, rfl, k _ _ _ (I.fin (.int _)) hp⟩
def wMin2 (ds : List D) (P : R → Prop) : Prop := ∃ i j, ds = [.int i, .int j] ∧ P (.val (.int (if j < i then j else i)))
theorem cs_min2 : CallS K S (fun xs H Q => ∃ i j, xs = [.int i, .int j] ∧ Q (.int (if j < i then j else i)) H) wMin2 := by
  intro B Hs Δ δ Γ σ H p1 p2 vs ds P Q I da hw k
  obtain ⟨i, j, rfl, hp⟩ := hw
  cases da with | cons h a => cases a with | cons h2 a => cases a; cases h; cases h2; exact ⟨i, j, rfl, k _ _ _ (I.fin (.int _)) hp⟩
/-- list(x), tuple(x) of a list, a tuple; list(x) of a text -/
def wList (ds : List D) (P : R → Prop) : Prop := ∃ d l, ds = [d] ∧ (d = .lst l ∨ d = .fro l ∨ d = .tup l ∨ ∃ s, d = .str s ∧ l = chars s) ∧ P (.lst l)
def rListS : List V → Hp → VK → Prop := fun xs H Q => ∃ z : Str, xs = [.str z] ∧ z.length ≤ sizeLine ∧ ∀ l, H l = none → Q (.ref l) (upd H l (.lst (z.cps.toList.map fun c => V.str ⟨#[c]⟩)))
theorem vals_get {X : List V} {Y : List Value} (hl : X.length = Y.length) (h : ∀ (j : Nat) (x : V) (u : Value), X[j]? = some x → Y[j]? = some u → RelV x u) : Vals X Y := by
  induction X generalizing Y with
  | nil => cases Y with
    | nil => exact .nil
    | cons _ _ => simp at hl
  | cons x X ih => cases Y with
    | nil => simp at hl
    | cons u Y => exact .cons (h 0 x u rfl rfl) (ih (by simpa using hl) fun j x u h1 h2 => h (j + 1) x u (by simpa using h1) (by simpa using h2))
theorem call_list_s {X : Cx} (hc : X.calm = true) : CallR X (.type "list") rListS := by
  intro pins s σ H xs us Q I r h
  obtain ⟨z, rfl, hz, q⟩ := h
  cases r with | cons h0 a0 =>
    cases a0
    obtain ⟨t, rfl⟩ := h0
    refine PySem.call_list_str (I.ok.hd hc) z t (fun h' tk acc c kp e items => ?_) hz
    refine ⟨.ref s.heap.objs.size, _, I.laid (t' := tk) kp (Nat.le_refl _) (show ObjOk X.prog X.w _ h' _ (.lst (z.cps.toList.map fun c => V.str ⟨#[c]⟩)) from ⟨?_, acc.toList, c, ?_, ?_⟩), rfl, q _ (I.hok.fresh (Nat.le_refl _))⟩
    · rw [List.length_map]; exact hz
    · refine vals_get ?_ fun j x u h1 h2 => ?_
      · have := items.1
        simp [this]
      · rw [List.getElem?_map] at h1
        rw [Array.getElem?_toList] at h2
        obtain ⟨cc, t2, e1, rfl⟩ := items.2 j u h2
        rw [Array.getElem?_toList, e1] at h1
        cases h1
        exact ⟨t2, rfl⟩
    · simpa using e
theorem den_chars {tk : Option Addr} {H : Hp} : ∀ l : List Nat, (∀ c ∈ l, decide (c < 0x110000) = true) → DenAll K tk H (l.map fun c => V.str ⟨#[c]⟩) (l.map fun c => D.str ⟨#[c]⟩)
  | [], _ => .nil
  | c :: l, h => .cons (.str ⟨by unfold PyData.strOk; simpa using h c (by simp), show 1 ≤ sizeLine by decide⟩) (den_chars l fun x hx => h x (by simp [hx]))
theorem cs_list : CallS K S (fun xs H Q => (∃ p ys, xs = [.ref p] ∧ (SqL K H p ys ∨ SqT K H p ys) ∧ ∀ l, H l = none → Q (.ref l) (upd H l (.lst ys))) ∨ rListS xs H Q) wList := by
  intro B Hs Δ δ Γ σ H p1 p2 vs ds P Q I da hw k
  obtain ⟨d, l, rfl, e, hp⟩ := hw
  cases da with | cons h a =>
    cases a
    rcases e with rfl | rfl | rfl | ⟨s, rfl, rfl⟩
    · cases h with | lst h1 a1 => exact .inl ⟨_, _, rfl, .inl (.inl (.inl (I.sub _ _ h1))), fun p n => k _ _ _ (I.finL a1 n) hp⟩
    · cases h with | fro h1 a1 => exact .inl ⟨_, _, rfl, .inl (I.sqL h1), fun p n => k _ _ _ (I.finL a1 n) hp⟩
    · cases h with | tup h1 a1 => exact .inl ⟨_, _, rfl, .inr (I.sqT h1), fun p n => k _ _ _ (I.finL a1 n) hp⟩
    · cases h with
      | str hs =>
        refine .inr ⟨_, rfl, hs.2, fun p n => k _ _ _ (I.finL ?_ n) hp⟩
        have h1 := hs.1
        unfold PyData.strOk at h1
        rw [← Array.all_toList, List.all_eq_true] at h1
        exact den_chars _ h1
def wTuple (ds : List D) (P : R → Prop) : Prop := ∃ d l, ds = [d] ∧ (d = .lst l ∨ d = .fro l ∨ d = .tup l) ∧ P (.val (.tup l))
theorem cs_tuple : CallS K S (fun xs H Q => ∃ p ys, xs = [.ref p] ∧ ((SqL K H p ys ∧ ∀ l, H l = none → Q (.ref l) (upd H l (.tup ys))) ∨ (SqT K H p ys ∧ Q (.ref p) H))) wTuple := by
  intro B Hs Δ δ Γ σ H p1 p2 vs ds P Q I da hw k
  obtain ⟨d, l, rfl, e, hp⟩ := hw
  cases da with | cons h a =>
    cases a
    rcases e with rfl | rfl | rfl
    · cases h with | lst h1 a1 => exact ⟨_, _, rfl, .inl ⟨.inl (.inl (I.sub _ _ h1)), fun p n => k _ _ _ (I.finT a1 n) hp⟩⟩
    · cases h with | fro h1 a1 => exact ⟨_, _, rfl, .inl ⟨I.sqL h1, fun p n => k _ _ _ (I.finT a1 n) hp⟩⟩
    · cases h with | tup h1 a1 => exact ⟨_, _, rfl, .inr ⟨I.sqT h1, k _ _ _ (I.fin (.tup h1 a1)) hp⟩⟩
/-- all, any of a list of bools -/
def wAll (ds : List D) (P : R → Prop) : Prop := ∃ bs : List Bool, ds = [.lst (bs.map D.bl)] ∧ P (.val (.bl (bs.all id)))
theorem cs_all : CallS K S (rAll K) wAll := by
  intro B Hs Δ δ Γ σ H p1 p2 vs ds P Q I da hw k
  obtain ⟨bs, rfl, hp⟩ := hw
  cases da with | cons h a =>
    cases a
    cases h with | lst h1 a1 => exact ⟨_, bs, rfl, by rw [← a1.bls]; exact .inl (.inl (I.sub _ _ h1)), k _ _ _ (I.fin (.bl _)) hp⟩
def wAny (ds : List D) (P : R → Prop) : Prop := ∃ bs : List Bool, ds = [.lst (bs.map D.bl)] ∧ P (.val (.bl (bs.any id)))
theorem cs_any : CallS K S (rAny K) wAny := by
  intro B Hs Δ δ Γ σ H p1 p2 vs ds P Q I da hw k
  obtain ⟨bs, rfl, hp⟩ := hw
  cases da with | cons h a =>
    cases a
    cases h with | lst h1 a1 => exact ⟨_, bs, rfl, by rw [← a1.bls]; exact .inl (.inl (I.sub _ _ h1)), k _ _ _ (I.fin (.bl _)) hp⟩
def wSum (ds : List D) (P : R → Prop) : Prop := ∃ ns : List Int, (ds = [.lst (ns.map D.int)] ∨ ds = [.fro (ns.map D.int)]) ∧ P (.val (.int ns.sum))
theorem cs_sum : CallS K S (rSum K) wSum := by
  intro B Hs Δ δ Γ σ H p1 p2 vs ds P Q I da hw k
  obtain ⟨bs, e, hp⟩ := hw
  rcases e with rfl | rfl
  · cases da with | cons h a =>
      cases a
      cases h with | lst h1 a1 => exact ⟨_, bs, rfl, by rw [← a1.ints]; exact .inl (.inl (I.sub _ _ h1)), k _ _ _ (I.fin (.int _)) hp⟩
  · cases da with | cons h a =>
      cases a
      cases h with | fro h1 a1 => exact ⟨_, bs, rfl, by rw [← a1.ints]; exact I.sqL h1, k _ _ _ (I.fin (.int _)) hp⟩
/-- max, min of a list of ints -/
def wMaxL (ds : List D) (P : R → Prop) : Prop := ∃ ns : List Int, ds = [.lst (ns.map D.int)] ∧ 0 < ns.length ∧ ∀ m, m ∈ ns → (∀ y, y ∈ ns → y ≤ m) → P (.val (.int m))
theorem cs_maxL : CallS K S (rMax K) wMaxL := by
  intro B Hs Δ δ Γ σ H p1 p2 vs ds P Q I da hw k
  obtain ⟨bs, rfl, hz, hp⟩ := hw
  cases da with | cons h a =>
    cases a
    cases h with | lst h1 a1 => exact ⟨_, bs, rfl, by rw [← a1.ints]; exact .inl (.inl (I.sub _ _ h1)), hz, fun m h1 h2 => k _ _ _ (I.fin (.int _)) (hp m h1 h2)⟩
def wMinL (ds : List D) (P : R → Prop) : Prop := ∃ ns : List Int, ds = [.lst (ns.map D.int)] ∧ 0 < ns.length ∧ ∀ m, m ∈ ns → (∀ y, y ∈ ns → m ≤ y) → P (.val (.int m))
theorem cs_minL : CallS K S (rMin K) wMinL := by
  intro B Hs Δ δ Γ σ H p1 p2 vs ds P Q I da hw k
  obtain ⟨bs, rfl, hz, hp⟩ := hw
  cases da with | cons h a =>
    cases a
    cases h with | lst h1 a1 => exact ⟨_, bs, rfl, by rw [← a1.ints]; exact .inl (.inl (I.sub _ _ h1)), hz, fun m h1 h2 => k _ _ _ (I.fin (.int _)) (hp m h1 h2)⟩
/-- isinstance(x, T) -/
def D.ty : D → Option String
  | .non => some "NoneType" | .bl _ => some "bool" | .int _ => some "int" | .str _ => some "str"
  | .tup _ => some "tuple" | .lst _ => some "list" | .fro _ => some "list" | .dct _ => some "dict"
  | _ => none
def isi : String → String → Option Bool
  | "bool", "int" => some true
  | a, b => if a ∈ ["NoneType", "bool", "int", "str", "tuple", "list", "dict"] ∧ b ∈ ["bool", "int", "str", "tuple", "list", "dict"] then some (a == b) else none
theorem isi_kit : ∀ a ∈ ["NoneType", "bool", "int", "str", "tuple", "list", "dict"], ∀ b ∈ ["bool", "int", "str", "tuple", "list", "dict"], kitB a b = isi a b := by decide +kernel
theorem isi_ok {a b : String} {r : Bool} (h : isi a b = some r) : kitB a b = some r := by
  unfold isi at h
  split at h
  · rw [isi_kit "bool" (by decide) "int" (by decide)]; exact h
  · split at h
    · rename_i hne hm
      rw [isi_kit a hm.1 b hm.2]
      unfold isi
      split
      · exact (hne rfl rfl).elim
      · rw [if_pos hm]; exact h
    · cases h
theorem Den.tyx {B : Bs} {Hs H : Hp} {Δ : List R} {δ : List V} {Γ : Nv} {σ : L2.St} {p1 p2 : List Addr} {x : V} {d : D} {n : String} (I : RepI K S B Hs Δ δ Γ σ H p1 p2) (h : Den K B.tk Hs x d) (e : d.ty = some n) : TyX K H x (.type n) := by
  cases h with
  | non => cases e; exact .base .non
  | bl b => cases e; exact .base (.bl b)
  | int i => cases e; exact .base (.int i)
  | str h => cases e; exact .base (.str _)
  | tup h1 a1 =>
    cases e
    rcases I.sqT h1 with (z | ⟨o, z⟩) | ⟨o, its, m, z, zc, _⟩
    · exact .base (.tup z)
    · exact .fTuple z
    · exact .kTuple z zc
  | lst h1 a1 => cases e; exact .base (.lst (I.sub _ _ h1))
  | fro h1 a1 =>
    cases e
    rcases I.sqL h1 with (z | ⟨o, z⟩) | ⟨o, its, m, z, zc, _⟩
    · exact .base (.lst z)
    · exact .base (.frz z)
    · exact .kList z zc
  | dct h1 a1 => cases e; exact .base (.dK (I.sub _ _ h1))
  | tok _ => cases e
  | raw _ => cases e
  | exc _ _ => cases e
def wIsi (ds : List D) (P : R → Prop) : Prop := ∃ d T n b, ds = [d, .raw (.ty T)] ∧ d.ty = some n ∧ isi n T = some b ∧ P (.val (.bl b))
theorem cs_isi : CallS K S (rIsi K) wIsi := by
  intro B Hs Δ δ Γ σ H p1 p2 vs ds P Q I da hw k
  obtain ⟨d, T, n, b, rfl, e1, e2, hp⟩ := hw
  cases da with | cons h a => cases a with | cons h2 a =>
    cases a
    cases h2
    exact ⟨_, _, _, _, b, rfl, .ty T, Den.tyx I h e1, kit_ty (isi_ok e2), k _ _ _ (I.fin (.bl _)) hp⟩
/-- a class's name as a value -/
theorem pd_ty {T : String} {x : Str} {pos : Pos} {W : WX} (hg : Gl X x) (hm : X.mg x = none) (hv : bootBuiltins x = some (.type T)) (hn : x ≠ "__name__" := by decide) (hd : (x == ("__debug__" : Str)) = false := by decide) :
    PE X (.Name x pos) (DE X.K S X.mg W (wC (.raw (.ty T)))) := pd_c (pe_bltn (v := .ty T) hg hm hv rfl hn hd) fun _ _ _ => .raw _
/-- str(n) -/
def wStr (ds : List D) (P : R → Prop) : Prop := ∃ i : Int, ds = [.int i] ∧ i.natAbs.log2 < 1920 ∧ SOk (toString i : String) ∧ P (.val (.str (toString i : String)))
theorem cs_str : CallS K S (fun xs H Q => ∃ i, xs = [.int i] ∧ i.natAbs.log2 < 1920 ∧ Q (.str (toString i)) H) wStr := by
  intro B Hs Δ δ Γ σ H p1 p2 vs ds P Q I da hw k
  obtain ⟨i, rfl, h1, h2, hp⟩ := hw
  cases da with | cons h a => cases a; cases h; exact ⟨i, rfl, h1, k _ _ _ (I.fin (.str h2)) hp⟩
/-- dict([(k, v), ..]) -/
def putD (kds : List (Key × D)) (k : Key) (d : D) : List (Key × D) :=
  if (kds.any fun kv => decide (kv.1 = k)) = true then kds.map (fun kv => if kv.1 = k then (kv.1, d) else kv) else kds ++ [(k, d)]
def mergeD : List (Key × D) → List (Key × D) → List (Key × D)
  | acc, [] => acc
  | acc, (k, d) :: r => mergeD (putD acc k d) r
theorem DenKs.any {tk : Option Addr} {H : Hp} {k : Key} : ∀ {kvs : List (Key × V)} {kds : List (Key × D)}, DenKs K tk H kvs kds → (kvs.any fun kv => decide (kv.1 = k)) = kds.any fun kv => decide (kv.1 = k)
  | _, _, .nil => rfl
  | _, _, .cons h a => by rw [List.any_cons, List.any_cons, DenKs.any a]
theorem DenKs.append {tk : Option Addr} {H : Hp} : ∀ {kvs kvs' : List (Key × V)} {kds kds' : List (Key × D)}, DenKs K tk H kvs kds → DenKs K tk H kvs' kds' → DenKs K tk H (kvs ++ kvs') (kds ++ kds')
  | _, _, _, _, .nil, b => b
  | _, _, _, _, .cons h a, b => .cons h (DenKs.append a b)
theorem DenKs.repl {tk : Option Addr} {H : Hp} {k : Key} {v : V} {d : D} (h : Den K tk H v d) : ∀ {kvs : List (Key × V)} {kds : List (Key × D)}, DenKs K tk H kvs kds → DenKs K tk H (kvs.map fun kv => if kv.1 = k then (kv.1, v) else kv) (kds.map fun kv => if kv.1 = k then (kv.1, d) else kv)
  | _, _, .nil => .nil
  | _, _, .cons (k := k') h' a => by
    rw [List.map_cons, List.map_cons]
    by_cases e : k' = k
    · rw [if_pos e, if_pos e]; exact .cons h (DenKs.repl h a)
    · rw [if_neg e, if_neg e]; exact .cons h' (DenKs.repl h a)
theorem DenKs.put {tk : Option Addr} {H : Hp} {k : Key} {v : V} {d : D} (h : Den K tk H v d) {kvs : List (Key × V)} {kds : List (Key × D)} (a : DenKs K tk H kvs kds) : DenKs K tk H (putK kvs k v) (putD kds k d) := by
  unfold putK putD
  rw [a.any (k := k)]
  split
  · exact a.repl h
  · exact a.append (.cons h .nil)
theorem DenKs.merge {tk : Option Addr} {H : Hp} : ∀ {r : List (Key × V)} {s : List (Key × D)} {kvs : List (Key × V)} {kds : List (Key × D)}, DenKs K tk H r s → DenKs K tk H kvs kds → DenKs K tk H (mergeK kvs r) (mergeD kds s)
  | _, _, _, _, .nil, a => a
  | (k, v) :: r, (_, d) :: s, kvs, kds, .cons h b, a => show DenKs K tk H (mergeK (putK kvs k v) r) (mergeD (putD kds k d) s) from DenKs.merge b (a.put h)
def pairOf : D → Option (Key × D)
  | .tup [k, d] => (keyOf k).map fun k => (k, d)
  | _ => none
def wDictP (ds : List D) (P : R → Prop) : Prop := ∃ l kds, ds = [.lst l] ∧ l.map pairOf = kds.map some ∧ P (.dct (mergeD [] kds))
abbrev rDictP (K : PySem.W.Frag) : List V → Hp → VK → Prop := fun xs H Q => ∃ (a : Addr) (ps : List Addr) (kvs : List (Key × V)), xs = [.ref a] ∧ SqL K H a (ps.map V.ref) ∧ Paired (fun p kv => SqT K H p [kV kv.1, kv.2]) ps kvs ∧
    ∀ p, H p = none → Q (.ref p) (upd H p (.dK (mergeK [] kvs)))
theorem pairs_den {B : Bs} {Hs H : Hp} {Δ : List R} {δ : List V} {Γ : Nv} {σ : L2.St} {p1 p2 : List Addr} (I : RepI K S B Hs Δ δ Γ σ H p1 p2) : ∀ {xs : List V} {l : List D} {kds : List (Key × D)}, DenAll K B.tk Hs xs l → l.map pairOf = kds.map some →
    ∃ (ps : List Addr) (kvs : List (Key × V)), xs = ps.map V.ref ∧ Paired (fun p kv => SqT K H p [kV kv.1, kv.2]) ps kvs ∧ DenKs K B.tk Hs kvs kds
  | _, [], [], .nil, _ => ⟨[], [], rfl, .nil, .nil⟩
  | _, d :: l, (k, e) :: kds, .cons h a, q => by
    simp only [List.map_cons, List.cons.injEq] at q
    obtain ⟨ps, kvs, e1, e2, e3⟩ := pairs_den I a q.2
    have hq := q.1
    unfold pairOf at hq
    split at hq
    · rename_i k' d'
      cases hk : keyOf k' with
      | none => rw [hk] at hq; cases hq
      | some key =>
        rw [hk] at hq
        cases hq
        cases h with
        | tup h1 a1 =>
          cases a1 with
          | cons d1 a2 => cases a2 with
            | cons d2 a3 =>
              cases a3
              have := d1.key hk
              subst this
              exact ⟨_ :: ps, (k, _) :: kvs, by rw [e1]; rfl, .cons (I.sqT h1) e2, .cons d2 e3⟩
    · cases hq
theorem cs_dictP : CallS K S (rDictP K) wDictP := by
  intro B Hs Δ δ Γ σ H p1 p2 vs ds P Q I da hw k
  obtain ⟨l, kds, rfl, e, hp⟩ := hw
  cases da with | cons h a =>
    cases a
    cases h with
    | lst h1 a1 =>
      obtain ⟨ps, kvs, e1, e2, e3⟩ := pairs_den I a1 e
      subst e1
      exact ⟨_, ps, kvs, rfl, .inl (.inl (I.sub _ _ h1)), e2, fun p n => k _ _ _ (I.finK (e3.merge .nil) n) hp⟩
end
end DL

set_option maxHeartbeats 1000000
namespace DL
open PySem PySem.Spec L2

/-! ### callees by name -/
structure Cal (P : Program) (w : World) (K : PySem.W.Frag) (mg : Str → Option Value) (base : Heap) (S : SK) (k : Nat) (x : Str) (st : Stmt) (ps : List Str) (wf : WF) : Prop where
  ex : ∃ f fd, Fun K x x st f fd ∧ FnOk P w K mg base (L2.CX P w) k f fd ps (spD K S mg ps.length wf) ∧ mg x = some (.ref f) ∧ Binds K fd ps []
theorem Cal.mono {P : Program} {w : World} {K : PySem.W.Frag} {mg : Str → Option Value} {base : Heap} {S : SK} {j k : Nat} {x : Str} {st : Stmt} {ps : List Str} {wf : WF} (C : Cal P w K mg base S j x st ps wf) (h : j ≤ k) : Cal P w K mg base S k x st ps wf := by
  obtain ⟨f, fd, a, b, c, d⟩ := C.ex
  exact ⟨f, fd, a, b.mono h, c, d⟩
/-- the same def with a weaker promise -/
theorem Cal.imp {P : Program} {w : World} {K : PySem.W.Frag} {mg : Str → Option Value} {base : Heap} {S : SK} {k : Nat} {x : Str} {st : Stmt} {ps : List Str} {wf wf' : WF} (C : Cal P w K mg base S k x st ps wf) (h : ∀ ds rt xp, ds.length = ps.length → wf' ds rt xp → wf ds rt xp) : Cal P w K mg base S k x st ps wf' := by
  obtain ⟨f, fd, a, b, c, d⟩ := C.ex
  refine ⟨f, fd, a, b.imp fun vs H Q E ⟨st, Hs, ds, rt, xp, h1, h2, h3, h4, h5, h6, h7, h8, h9⟩ => ⟨st, Hs, ds, rt, xp, h1, h2, h3, h4, h5, h6, h ds rt xp (by rw [← h6.length, h1]) h7, h8, h9⟩, c, d⟩
/-- what of the built-in names is still so -/
structure Bn (mg : Str → Option Value) : Prop where
  n : ∀ x ∈ (["len", "range", "all", "any", "abs", "int", "str", "bool", "list", "tuple", "dict", "set", "isinstance", "max", "min", "sum", "sorted", "enumerate", "zip", "reversed"] : List Str), mg x = none
/-- a constant of the module -/
def Gc (K : PySem.W.Frag) (mg : Str → Option Value) (x : Str) (d : D) : Prop := ∃ u v, mg x = some u ∧ RelV v u ∧ ∀ tk H, Den K tk H v d
theorem hu65 {A : Around} {k : Nat} (hr : Room k A) : A.units + 65 < cLine := by have := hr.un; omega
theorem hu1 {A : Around} {k : Nat} (hr : Room k A) : A.units + 1 < cLine := by have := hr.un; omega
theorem hu64 {A : Around} {k : Nat} (hr : Room k A) : A.units + 64 < cLine := by have := hr.un; omega

section
variable {X : Cx} {S : SK} {W : WX} {k n : Nat} {ps : List Str} {wf : WF} {x : Str} {st : Stmt} {p pos : Pos} {e : Expr} {es : List Expr} {ss : WA} {se : WE}
theorem pd_gl {d : D} (hg : Gl X x) (C : Gc X.K X.mg x d) (hd : (x == ("__debug__" : Str)) = false := by decide) : PE X (.Name x pos) (DE X.K S X.mg W (wC d)) := by
  obtain ⟨u, v, h1, h2, h3⟩ := C
  refine PE.imp (pe_glob hg h1 h2 hd) fun σ H Q ⟨B, Δ, δ, Γ, xp, P, ⟨Hs, p1, p2, I⟩, hs, k, _⟩ => ?_
  exact k v H _ _ (I.fin (h3 _ _)) hs
/-- f(..) -/
def wFn (n : Nat) (wf : WF) (ss : WA) : WE := wCall (fun ds rt xp => ds.length = n ∧ wf ds rt xp) ss
theorem pd_fn (C : Cal X.prog X.w X.K X.mg X.base S k x st ps wf) (hr : Room k X.A) (hg : Gl X x) (tk : Takes X W) (hps : ps.length = n)
    (ha : PA X (e :: es) (DA X.K S X.mg W ss)) (hdb : (x == ("__debug__" : Str)) = false := by decide) (he : starEach (e :: es) X.env = (false, eval e X.env) :: starEach es X.env := by rfl) (hpl : (backTo pos (starEach es X.env)).any (·.1) = false := by rfl) :
    PE X (.Call (.Name x p) (e :: es) [] pos) (DE X.K S X.mg W (wFn n wf ss)) := by
  subst hps
  obtain ⟨f, fd, F, h1, h2, h3⟩ := C.ex
  exact pd_call h1 hr hg h2 F.kp h3 tk rfl ha hdb he hpl
theorem pd_fn0 (C : Cal X.prog X.w X.K X.mg X.base S k x st [] wf) (hr : Room k X.A) (hg : Gl X x) (tk : Takes X W) (hdb : (x == ("__debug__" : Str)) = false := by decide) : PE X (.Call (.Name x p) [] [] pos) (DE X.K S X.mg W (wCall wf wNil)) := by
  obtain ⟨f, fd, F, h1, h2, h3⟩ := C.ex
  exact pd_call0 h1 hr hg h2 F.kp h3 tk hdb
/-- f(a, .., k = b, ..) -/
def wFnK (n m : Nat) (ix : List Nat) (wf : WF) (ss kk : WA) : WE := wCallK (fun ds rt xp => wf ds rt xp) n ix (fun xp Γ P => ss xp Γ fun ds Γ1 => ds.length = m + 1 ∧ P ds Γ1) (fun xp Γ P => kk xp Γ fun zs Γ1 => zs.length = ix.length ∧ P zs Γ1)
theorem pd_fnK {kws : List Keyword} {ks : List Str} {ix : List Nat} {kk : WA} {m : Nat} (C : Cal X.prog X.w X.K X.mg X.base S k x st ps wf) (hr : Room k X.A) (hg : Gl X x) (tk : Takes X W) (hps : ps.length = n)
    (hb : ∀ f fd, Fun X.K x x st f fd → KwB X.K fd ps ks (m + 1) ix)
    (ha : PA X (e :: es) (DA X.K S X.mg W ss)) (hes : es.length = m) (hkw : PK X kws (DA X.K S X.mg W kk)) (hkl : ks.length = kws.length) (hil : ix.length = ks.length) (hall : (backToKw pos (keywordEach kws X.env)).all (·.1.isSome) = true := by rfl) (hks : (backToKw pos (keywordEach kws X.env)).filterMap (·.1) = ks := by rfl)
    (hdb : (x == ("__debug__" : Str)) = false := by decide) (he : starEach (e :: es) X.env = (false, eval e X.env) :: starEach es X.env := by rfl)
    (hpl : ((backTo pos (starEach (e :: es) X.env)).any (·.1) || (backToKw pos (keywordEach kws X.env)).any (·.1.isNone)) = false := by rfl) :
    PE X (.Call (.Name x p) (e :: es) kws pos) (DE X.K S X.mg W (wFnK n m ix wf ss kk)) := by
  subst hps
  obtain ⟨f, fd, F, h1, h2, h3⟩ := C.ex
  unfold wFnK
  rw [hil]
  exact pd_callK h1 hr hg h2 F.kp (hb f fd F) tk ha hes hkw hkl hall hks hdb he hpl
def wFnK0 (n : Nat) (ix : List Nat) (wf : WF) (kk : WA) : WE := wCallK (fun ds rt xp => wf ds rt xp) n ix wNil (fun xp Γ P => kk xp Γ fun zs Γ1 => zs.length = ix.length ∧ P zs Γ1)
theorem pd_fnK0 {kws : List Keyword} {ks : List Str} {ix : List Nat} {kk : WA} (C : Cal X.prog X.w X.K X.mg X.base S k x st ps wf) (hr : Room k X.A) (hg : Gl X x) (tk : Takes X W) (hps : ps.length = n)
    (hb : ∀ f fd, Fun X.K x x st f fd → KwB X.K fd ps ks 0 ix)
    (hkw : PK X kws (DA X.K S X.mg W kk)) (hil : ix.length = ks.length) (hall : (backToKw pos (keywordEach kws X.env)).all (·.1.isSome) = true := by rfl) (hks : (backToKw pos (keywordEach kws X.env)).filterMap (·.1) = ks := by rfl)
    (hdb : (x == ("__debug__" : Str)) = false := by decide)
    (hpl : ((backTo pos (starEach [] X.env)).any (·.1) || (backToKw pos (keywordEach kws X.env)).any (·.1.isNone)) = false := by rfl) :
    PE X (.Call (.Name x p) [] kws pos) (DE X.K S X.mg W (wFnK0 n ix wf kk)) := by
  subst hps
  obtain ⟨f, fd, F, h1, h2, h3⟩ := C.ex
  unfold wFnK0
  rw [hil]
  exact pd_callK0 h1 hr hg h2 F.kp (hb f fd F) tk hkw hall hks hdb hpl
theorem pds_setN {i : Nat} {y : Str} {pos' : Pos} (hN : X.N.Nodup) (hi : X.N[i]? = some y) (hx : Loc X.env.scope y) (he : PE X e (DE X.K S X.mg W se)) (hs : swapsWith e (some (.Name y pos')) pos.line X.env = pure false := by rfl)
    (hf : X.fn y = true ∨ X.env.scope.names.lookup y = some .local := by first | exact .inl rfl | exact .inr rfl) : PS X (.Assign [.Name y pos'] e pos) (DS X.K S X.mg W (wSet i se)) :=
  PS.imp (ps_set hN hi hx he hs hf) fun _ _ _ h => set_run (fun _ _ _ q => q) h
/-- x += e, ints -/
def wAugI (i : Nat) (f : Int → Int → Int) (se : WE) : WS := fun Γ m => (∃ d, look Γ i = some d) ∧ wAug i (wII0 fun a b => .int (f a b)) se Γ m
theorem bs_ip {K : PySem.W.Frag} {f : Int → Int → Int} : BinS K S (ipI f) (wII0 fun a b => .int (f a b)) := by
  intro B Hs Δ δ Γ σ H p1 p2 x y a b P Q I da db hw k
  cases a <;> cases b <;> try exact (show False from hw).elim
  cases da; cases db
  exact ⟨_, _, rfl, rfl, k _ _ _ (I.fin (.int _)) hw⟩
theorem pds_augI {i : Nat} {y : Str} {pos' : Pos} {op : Operator} {f : Int → Int → Int} (hN : X.N.Nodup) (hi : X.N[i]? = some y) (hx : Loc X.env.scope y) (he : PE X e (DE X.K S X.mg W se)) (ho : PIp X op (ipI f))
    (hf : X.fn y = true ∨ X.env.scope.names.lookup y = some .local := by first | exact .inl rfl | exact .inr rfl) : PS X (.AugAssign (.Name y pos') op e pos) (DS X.K S X.mg W (wAugI i f se)) := by
  refine PS.imp (ps_aug hN hi hx he ho hf) fun D σ H ⟨B, Δ, δ, Γ, m, ⟨Hs, p1, p2, I⟩, ⟨⟨d, hd⟩, hs⟩, k1, k2, k3, k4, k5⟩ => ?_
  obtain ⟨_, v, _, _, hv, _⟩ := look_own I hd
  exact aug_run bs_ip ⟨v, hv⟩ ⟨B, Δ, δ, Γ, m, I.rep, hs, k1, k2, k3, k4, k5⟩
end
/-- how the arguments of a def of the text bind -/
theorem Cal.mk' {P : Program} {w : World} {K : PySem.W.Frag} {mg : Str → Option Value} {base : Heap} {S : SK} {k : Nat} {x : Str} {st : Stmt} {ps : List Str} {wf : WF} {f : Addr} {fd : FuncData} (F : Fun K x x st f fd) (G : FnOk P w K mg base (L2.CX P w) k f fd ps (spD K S mg ps.length wf)) (gm : mg x = some (.ref f))
    (h : ∀ (kV doc pm : Value) (an : Option Addr) (cdv ct : Value) (us : List Value), us.length = ps.length → bindArgs (PySem.W.fnOf x x (defArgs st) (defBody st) (defScope st) .none kV doc pm an cdv ct) ⟨us, []⟩ = pure (ps.zip us)) : Cal P w K mg base S k x st ps wf :=
  ⟨f, fd, F, G, gm, F.binds h⟩
/-! ### minus x -/
def wNeg : D → (R → Prop) → Prop := fun a P => ∃ i, a = .int i ∧ P (.val (.int (-i)))
theorem pd_neg {X : Cx} {S : SK} {W : WX} {a : Expr} {pos : Pos} {sa : WE} (ha : PE X a (DE X.K S X.mg W sa)) : PE X (.UnaryOp .USub a pos) (DE X.K S X.mg W (wUn wNeg sa)) := by
  refine pd_un un_neg (fun {B Hs Δ δ Γ σ H p1 p2 x a P Q} I da hw k => ?_) ha
  obtain ⟨i, rfl, hp⟩ := hw
  cases da
  exact ⟨i, rfl, k _ _ _ (I.fin (.int _)) hp⟩

/-! ### what the built-in names stand for -/
theorem bt_len : bootBuiltins "len" = some (.builtin "len") := by decide +kernel
theorem bt_all : bootBuiltins "all" = some (.builtin "all") := by decide +kernel
theorem bt_any : bootBuiltins "any" = some (.builtin "any") := by decide +kernel
theorem bt_abs : bootBuiltins "abs" = some (.builtin "abs") := by decide +kernel
theorem bt_isinstance : bootBuiltins "isinstance" = some (.builtin "isinstance") := by decide +kernel
theorem bt_max : bootBuiltins "max" = some (.builtin "max") := by decide +kernel
theorem bt_min : bootBuiltins "min" = some (.builtin "min") := by decide +kernel
theorem bt_sum : bootBuiltins "sum" = some (.builtin "sum") := by decide +kernel
theorem bt_sorted : bootBuiltins "sorted" = some (.builtin "sorted") := by decide +kernel
theorem bt_int : bootBuiltins "int" = some (.type "int") := by decide +kernel
theorem bt_str : bootBuiltins "str" = some (.type "str") := by decide +kernel
theorem bt_bool : bootBuiltins "bool" = some (.type "bool") := by decide +kernel
theorem bt_list : bootBuiltins "list" = some (.type "list") := by decide +kernel
theorem bt_tuple : bootBuiltins "tuple" = some (.type "tuple") := by decide +kernel
theorem bt_dict : bootBuiltins "dict" = some (.type "dict") := by decide +kernel
theorem bt_set : bootBuiltins "set" = some (.type "set") := by decide +kernel
theorem bt_range : bootBuiltins "range" = some (.type "range") := by decide +kernel
theorem bt_enumerate : bootBuiltins "enumerate" = some (.type "enumerate") := by decide +kernel
theorem bt_zip : bootBuiltins "zip" = some (.type "zip") := by decide +kernel
theorem bt_reversed : bootBuiltins "reversed" = some (.type "reversed") := by decide +kernel
end DL

set_option maxHeartbeats 1000000
namespace DL
open PySem PySem.Spec L2

/-! ### a local handed on -/
section
variable {K : PySem.W.Frag} {S : SK} {mg : Str → Option Value} {tk : Option Addr} {B : Bs} {Hs Hs' H H' : Hp} {Δ : List R} {δ : List V} {Γ : Nv} {σ : L2.St} {p1 p2 : List Addr}
theorem Slots.pull : ∀ {Γ : Nv} {σ : L2.St} {ps : List Addr} {i : Nat} {r : R}, Slots K tk Hs H Γ σ ps → Γ[i]? = some (some r) →
    ∃ v q p1 p2, σ[i]? = some (some v) ∧ ps = p1 ++ q ++ p2 ∧ Own K tk Hs H r v q ∧ Slots K tk Hs H (Γ.set i none) σ (p1 ++ p2)
  | _, _, _, _, _, .nil, e => by simp at e
  | _, _, _, 0, _, .un a, e => by simp at e
  | _, _, _, 0, r, .cons (q := q) (ps := ps) (v := v) h a, e => by
    simp at e; subst e
    exact ⟨v, q, [], ps, rfl, by simp, h, .un a⟩
  | _, _, _, i + 1, r, .un (o := o) a, e => by
    obtain ⟨v, q, p1, p2, h1, h2, h3, h4⟩ := Slots.pull (i := i) a (by simpa using e)
    exact ⟨v, q, p1, p2, by simpa using h1, h2, h3, .un h4⟩
  | _, _, _, i + 1, r, .cons (q := q0) h a, e => by
    obtain ⟨v, q, p1, p2, h1, h2, h3, h4⟩ := Slots.pull (i := i) a (by simpa using e)
    refine ⟨v, q, q0 ++ p1, p2, by simpa using h1, by rw [h2]; simp, h3, ?_⟩
    have := Slots.cons h h4
    simpa using this
theorem RepI.mov {i : Nat} {r : R} (I : RepI K S B Hs Δ δ Γ σ H p1 p2) (h : Γ[i]? = some (some r)) : ∃ v, σ[i]? = some (some v) ∧ Rep K S B (r :: Δ) (v :: δ) (Γ.set i none) σ H := by
  obtain ⟨v, q, q1, q2, h1, h2, h3, h4⟩ := I.sl.pull h
  subst h2
  have pm : (B.fp ++ (q ++ p1 ++ (q1 ++ q2))).Perm (B.fp ++ (p1 ++ (q1 ++ q ++ q2))) := by
    simp only [List.perm_iff_count, List.count_append]
    intro a; omega
  have mem : ∀ b, b ∈ q ++ p1 ++ (q1 ++ q2) → b ∈ p1 ++ (q1 ++ q ++ q2) := fun b hb => by
    simp only [List.mem_append] at hb ⊢
    rcases hb with (z | z) | z | z
    · exact .inr (.inl (.inr z))
    · exact .inl z
    · exact .inr (.inl (.inl z))
    · exact .inr (.inr z)
  exact ⟨v, h1, Hs, q ++ p1, q1 ++ q2, I.sub, fun b hb => I.off b (pm.mem_iff.mp hb), pm.nodup_iff.mpr I.nd, I.st, Slots.cons h3 I.tm, h4, I.h0, I.l0, I.s0, I.new, fun b hb => I.own b (mem b hb)⟩
theorem pd_mov {X : Cx} {S : SK} {W : WX} {x : Str} {pos : Pos} (i : Nat) (h : PE X (.Name x pos) (tVar i)) : PE X (.Name x pos) (DE X.K S X.mg W (wMov i)) := by
  refine PE.imp h fun σ H Q ⟨B, Δ, δ, Γ, xp, P, ⟨Hs, p1, p2, I⟩, hs, k, _⟩ => ?_
  unfold wMov at hs
  split at hs
  · rename_i r e
    obtain ⟨v, e1, rp⟩ := I.mov e
    exact ⟨v, e1, k v H _ _ rp hs⟩
  · exact hs.elim

/-! ### boxes -/
def keyPos (k : Key) : List Key → Option Nat
  | [] => none
  | x :: r => if decide (x = k) then some 0 else (keyPos k r).map (· + 1)
def bxPos (ks : Option (List Key)) (n : Nat) (y : D) : Option Nat := match ks with
  | none => match y with | .int k => ixN n k | _ => none
  | some ks => (keyOf y).bind fun k => keyPos k ks
def BxC.v : BxC → D
  | .lf d => d
  | .ls p _ => .raw (.ref p)
  | .dc p _ => .raw (.ref p)
theorem bxs_len : ∀ {ts : List BxC} {vs : List V}, BxS K tk Hs H ts vs → vs.length = ts.length
  | _, _, .nil => rfl
  | _, _, .cons _ a => congrArg (· + 1) (bxs_len a)
theorem bxs_get : ∀ {ts : List BxC} {vs : List V} {j : Nat} {t : BxC}, BxS K tk Hs H ts vs → ts[j]? = some t → ∃ v, vs[j]? = some v ∧ OwnI K tk Hs H t v
  | _, _, _, _, .nil, e => by simp at e
  | _, _, 0, _, .cons h _, e => by simp at e; subst e; exact ⟨_, rfl, h⟩
  | _, _, j + 1, _, .cons _ a, e => by
    obtain ⟨v, h1, h2⟩ := bxs_get (j := j) a (by simpa using e)
    exact ⟨v, by simpa using h1, h2⟩
theorem OwnI.den {t : BxC} {v : V} (h : OwnI K tk Hs H t v) : Den K tk Hs v t.v := by
  cases h with
  | lf h => exact h
  | ls _ _ => exact .raw _
  | dc _ _ => exact .raw _
theorem keyPos_val {key : Key} : ∀ {ks : List Key} {vs : List V} {j : Nat} {v : V}, keyPos key ks = some j → vs[j]? = some v → valV (ks.zip vs) key = some v
  | [], _, _, _, e, _ => by simp [keyPos] at e
  | x :: r, [], j, v, e, h => by simp at h
  | x :: r, u :: vs, j, v, e, h => by
    unfold keyPos at e
    by_cases q : x = key
    · rw [if_pos (by simpa using q)] at e; cases e
      simp at h; subst h
      simp [valV, List.find?_cons, q]
    · rw [if_neg (by simpa using q)] at e
      cases e2 : keyPos key r with
      | none => rw [e2] at e; cases e
      | some j' =>
        rw [e2] at e; cases e
        have := keyPos_val (vs := vs) e2 (by simpa using h)
        simpa [valV, List.find?_cons, q] using this
theorem own_bx {i : Nat} {p : Addr} {ks : Option (List Key)} {ts : List BxC} (I : RepI K S B Hs Δ δ Γ σ H p1 p2) (h : Γ[i]? = some (some (.bx p ks ts))) :
    ∃ vs, σ[i]? = some (some (.ref p)) ∧ H p = some (bxo ks vs) ∧ BxS K B.tk Hs H ts vs ∧ (∀ l, ks = some l → l.length = ts.length) ∧ (p :: adS ts).Nodup := by
  obtain ⟨v, q, q1, q2, h1, h2, h3, _⟩ := I.sl.at h
  subst h2
  have nd := (List.nodup_append.mp (List.nodup_append.mp (List.nodup_append.mp (List.nodup_append.mp I.nd).2.1).2.1).1).2.1
  cases h3 with
  | bx hp a z => exact ⟨_, h1, hp, a, z, nd⟩
/-- x[e], x a box -/
def wBIx (i : Nat) (sb : WE) : WE := fun xp Γ P => (∃ p ks ts, Γ[i]? = some (some (.bx p ks ts))) ∧ sb xp Γ fun rb Γ2 => ∃ p ks ts j t, Γ2[i]? = some (some (.bx p ks ts)) ∧ bxPos ks ts.length rb.d = some j ∧ ts[j]? = some t ∧ P (.val t.v) Γ2
theorem bix_rd {i : Nat} {p : Addr} {ks : Option (List Key)} {ts : List BxC} {j : Nat} {t : BxC} {y : V} {d : D} {Q : VK} (I : RepI K S B Hs Δ δ Γ σ H p1 p2) (h : Γ[i]? = some (some (.bx p ks ts))) (db : Den K B.tk Hs y d) (hj : bxPos ks ts.length d = some j) (ht : ts[j]? = some t)
    (k : ∀ v, Den K B.tk Hs v t.v → Q v H) : rIx4 K (.ref p) y H Q := by
  obtain ⟨vs, hv, hp, a, hl, _⟩ := own_bx I h
  obtain ⟨v, h1, h2⟩ := bxs_get a ht
  cases ks with
  | none =>
    cases d <;> try exact (by cases hj)
    cases db
    refine .inl (.inl ⟨_, vs, _, v, rfl, rfl, .inl (.inl hp), ?_, k v h2.den⟩)
    unfold L2.atI
    rw [bxs_len a, show ixN ts.length _ = some j from hj]
    exact h1
  | some l =>
    unfold bxPos at hj
    cases hk : keyOf d with
    | none => rw [hk] at hj; cases hj
    | some key =>
      rw [hk] at hj
      have := db.key hk
      subst this
      exact .inr ⟨p, v, rfl, by rw [← keyPos_val hj h1]; exact DGet.k hp, k v h2.den⟩
theorem pd_bix {X : Cx} {S : SK} {W : WX} {y : Str} {p pos : Pos} {b : Expr} {sb : WE} (i : Nat) (hu : X.A.units + 1 < cLine) (ha : PE X (.Name y p) (tVar i)) (hb : PE X b (DE X.K S X.mg W sb)) (hs : PlainIx b := by exact fun _ _ => rfl) : PE X (.Subscript (.Name y p) b pos) (DE X.K S X.mg W (wBIx i sb)) := by
  refine PE.imp (pe_ix (ix_any hu) ha hb hs) fun σ H Q ⟨B, Δ, δ, Γ, xp, P, ⟨Hs, q1, q2, I⟩, ⟨⟨p0, ks0, ts0, h0⟩, hs⟩, k, xl⟩ => ?_
  obtain ⟨vs0, hv, _⟩ := own_bx I h0
  refine ⟨_, hv, B, Δ, δ, Γ, xp, _, I.rep, hs, fun v H1 rb Γ2 rp h1 => ?_, xl⟩
  obtain ⟨p, ks, ts, j, t, hg, hj, ht, hp⟩ := h1
  obtain ⟨Hs2, r1, r2, I2, dv⟩ := rp.frz
  obtain ⟨vs, hv', _⟩ := own_bx I2 hg
  rw [hv] at hv'; cases hv'
  exact bix_rd I2 hg dv hj ht fun v dd => k v _ _ _ (I2.fin dd) hp
/-- an owned object of slot i is changed in place -/
theorem RepI.writeQ {i : Nat} {a : Addr} {r r' : R} {o : HO} {v : V} (I : RepI K S B Hs Δ δ Γ σ H p1 p2) (hi : Γ[i]? = some (some r)) (hv : σ[i]? = some (some v))
    (h : ∀ {q}, q.Nodup → Own K B.tk Hs H r v q → a ∈ q ∧ Own K B.tk Hs (upd H a o) r' v q) : RepI K S B Hs Δ δ (Γ.set i (some r')) σ (upd H a o) p1 p2 := by
  obtain ⟨v', q, q1, q2, h1, h2, h3, h4⟩ := I.sl.at hi
  rw [hv] at h1; cases h1
  subst h2
  have nd := I.nd
  have pm : (B.fp ++ (p1 ++ (q1 ++ q ++ q2))).Perm (q ++ (B.fp ++ (p1 ++ (q1 ++ q2)))) := by
    simp only [List.perm_iff_count, List.count_append]
    intro a; omega
  have nq := List.nodup_append.mp (pm.nodup_iff.mp nd)
  obtain ⟨ha, h'⟩ := h nq.1 h3
  have np : ∀ b, b ∈ B.fp ++ (p1 ++ (q1 ++ q2)) → b ≠ a := fun b hb e => nq.2.2 a ha b hb e.symm
  have rf : Same Hs Hs := fun _ _ e => e
  have mem : a ∈ p1 ++ (q1 ++ q ++ q2) := by simp [ha]
  have offp : Hs a = none := I.off a (List.mem_append_right _ mem)
  have es : σ.set i (some v) = σ := by
    obtain ⟨hl, he⟩ := List.getElem?_eq_some_iff.mp hv
    rw [← he, List.set_getElem_self]
  have sl' := h4 (H' := upd H a o) rf (fun b hb => upd_ne (np b (by simp only [List.mem_append] at hb ⊢; exact .inr (.inr hb)))) h'
  rw [es] at sl'
  refine ⟨fun b u e => ?_, I.off, I.nd, I.st.mono rf fun b hb => upd_ne (np b (List.mem_append_left _ hb)), I.tm.mono rf fun b hb => upd_ne (np b (by simp [hb])), sl', fun b u hb e => ?_, I.l0, I.s0, I.new, I.own⟩
  · rw [upd_ne (fun z => by subst z; rw [offp] at e; cases e)]; exact I.sub b u e
  · rw [upd_ne (fun z => by subst z; rw [I.own b mem] at e; cases e)]; exact I.h0 b u hb e
theorem adS_set {ts : List BxC} {j : Nat} {t t' : BxC} (h : ts[j]? = some t) (e : t'.ad = t.ad) : adS (ts.set j t') = adS ts := by
  unfold adS
  rw [List.map_set]
  obtain ⟨hl, he⟩ := List.getElem?_eq_some_iff.mp h
  have : (ts.map BxC.ad).set j t'.ad = ts.map BxC.ad := by
    rw [e, ← he]
    have : ts[j].ad = (ts.map BxC.ad)[j]'(by simpa using hl) := by simp
    rw [this, List.set_getElem_self]
  rw [this]
theorem bxs_setLf {a : Addr} {o : HO} {v : V} {d : D} (dv : Den K tk Hs v d) : ∀ {ts : List BxC} {vs : List V} (j : Nat), BxS K tk Hs H ts vs → a ∉ adS ts → BxS K tk Hs (upd H a o) (ts.set j (.lf d)) (vs.set j v)
  | _, _, _, .nil, _ => .nil
  | _, _, 0, .cons h r, n => .cons (.lf dv) (BxS.mono r (fun _ _ e => e) fun b hb => upd_ne fun e => n (by subst e; simp [adS] at hb ⊢; exact .inr hb))
  | _, _, j + 1, .cons h r, n => .cons (by
      have hd := BxS.mono (.cons h .nil) (fun _ _ e => e) (H' := upd H a o) (Hs' := Hs) (fun b hb => upd_ne fun e => n (by subst e; simp [adS] at hb ⊢; exact .inl hb))
      cases hd with
      | cons h' _ => exact h') (bxs_setLf dv j r fun hb => n (by simp [adS] at hb ⊢; exact .inr hb))
/-- an inner object changed -/
theorem bxs_put {a : Addr} {o : HO} {t t' : BxC} (ht' : t'.ad = [a]) (h' : OwnI K tk Hs (upd H a o) t' (.ref a)) : ∀ {ts : List BxC} {vs : List V} (j : Nat), BxS K tk Hs H ts vs → ts[j]? = some t → t.ad = [a] → vs[j]? = some (.ref a) → (adS ts).Nodup → BxS K tk Hs (upd H a o) (ts.set j t') vs
  | _, _, _, .nil, e, _, _, _ => by simp at e
  | t0 :: ts, _, 0, .cons h r, e, et, ev, n => by
    simp at e ev; subst e; subst ev
    refine .cons h' (BxS.mono r (fun _ _ e => e) fun b hb => upd_ne fun e => ?_)
    subst e
    have : (t0.ad ++ adS ts).Nodup := by simpa [adS] using n
    exact (List.nodup_append.mp this).2.2 b (by rw [et]; simp) b hb rfl
  | t0 :: ts, _, j + 1, .cons h r, e, et, ev, n => by
    have n' : (t0.ad ++ adS ts).Nodup := by simpa [adS] using n
    have e' : ts[j]? = some t := by simpa using e
    have ma : a ∈ adS ts := by
      unfold adS
      rw [List.mem_flatten]
      exact ⟨t.ad, List.mem_map.mpr ⟨t, List.mem_of_getElem? e', rfl⟩, by rw [et]; simp⟩
    have na : ∀ b ∈ t0.ad, b ≠ a := fun b hb e => (List.nodup_append.mp n').2.2 b hb a ma e
    refine .cons ?_ (bxs_put ht' h' j r e' et (by simpa using ev) (List.nodup_append.mp n').2.1)
    have hd := BxS.mono (.cons h .nil) (fun _ _ e => e) (H' := upd H a o) (Hs' := Hs) (fun b hb => upd_ne (na b (by simpa [adS] using hb)))
    cases hd with
    | cons h' _ => exact h'
theorem bx_putLf {i : Nat} {p : Addr} {ks : Option (List Key)} {ts : List BxC} {vs : List V} {j : Nat} {d0 d : D} {v : V} (I : RepI K S B Hs Δ δ Γ σ H p1 p2) (h : Γ[i]? = some (some (.bx p ks ts))) (hv : σ[i]? = some (some (.ref p))) (hp : H p = some (bxo ks vs))
    (hvl : vs.length = ts.length) (ht : ts[j]? = some (.lf d0)) (dv : Den K B.tk Hs v d) : RepI K S B Hs Δ δ (Γ.set i (some (.bx p ks (ts.set j (.lf d))))) σ (upd H p (bxo ks (vs.set j v))) p1 p2 := by
  refine I.writeQ h hv fun {q} nq ho => ?_
  cases ho with
  | bx hp' a z =>
    have : (bxo ks vs) = bxo ks _ := Option.some.inj (hp.symm.trans hp')
    refine ⟨by simp, ?_⟩
    have e := adS_set (t' := .lf d) ht rfl
    rw [← e]
    have np : p ∉ adS ts := (List.nodup_cons.mp nq).1
    refine .bx upd_same ?_ (fun l hl => by rw [List.length_set]; exact z l hl)
    rename_i vs'
    have hvs : vs' = vs := by
      cases ks with
      | none => simp [bxo] at this; exact this.symm
      | some l =>
        simp only [bxo, HO.dK.injEq] at this
        have hz := z l rfl
        have l1 := bxs_len a
        have e1 : (l.zip vs).map (·.2) = vs := List.map_snd_zip (by omega)
        have e2 : (l.zip vs').map (·.2) = vs' := List.map_snd_zip (by omega)
        rw [← e1, ← e2, this]
    subst hvs
    exact bxs_setLf dv j a np
theorem bx_putIn {i : Nat} {p a : Addr} {o : HO} {ks : Option (List Key)} {ts : List BxC} {j : Nat} {t t' : BxC} (I : RepI K S B Hs Δ δ Γ σ H p1 p2) (h : Γ[i]? = some (some (.bx p ks ts))) (hv : σ[i]? = some (some (.ref p)))
    (ht : ts[j]? = some t) (e1 : t.ad = [a]) (e2 : t'.ad = [a]) (h' : OwnI K B.tk Hs (upd H a o) t' (.ref a)) : RepI K S B Hs Δ δ (Γ.set i (some (.bx p ks (ts.set j t')))) σ (upd H a o) p1 p2 := by
  refine I.writeQ h hv fun {q} nq ho => ?_
  cases ho with
  | bx hp b z =>
    have ma : a ∈ adS ts := by
      unfold adS
      rw [List.mem_flatten]
      exact ⟨t.ad, List.mem_map.mpr ⟨t, List.mem_of_getElem? ht, rfl⟩, by rw [e1]; simp⟩
    have np : p ∉ adS ts := (List.nodup_cons.mp nq).1
    refine ⟨by simp [ma], ?_⟩
    rw [← adS_set (t' := t') ht (by rw [e1, e2])]
    obtain ⟨v, hv', ho⟩ := bxs_get b ht
    have ev : v = .ref a := by
      cases ho with
      | lf _ => simp [BxC.ad] at e1
      | ls _ _ => simp [BxC.ad] at e1; subst e1; rfl
      | dc _ _ => simp [BxC.ad] at e1; subst e1; rfl
    subst ev
    exact .bx (by rw [upd_ne (fun e => np (by rw [e]; exact ma))]; exact hp) (bxs_put e2 h' j b ht e1 hv' (List.nodup_cons.mp nq).2) (fun l hl => by rw [List.length_set]; exact z l hl)
/-- an inner list at hand -/
theorem bx_ls {i : Nat} {p q : Addr} {ks : Option (List Key)} {ts : List BxC} {j : Nat} {l : List D} (I : RepI K S B Hs Δ δ Γ σ H p1 p2) (h : Γ[i]? = some (some (.bx p ks ts))) (ht : ts[j]? = some (.ls q l)) :
    ∃ vs, H q = some (.lst vs) ∧ DenAll K B.tk Hs vs l := by
  obtain ⟨vs, hv, hp, a, hl, _⟩ := own_bx I h
  obtain ⟨v, h1, h2⟩ := bxs_get a ht
  cases h2 with
  | ls hq da => exact ⟨_, hq, da⟩
theorem bx_dc {i : Nat} {p q : Addr} {ks : Option (List Key)} {ts : List BxC} {j : Nat} {l : List (Key × D)} (I : RepI K S B Hs Δ δ Γ σ H p1 p2) (h : Γ[i]? = some (some (.bx p ks ts))) (ht : ts[j]? = some (.dc q l)) :
    ∃ vs, H q = some (.dK vs) ∧ DenKs K B.tk Hs vs l := by
  obtain ⟨vs, hv, hp, a, hl, _⟩ := own_bx I h
  obtain ⟨v, h1, h2⟩ := bxs_get a ht
  cases h2 with
  | dc hq da => exact ⟨_, hq, da⟩
end
/-- the inner object of slot i at the place of y -/
def bxIn (Γ : Nv) (i : Nat) (y : D) (P : Addr → Option (List Key) → List BxC → Nat → BxC → Prop) : Prop := ∃ p ks ts j t, Γ[i]? = some (some (.bx p ks ts)) ∧ bxPos ks ts.length y = some j ∧ ts[j]? = some t ∧ P p ks ts j t
section
variable {X : Cx} {S : SK} {W : WX} {y : Str} {p pos apos cpos spos : Pos} {b e o : Expr} {es : List Expr} {sb se : WE} {c : V} {cd : D}
/-- how x[c] is read, c written -/
abbrev tBx (K : PySem.W.Frag) (i : Nat) (c : V) : TE := tOp (rIx4 K) (tVar i) (tC c)
theorem pe_bx (i : Nat) (hu : X.A.units + 1 < cLine) (ha : PE X (.Name y p) (tVar i)) (hb : PE X b (tC c)) (hs : PlainIx b := by exact fun _ _ => rfl) : PE X (.Subscript (.Name y p) b pos) (tBx X.K i c) := pe_ix (ix_any hu) ha hb hs
theorem bx_recv {K : PySem.W.Frag} {B : Bs} {Hs : Hp} {Δ : List R} {δ : List V} {Γ : Nv} {σ : L2.St} {H : Hp} {p1 p2 : List Addr} {i : Nat} {q p0 : Addr} {ks : Option (List Key)} {ts : List BxC} {j : Nat} {t : BxC} {Q : VK} (I : RepI K S B Hs Δ δ Γ σ H p1 p2)
    (hc : ∀ tk Hs, Den K tk Hs c cd) (h : Γ[i]? = some (some (.bx p0 ks ts))) (hj : bxPos ks ts.length cd = some j) (ht : ts[j]? = some t) (ha : t.v = .raw (.ref q)) (k : Q (.ref q) H) : tBx K i c σ H Q := by
  obtain ⟨vs, hv, _⟩ := own_bx I h
  refine ⟨_, hv, ?_⟩
  refine bix_rd I h (hc _ _) hj ht fun v dv => ?_
  rw [ha] at dv
  cases dv
  exact k
/-- x[c].append(e) -/
def wBAppend (i : Nat) (cd : D) (se : WE) : WE := fun xp Γ P => bxIn Γ i cd fun _ _ _ _ t => ∃ q l0, t = .ls q l0 ∧ se xp Γ fun r Γ2 => bxIn Γ2 i cd fun p ks ts j t => ∃ l, t = .ls q l ∧ l.length < sizeLine ∧ P (.val .non) (Γ2.set i (some (.bx p ks (ts.set j (.ls q (l ++ [r.d]))))))
theorem pd_bappend (i : Nat) (hc : ∀ K tk Hs, Den K tk Hs c cd) (h : PE X (.Call (.Attribute o "append" apos) [e] [] cpos) (tBM X.K "list" rAppend (tBx X.K i c) (tCons (DE X.K S X.mg W se) tNil))) :
    PE X (.Call (.Attribute o "append" apos) [e] [] cpos) (DE X.K S X.mg W (wBAppend i cd se)) := by
  refine PE.imp h fun σ H Q ⟨B, Δ, δ, Γ, xp, P, ⟨Hs, q1, q2, I⟩, ⟨p, ks, ts, j, t, hg, hj, ht, q, l0, et, hs⟩, k, xl⟩ => ?_
  subst et
  obtain ⟨vs0, hq0, _⟩ := bx_ls I hg ht
  refine bx_recv I (hc _) hg hj ht rfl ⟨.inl ⟨rfl, _, .inl (.inl hq0)⟩, B, Δ, δ, Γ, xp, _, I.rep, hs, fun v H1 r Γ2 rp h1 => ?_, xl⟩
  obtain ⟨p', ks', ts', j', t', hg', hj', ht', l, et', hz, hp⟩ := h1
  subst et'
  obtain ⟨Hs2, r1, r2, I2, dv⟩ := rp.frz
  obtain ⟨vs, hq, da⟩ := bx_ls I2 hg' ht'
  obtain ⟨us, hv, _⟩ := own_bx I2 hg'
  exact ⟨_, _, _, rfl, rfl, hq, by rw [da.length]; exact hz, k _ _ _ _ ((bx_putIn I2 hg' hv ht' rfl rfl (.ls upd_same (da.append (.cons dv .nil)))).fin .non) hp⟩
/-- x[c].pop() -/
def wBPop (i : Nat) (cd : D) : WE := fun _ Γ P => bxIn Γ i cd fun p ks ts j t => ∃ q l d, t = .ls q l ∧ l[l.length - 1]? = some d ∧ P (.val d) (Γ.set i (some (.bx p ks (ts.set j (.ls q l.dropLast)))))
theorem pd_bpop (i : Nat) (hc : ∀ K tk Hs, Den K tk Hs c cd) (h : PE X (.Call (.Attribute o "pop" apos) [] [] cpos) (tBM0 X.K "list" rPop (tBx X.K i c))) :
    PE X (.Call (.Attribute o "pop" apos) [] [] cpos) (DE X.K S X.mg W (wBPop i cd)) := by
  refine PE.imp h fun σ H Q ⟨B, Δ, δ, Γ, xp, P, ⟨Hs, q1, q2, I⟩, ⟨p, ks, ts, j, t, hg, hj, ht, q, l, d, et, hd, hp⟩, k, xl⟩ => ?_
  subst et
  obtain ⟨vs, hq, da⟩ := bx_ls I hg ht
  obtain ⟨us, hv, _⟩ := own_bx I hg
  obtain ⟨v, hv', dv⟩ := da.get hd
  exact bx_recv I (hc _) hg hj ht rfl ⟨.inl ⟨rfl, _, .inl (.inl hq)⟩, _, _, v, rfl, rfl, hq, by rw [da.length]; exact hv', k _ _ _ _ ((bx_putIn I hg hv ht rfl rfl (.ls upd_same da.dropLast)).fin dv) hp⟩
theorem DenAll.erase {K : PySem.W.Frag} {tk : Option Addr} {H : Hp} : ∀ {vs : List V} {ds : List D} (j : Nat), DenAll K tk H vs ds → DenAll K tk H (vs.eraseIdx j) (ds.eraseIdx j)
  | _, _, _, .nil => .nil
  | _, _, 0, .cons _ a => a
  | _, _, j + 1, .cons h a => .cons h (DenAll.erase j a)
/-- x[c].pop(n), n written -/
def wBPopAt (i : Nat) (cd : D) (n : Int) : WE := fun _ Γ P => bxIn Γ i cd fun p ks ts j t => ∃ q l d m, t = .ls q l ∧ ixN l.length n = some m ∧ l[m]? = some d ∧ P (.val d) (Γ.set i (some (.bx p ks (ts.set j (.ls q (l.eraseIdx m))))))
theorem pd_bpopAt (i : Nat) {n : Int} (hc : ∀ K tk Hs, Den K tk Hs c cd) (h1 : -(2 ^ 63) ≤ n) (h2 : n < 2 ^ 63) (h : PE X (.Call (.Attribute o "pop" apos) [e] [] cpos) (tBM X.K "list" rPopAt (tBx X.K i c) (tCons (tC (.int n)) tNil))) :
    PE X (.Call (.Attribute o "pop" apos) [e] [] cpos) (DE X.K S X.mg W (wBPopAt i cd n)) := by
  refine PE.imp h fun σ H Q ⟨B, Δ, δ, Γ, xp, P, ⟨Hs, q1, q2, I⟩, ⟨p, ks, ts, j, t, hg, hj, ht, q, l, d, m, et, hm, hd, hp⟩, k, xl⟩ => ?_
  subst et
  obtain ⟨vs, hq, da⟩ := bx_ls I hg ht
  obtain ⟨us, hv, _⟩ := own_bx I hg
  obtain ⟨v, hv', dv⟩ := da.get hd
  exact bx_recv I (hc _) hg hj ht rfl ⟨.inl ⟨rfl, _, .inl (.inl hq)⟩, _, _, n, m, v, rfl, rfl, hq, h1, h2, by rw [da.length]; exact (ixN_seq hm).1, hv', k _ _ _ _ ((bx_putIn I hg hv ht rfl rfl (.ls upd_same (da.erase m))).fin dv) hp⟩
/-- x[c].insert(n, e), n written -/
def wBInsert (i : Nat) (cd : D) (n : Int) (se : WE) : WE := fun xp Γ P => bxIn Γ i cd fun _ _ _ _ t => ∃ q l0, t = .ls q l0 ∧ se xp Γ fun r Γ2 => bxIn Γ2 i cd fun p ks ts j t => ∃ l, t = .ls q l ∧ l.length < sizeLine ∧ P (.val .non) (Γ2.set i (some (.bx p ks (ts.set j (.ls q (l.take n.toNat ++ [r.d] ++ l.drop n.toNat))))))
abbrev rInsert : V → List V → Hp → VK → Prop := fun x vs H Q => ∃ (l : Addr) (xs : List V) (i : Int) (y : V), x = .ref l ∧ vs = [.int i, y] ∧ H l = some (.lst xs) ∧ xs.length < sizeLine ∧ 0 ≤ i ∧ i < 2 ^ 63 ∧ Q .non (upd H l (.lst (xs.take i.toNat ++ [y] ++ xs.drop i.toNat)))
theorem pd_binsert (i : Nat) {n : Int} {e0 : Expr} (hc : ∀ K tk Hs, Den K tk Hs c cd) (h1 : 0 ≤ n) (h2 : n < 2 ^ 63) (h : PE X (.Call (.Attribute o "insert" apos) [e0, e] [] cpos) (tBM X.K "list" rInsert (tBx X.K i c) (tCons (tC (.int n)) (tCons (DE X.K S X.mg W se) tNil)))) :
    PE X (.Call (.Attribute o "insert" apos) [e0, e] [] cpos) (DE X.K S X.mg W (wBInsert i cd n se)) := by
  refine PE.imp h fun σ H Q ⟨B, Δ, δ, Γ, xp, P, ⟨Hs, q1, q2, I⟩, ⟨p, ks, ts, j, t, hg, hj, ht, q, l0, et, hs⟩, k, xl⟩ => ?_
  subst et
  obtain ⟨vs0, hq0, _⟩ := bx_ls I hg ht
  refine bx_recv I (hc _) hg hj ht rfl ⟨.inl ⟨rfl, _, .inl (.inl hq0)⟩, B, Δ, δ, Γ, xp, _, I.rep, hs, fun v H1 r Γ2 rp h3 => ?_, xl⟩
  obtain ⟨p', ks', ts', j', t', hg', hj', ht', l, et', hz, hp⟩ := h3
  subst et'
  obtain ⟨Hs2, r1, r2, I2, dv⟩ := rp.frz
  obtain ⟨vs, hq, da⟩ := bx_ls I2 hg' ht'
  obtain ⟨us, hv, _⟩ := own_bx I2 hg'
  exact ⟨_, _, n, _, rfl, rfl, hq, by rw [da.length]; exact hz, h1, h2, k _ _ _ _ ((bx_putIn I2 hg' hv ht' rfl rfl (.ls upd_same (((da.take _).append (.cons dv .nil)).append (da.drop _)))).fin .non) hp⟩
/-- the inner object as a value of its own -/
def BxC.r : BxC → R
  | .lf d => .val d
  | .ls _ l => .lst l
  | .dc _ l => .dct l
theorem bx_own {K : PySem.W.Frag} {B : Bs} {Hs : Hp} {Δ : List R} {δ : List V} {Γ : Nv} {σ : L2.St} {H : Hp} {p1 p2 : List Addr} {i : Nat} {p : Addr} {ks : Option (List Key)} {ts : List BxC} {j : Nat} {t : BxC} (I : RepI K S B Hs Δ δ Γ σ H p1 p2) (h : Γ[i]? = some (some (.bx p ks ts))) (ht : ts[j]? = some t) :
    ∃ v, ∃ q, Own K B.tk Hs H t.r v q ∧ (∀ a, t.ad = [a] → v = .ref a) := by
  obtain ⟨vs, hv, hp, a, hl, _⟩ := own_bx I h
  obtain ⟨v, h1, h2⟩ := bxs_get a ht
  cases h2 with
  | lf dv => exact ⟨v, _, .val dv, fun a e => by simp [BxC.ad] at e⟩
  | ls hq da => exact ⟨_, _, .lst hq da, fun a e => by simp [BxC.ad] at e; subst e; rfl⟩
  | dc hq da => exact ⟨_, _, .dct hq da, fun a e => by simp [BxC.ad] at e; subst e; rfl⟩
/-- x[c][b] -/
def wBIx2 (i : Nat) (cd : D) (sb : WE) : WE := fun xp Γ P => bxIn Γ i cd fun _ _ _ _ t => ∃ q, t.v = .raw (.ref q) ∧ t.ad = [q] ∧ sb xp Γ fun rb Γ2 => bxIn Γ2 i cd fun _ _ _ _ t => t.ad = [q] ∧ wIx t.r.s rb.d fun r => P r Γ2
theorem pd_bix2 (i : Nat) (hu : X.A.units + 1 < cLine) (hc : ∀ K tk Hs, Den K tk Hs c cd) (ha : PE X o (tBx X.K i c)) (hb : PE X b (DE X.K S X.mg W sb)) (hs : PlainIx b := by exact fun _ _ => rfl) : PE X (.Subscript o b pos) (DE X.K S X.mg W (wBIx2 i cd sb)) := by
  refine PE.imp (pe_ix (ix_any hu) ha hb hs) fun σ H Q ⟨B, Δ, δ, Γ, xp, P, ⟨Hs, q1, q2, I⟩, ⟨p, ks, ts, j, t, hg, hj, ht, q, et, ea, hs⟩, k, xl⟩ => ?_
  refine bx_recv I (hc _) hg hj ht et ⟨B, Δ, δ, Γ, xp, _, I.rep, hs, fun v H1 r Γ2 rp h1 => ?_, xl⟩
  obtain ⟨p', ks', ts', j', t', hg', hj', ht', ea', hp⟩ := h1
  obtain ⟨Hs2, r1, r2, I2, dv⟩ := rp.frz
  obtain ⟨v', q', ho, ev⟩ := bx_own I2 hg' ht'
  cases ev _ ea'
  exact bo_ix I2 ho dv hp fun z H' c' rp' h' => k z H' c' Γ2 rp' h'
/-- len(x[c]) -/
def wBLen (i : Nat) (cd : D) : WE := fun _ Γ P => bxIn Γ i cd fun _ _ _ _ t => ∃ q n, t.v = .raw (.ref q) ∧ t.ad = [q] ∧ t.r.s.len = some n ∧ P (.val (.int n)) Γ
theorem pd_blen {q0 : Pos} (i : Nat) (hc : ∀ K tk Hs, Den K tk Hs c cd) (ha : PE X o (tBx X.K i c)) (hg : Gl X "len") (hm : X.mg "len" = none) (he : starEach [o] X.env = (false, eval o X.env) :: starEach [] X.env := by rfl) :
    PE X (.Call (.Name "len" q0) [o] [] pos) (DE X.K S X.mg W (wBLen i cd)) := by
  refine PE.imp (pe_callB call_len2 hg hm PySem.boot_len (pa_cons ha pa_nil he) (by decide) (by decide) he) fun σ H Q ⟨B, Δ, δ, Γ, xp, P, ⟨Hs, q1, q2, I⟩, ⟨p, ks, ts, j, t, hg, hj, ht, q, n, et, ea, hn, hp⟩, k, xl⟩ => ?_
  obtain ⟨v', q', ho, ev⟩ := bx_own I hg ht
  cases ev _ ea
  exact bx_recv I (hc _) hg hj ht et (len_own I ho hn (k _ _ _ _ (I.fin (.int _)) hp))
/-- b in x[c] -/
def wBInV (i : Nat) (cd : D) (neg : Bool) (sa : WE) : WE := fun xp Γ P => sa xp Γ fun ra Γ2 => bxIn Γ2 i cd fun _ _ _ _ t => ∃ q, t.v = .raw (.ref q) ∧ t.ad = [q] ∧ wIn neg ra.d t.r.s fun r => P r Γ2
theorem bin_run2 {K : PySem.W.Frag} {mg : Str → Option Value} {i : Nat} {neg : Bool} {sa : WE} (hc : ∀ K tk Hs, Den K tk Hs c cd) {σ : L2.St} {H : Hp} {Q : VK} (h : DE K S mg W (wBInV i cd neg sa) σ H Q) : tOp (rIn4 K neg) (DE K S mg W sa) (tBx K i c) σ H Q := by
  obtain ⟨B, Δ, δ, Γ, xp, P, rp, hs, k, xl⟩ := h
  refine ⟨B, Δ, δ, Γ, xp, _, rp, hs, fun v H1 r Γ2 rp1 h1 => ?_, xl⟩
  obtain ⟨p', ks', ts', j', t', hg', hj', ht', q, et, ea', hp⟩ := h1
  obtain ⟨Hs2, r1, r2, I2, dv⟩ := rp1.frz
  obtain ⟨v', q', ho, ev⟩ := bx_own I2 hg' ht'
  cases ev _ ea'
  exact bx_recv I2 (hc _) hg' hj' ht' et (bo_in I2 dv ho hp fun z H' c' rp' h' => k z H' c' Γ2 rp' h')
theorem pd_bin2 {a : Expr} {op : CmpOp} {neg : Bool} {sa : WE} (i : Nat) (hc : ∀ K tk Hs, Den K tk Hs c cd) (ho : OpR X (compareOp op) (rIn4 X.K neg)) (ha : PE X a (DE X.K S X.mg W sa)) (hb : PE X o (tBx X.K i c)) (hm : behindInMarks op o = false := by rfl) : PE X (.Compare a [op] [o] pos) (DE X.K S X.mg W (wBInV i cd neg sa)) :=
  PE.imp (pe_cmpR ho ha hb hm) fun _ _ _ h => bin_run2 hc h
theorem pdt_bin2 {a : Expr} {op : CmpOp} {neg : Bool} {sa : WE} (i : Nat) (hc : ∀ K tk Hs, Den K tk Hs c cd) (ho : OpR X (compareOp op) (rIn4 X.K neg)) (ha : PE X a (DE X.K S X.mg W sa)) (hb : PE X o (tBx X.K i c)) (hm : behindInMarks op o = false := by rfl) : PT X (.Compare a [op] [o] pos) (DT X.K S X.mg W (wB (wBInV i cd neg sa))) :=
  PT.imp (pt_cmpR ho ha hb hm) fun _ _ _ h => bin_run2 hc (tB_run h)
/-- x[b] = e, x a box whose item there is stable; a list, or a dict that has the key -/
def wBSet (i : Nat) (sb se : WE) : WS := fun Γ m => se m.xp Γ fun r Γ1 => (∃ p ks ts, Γ1[i]? = some (some (.bx p ks ts))) ∧ sb m.xp Γ1 fun rb Γ2 => bxIn Γ2 i rb.d fun p ks ts j t => (ks = none ∧ ∃ d0, t = .lf d0) ∧ m.nx (Γ2.set i (some (.bx p ks (ts.set j (.lf r.d)))))
theorem bset_run {K : PySem.W.Frag} {B : Bs} {Hs : Hp} {Δ : List R} {δ : List V} {Γ : Nv} {σ : L2.St} {H : Hp} {p1 p2 : List Addr} {i : Nat} {p0 : Addr} {ks : Option (List Key)} {ts : List BxC} {j : Nat} {d0 d db : D} {vb v : V} {Q : Hp → Prop} (I : RepI K S B Hs Δ δ Γ σ H p1 p2)
    (h : Γ[i]? = some (some (.bx p0 ks ts))) (du : Den K B.tk Hs vb db) (hj : bxPos ks ts.length db = some j) (hn : ks = none) (ht : ts[j]? = some (.lf d0)) (dv : Den K B.tk Hs v d) (k : ∀ H', RepI K S B Hs Δ δ (Γ.set i (some (.bx p0 ks (ts.set j (.lf d))))) σ H' p1 p2 → Q H') : rSetL (.ref p0) vb v H Q := by
  obtain ⟨vs, hv, hp, a, hl, _⟩ := own_bx I h
  have hlen := bxs_len a
  have J := bx_putLf I h hv hp hlen ht dv
  subst hn
  cases db <;> try exact (by cases hj)
  cases du
  exact ⟨_, vs, _, j, rfl, rfl, hp, by rw [hlen]; exact hj, k _ J⟩
theorem pds_bset (i : Nat) {tpos : Pos} (h : PS X (.Assign [.Subscript (.Name y p) b tpos] e spos) (tAsg (DE X.K S X.mg W se) (gSub (tVar i) (DE X.K S X.mg W sb) rSetL))) :
    PS X (.Assign [.Subscript (.Name y p) b tpos] e spos) (DS X.K S X.mg W (wBSet i sb se)) := by
  refine PS.imp h fun D σ H ⟨B, Δ, δ, Γ, m, rp, hs, k1, k2, k3, k4, k5⟩ => ?_
  refine ⟨B, Δ, δ, Γ, m.xp, _, rp, hs, fun v H1 r Γ1 rp1 h1 => ?_, k5 σ⟩
  obtain ⟨⟨p0, ks0, ts0, h0⟩, h1⟩ := h1
  obtain ⟨Hs1, r1, r2, I1⟩ := rp1
  obtain ⟨vs0, hv, _⟩ := own_bx I1 h0
  refine ⟨_, hv, B, r :: Δ, v :: δ, Γ1, m.xp, _, I1.rep, h1, fun u H2 rb Γ2 rp2 h2 => ?_, (k5 σ).push⟩
  obtain ⟨p', ks', ts', j', t', hg', hj', ht', ⟨hn, d0, et⟩, hp⟩ := h2
  subst et
  obtain ⟨Hs2, s1, s2, I2, du, dv⟩ := rp2.frz2
  obtain ⟨_, hv', _⟩ := own_bx I2 hg'
  rw [hv] at hv'; cases hv'
  exact bset_run I2 hg' du hj' hn ht' dv fun H' J => k1 _ _ _ J.rep hp
end
end DL

set_option maxHeartbeats 1000000
namespace DL
open PySem PySem.Spec L2

/-! ### a box written out -/
abbrev WO := (XD → Nv → Prop) → Nv → (List R → Nv → Prop) → Prop
def DO (K : PySem.W.Frag) (S : SK) (mg : Str → Option Value) (W : WX) (s : WO) : TA := fun σ H Q => ∃ B Δ δ Γ xp P, Rep K S B Δ δ Γ σ H ∧ s xp Γ P ∧
  (∀ vs H' rs Γ', vs.length = rs.length → Rep K S B (rs.reverse ++ Δ) (vs.reverse ++ δ) Γ' σ H' → P rs Γ' → Q vs H') ∧ XL K S mg B W Δ δ σ xp
def wONil : WO := fun _ Γ P => P [] Γ
def wOCons (sa : WE) (ss : WO) : WO := fun xp Γ P => sa xp Γ fun r Γ1 => ss xp Γ1 fun rs Γ2 => P (r :: rs) Γ2
def bxK : List R → (List BxC → Prop) → Prop
  | [], k => k []
  | .val d :: rs, k => bxK rs fun ts => k (.lf d :: ts)
  | .lst l :: rs, k => ∀ q, bxK rs fun ts => k (.ls q l :: ts)
  | .dct l :: rs, k => ∀ q, bxK rs fun ts => k (.dc q l :: ts)
  | .bx _ _ _ :: _, _ => False
/-- [a, b, ..]; what is owned stays so -/
def wBox (ss : WO) : WE := fun xp Γ P => ss xp Γ fun rs Γ1 => rs.length ≤ sizeLine ∧ bxK rs fun ts => ∀ p, P (.bx p none ts) Γ1
section
variable {K : PySem.W.Frag} {S : SK} {mg : Str → Option Value} {tk : Option Addr} {B : Bs} {Hs Hs' H H' : Hp} {Δ : List R} {δ : List V} {Γ : Nv} {σ : L2.St} {p1 p2 : List Addr}
theorem Slots.split : ∀ {A Γ : Nv} {A' σ : L2.St} {ps : List Addr}, A.length = A'.length → Slots K tk Hs H (A ++ Γ) (A' ++ σ) ps → ∃ pa pb, ps = pa ++ pb ∧ Slots K tk Hs H A A' pa ∧ Slots K tk Hs H Γ σ pb
  | [], _, [], _, ps, _, h => ⟨[], ps, rfl, .nil, h⟩
  | none :: A, _, o :: A', _, ps, e, h => by
    cases h with
    | un a =>
      obtain ⟨pa, pb, h1, h2, h3⟩ := Slots.split (by simpa using e) a
      exact ⟨pa, pb, h1, .un h2, h3⟩
  | some r :: A, _, o :: A', _, ps, e, h => by
    cases h with
    | @cons _ _ _ _ q _ ho a =>
      obtain ⟨pa, pb, h1, h2, h3⟩ := Slots.split (by simpa using e) a
      exact ⟨q ++ pa, pb, by rw [h1, List.append_assoc], .cons ho h2, h3⟩
theorem Slots.rev : ∀ {A : List R} {A' : List V} {ps : List Addr}, A.length = A'.length → Slots K tk Hs H (A.reverse.map some) (A'.reverse.map some) ps → ∃ pa, Slots K tk Hs H (A.map some) (A'.map some) pa ∧ pa.Perm ps
  | [], [], _, _, h => by cases h; exact ⟨[], .nil, .refl _⟩
  | r :: A, v :: A', ps, e, h => by
    have e' : A.length = A'.length := by simpa using e
    rw [List.reverse_cons, List.reverse_cons, List.map_append, List.map_append] at h
    obtain ⟨pa, pb, h1, h2, h3⟩ := Slots.split (by simp [e']) h
    obtain ⟨pc, h4, h5⟩ := Slots.rev e' h2
    have h3' : Slots K tk Hs H [some r] [some v] pb := h3
    cases h3' with
    | @cons _ _ _ _ q _ ho a =>
      cases a
      refine ⟨q ++ pc, .cons ho h4, ?_⟩
      rw [h1, List.append_nil]
      exact List.perm_append_comm.trans (List.Perm.append_right q h5)
theorem bxK_its : ∀ {rs : List R} {vs : List V} {ps : List Addr} {k : List BxC → Prop}, Slots K tk Hs H (rs.map some) (vs.map some) ps → bxK rs k → ∃ ts, BxS K tk Hs H ts vs ∧ adS ts = ps ∧ k ts
  | [], [], _, k, h, hk => by cases h; exact ⟨[], .nil, rfl, hk⟩
  | [], v :: vs, _, _, h, _ => by cases h
  | r :: rs, [], _, _, h, _ => by cases h
  | r :: rs, v :: vs, _, k, h, hk => by
    have h' : Slots K tk Hs H (some r :: rs.map some) (some v :: vs.map some) _ := h
    cases h' with
    | cons ho a =>
      cases ho with
      | @val _ d dv =>
        obtain ⟨ts, h1, h2, h3⟩ := bxK_its a hk
        exact ⟨_, .cons (.lf dv) h1, by simpa [adS, BxC.ad] using h2, h3⟩
      | @lst p us l hp da =>
        obtain ⟨ts, h1, h2, h3⟩ := bxK_its a (hk p)
        exact ⟨_, .cons (.ls hp da) h1, by simpa [adS, BxC.ad] using h2, h3⟩
      | @dct p us l hp da =>
        obtain ⟨ts, h1, h2, h3⟩ := bxK_its a (hk p)
        exact ⟨_, .cons (.dc hp da) h1, by simpa [adS, BxC.ad] using h2, h3⟩
      | bx _ _ _ => exact hk.elim
theorem RepI.box {rs : List R} {vs : List V} {k : List BxC → Prop} (I : RepI K S B Hs (rs.reverse ++ Δ) (vs.reverse ++ δ) Γ σ H p1 p2) (hl : vs.length = rs.length) (hk : bxK rs k) {p : Addr} (n : H p = none) : ∃ ts, k ts ∧ Rep K S B (.bx p none ts :: Δ) (.ref p :: δ) Γ σ (upd H p (.lst vs)) := by
  have tm := I.tm
  rw [List.map_append, List.map_append] at tm
  obtain ⟨pa, pb, e1, h1, h2⟩ := Slots.split (by simp [hl]) tm
  obtain ⟨pc, h3, pm⟩ := Slots.rev hl.symm h1
  obtain ⟨ts, h4, h5, h6⟩ := bxK_its h3 hk
  subst h5
  subst e1
  refine ⟨ts, h6, Hs, p :: adS ts ++ pb, p2, ?_⟩
  have hp : ∀ b ∈ B.fp ++ (pa ++ pb ++ p2), b ≠ p := fun b hb z => by
    obtain ⟨u, e⟩ := I.live b hb
    subst z; rw [n] at e; cases e
  have mem : ∀ b, b ∈ B.fp ++ (adS ts ++ pb ++ p2) → b ∈ B.fp ++ (pa ++ pb ++ p2) := fun b hb => by
    simp only [List.mem_append] at hb ⊢
    rcases hb with z | (z | z) | z
    · exact .inl z
    · exact .inr (.inl (.inl (pm.mem_iff.mp z)))
    · exact .inr (.inl (.inr z))
    · exact .inr (.inr z)
  have rf : Same Hs Hs := fun _ _ e => e
  have ku : ∀ b ∈ B.fp ++ (pa ++ pb ++ p2), upd H p (.lst vs) b = H b := fun b hb => I.keepU n b hb
  refine ⟨fun b u e => ?_, fun b hb => ?_, ?_, I.st.mono rf fun b hb => ku b (List.mem_append_left _ hb), Slots.cons (q := p :: adS ts) ?_ (h2.mono rf fun b hb => ku b (by simp [hb])), I.sl.mono rf fun b hb => ku b (by simp [hb]), fun b u hb e => ?_, I.l0, I.s0, I.new, fun b hb => ?_⟩
  · have := I.sub b u e
    rw [upd_self' this n]; exact this
  · by_cases h : b = p
    · subst h; exact I.freshS n
    · refine I.off b (mem b ?_)
      simp only [List.cons_append, List.mem_append, List.mem_cons] at hb ⊢
      rcases hb with z | z | z | z
      · exact .inl z
      · exact absurd z h
      · exact .inr (.inl z)
      · exact .inr (.inr z)
  · have p0 : (B.fp ++ (p :: adS ts ++ pb ++ p2)).Perm (p :: (B.fp ++ (pa ++ pb ++ p2))) := by
      have : (p :: adS ts ++ pb ++ p2) = p :: (adS ts ++ pb ++ p2) := by simp
      rw [this]
      refine List.perm_middle.trans (List.Perm.cons p ?_)
      exact List.Perm.append_left _ (List.Perm.append_right _ (List.Perm.append_right _ pm))
    exact p0.nodup_iff.mpr (List.nodup_cons.mpr ⟨fun z => hp p z rfl, I.nd⟩)
  · refine .bx (ks := none) (vs := vs) upd_same (BxS.mono h4 rf fun b hb => ku b ?_) (fun l e => by cases e)
    simp [pm.mem_iff.mp hb]
  · have := I.h0 b u hb e
    rw [upd_self' this n]; exact this
  · simp only [List.cons_append, List.mem_append, List.mem_cons] at hb
    rcases hb with z | z | z
    · subst z; exact I.fresh0 n
    · refine I.own b ?_
      rcases z with z | z
      · simp [pm.mem_iff.mp z]
      · simp [z]
    · exact I.own b (by simp [z])
end
section
variable {X : Cx} {S : SK} {W : WX} {e : Expr} {es : List Expr} {sa : WE} {so : WO} {pos : Pos}
theorem pdo_nil : PA X [] (DO X.K S X.mg W wONil) := by
  refine PA.imp pa_nil fun σ H Q ⟨B, Δ, δ, Γ, xp, P, rp, hs, k, xl⟩ => ?_
  exact k [] H [] Γ rfl rp hs
theorem pdo_cons (ha : PE X e (DE X.K S X.mg W sa)) (hr : PA X es (DO X.K S X.mg W so)) (hs : starEach (e :: es) X.env = (false, eval e X.env) :: starEach es X.env := by rfl) : PA X (e :: es) (DO X.K S X.mg W (wOCons sa so)) := by
  refine PA.imp (pa_cons ha hr hs) fun σ H Q ⟨B, Δ, δ, Γ, xp, P, rp, hs, k, xl⟩ => ?_
  refine ⟨B, Δ, δ, Γ, xp, _, rp, hs, fun v H1 ra Γ1 rp1 h1 => ?_, xl⟩
  refine ⟨B, ra :: Δ, v :: δ, Γ1, xp, _, rp1, h1, fun vs H2 rs Γ2 hl rp2 h2 => ?_, xl.push⟩
  refine k (v :: vs) H2 (ra :: rs) Γ2 (by simp [hl]) ?_ h2
  simpa using rp2
theorem pd_box (h : PA X es (DO X.K S X.mg W so)) : PE X (.List es pos) (DE X.K S X.mg W (wBox so)) := by
  refine PE.imp (pe_lst h) fun σ H Q ⟨B, Δ, δ, Γ, xp, P, rp, hs, k, xl⟩ => ?_
  refine ⟨B, Δ, δ, Γ, xp, _, rp, hs, fun vs H1 rs Γ1 hl ⟨Hs, p1, p2, I⟩ h1 => ?_, xl⟩
  refine ⟨by rw [hl]; exact h1.1, fun p n => ?_⟩
  obtain ⟨ts, hk, rp⟩ := I.box hl h1.2 n
  exact k _ _ _ Γ1 rp (hk p)
end

/-! ### the state of a law, open in a def -/
/-- states of this content -/
def skOf (K : PySem.W.Frag) (C : Option (List Key) → List BxC → Prop) : SK where
  J := fun a fp Hs H => ∃ ks ts, C ks ts ∧ Own K (some a) Hs H (.bx a ks ts) (.ref a) fp
  mono := fun ⟨ks, ts, c, h⟩ e k => ⟨ks, ts, c, h.mono e k⟩
  live := fun ⟨_, _, _, h⟩ => h.live
/-- no state to keep -/
def skT : SK where
  J := fun _ fp _ _ => fp = []
  mono := fun h _ _ => h
  live := fun h b hb => by subst h; simp at hb
def hide (H : Hp) (fp : List Addr) : Hp := fun b => if b ∈ fp then none else H b
section
variable {K : PySem.W.Frag} {C : Option (List Key) → List BxC → Prop} {mg : Str → Option Value} {a : Addr} {fp : List Addr} {Hs Hs' H H' : Hp} {Δ : List R} {δ : List V} {Γ : Nv} {σ : L2.St} {p1 p2 : List Addr}
theorem Own.bxq {tk : Option Addr} {ks : Option (List Key)} {ts : List BxC} {v : V} {q : List Addr} (h : Own K tk Hs H (.bx a ks ts) v q) : q = a :: adS ts := by
  cases h with
  | bx _ _ _ => rfl
/-- what a def that opened the state leaves, to its caller -/
theorem RepI.shut {ks : Option (List Key)} {ts : List BxC} (I : RepI K skT ⟨some (a, []), Hs, hide H fp⟩ Hs' Δ δ Γ σ H' p1 p2) (h : Γ[0]? = some (some (.bx a ks ts))) (hc : C ks ts) (hfp : a :: adS ts = fp) (hl : ∀ b ∈ fp, ∃ o, H b = some o) :
    RepI K (skOf K C) ⟨some (a, fp), Hs, H⟩ Hs' Δ δ [] [] H' p1 [] := by
  obtain ⟨v, q, q1, q2, h1, h2, h3, _⟩ := I.sl.at h
  cases h3 with
  | @bx _ _ vs _ hp b z =>
    have ho : Own K (some a) Hs' H' (.bx a ks ts) (.ref a) fp := by rw [← hfp]; exact .bx hp b z
    have nd : (p1 ++ p2).Nodup := I.nd
    have off : ∀ b ∈ p1 ++ p2, Hs' b = none := fun b hb => I.off b hb
    rw [hfp] at h2
    subst h2
    have dis : ∀ b ∈ p1, b ∉ fp := fun b hb hq => (List.nodup_append.mp nd).2.2 b hb b (by simp [hq]) rfl
    refine ⟨I.sub, fun b hb => ?_, ?_, ⟨ks, ts, hc, ho⟩, I.tm, .nil, fun b o hb e => ?_, hl, I.s0, fun b o e => ?_, fun b hb => ?_⟩
    · have hb' : b ∈ fp ++ (p1 ++ []) := hb
      simp only [List.append_nil, List.mem_append] at hb'
      rcases hb' with z | z
      · exact off b (by simp [z])
      · exact off b (by simp [z])
    · show (fp ++ (p1 ++ [])).Nodup
      rw [List.append_nil]
      refine List.nodup_append.mpr ⟨(List.nodup_append.mp (List.nodup_append.mp (List.nodup_append.mp nd).2.1).1).2.1, (List.nodup_append.mp nd).1, fun x hx y hy e => ?_⟩
      subst e
      exact dis x hy hx
    · have hb' : b ∉ fp := hb
      exact I.h0 b o (fun z => by cases z) (by show hide H fp b = some o; unfold hide; rw [if_neg hb']; exact e)
    · rcases I.new b o e with y | y
      · exact .inl y
      · refine .inr ?_
        have y' : hide H fp b = none := y
        unfold hide at y'
        by_cases hb : b ∈ fp
        · rw [off b (by simp [hb])] at e; cases e
        · rw [if_neg hb] at y'; exact y'
    · have hb' : b ∈ p1 := by simpa using hb
      have y := I.own b (by simp [hb'])
      have y' : hide H fp b = none := y
      unfold hide at y'
      rw [if_neg (dis b hb')] at y'; exact y'
/-- the state at hand at a def's end -/
def shutQ (C : Option (List Key) → List BxC → Prop) (a : Addr) (fp : List Addr) (P : Prop) : Nv → Prop := fun Γ => ∃ ks ts, Γ[0]? = some (some (.bx a ks ts)) ∧ C ks ts ∧ a :: adS ts = fp ∧ P
end
section
variable {P : Program} {w : World} {K : PySem.W.Frag} {C : Option (List Key) → List BxC → Prop} {mg : Str → Option Value} {base : Heap}
/-- THE RULE for a def that opens the state, its first argument -/
theorem ok_open {x qual : Str} {st : Stmt} {f : Addr} {fd : FuncData} {N ps : List Str} {k n : Nat} {body : WS} {wf : WF} (F : Fun K x qual st f fd) (Sc : FnScope N ps (defScope st)) (hn : ps.length = n + 1) (hN : n + 1 ≤ N.length)
    (hbody : ∀ (cdv : Value) (A : Around) (outer : List Env) (s : Shared) (H : Hp) (E : XK), Room k (A.deeper (PyProof.Rows.envOfC qual (defScope st) s.heap.objs.size f cdv)) →
      PSs (cxOf (L2.CX P w) P w K mg base N qual (defScope st) f cdv A outer s H E) (defBody st) (DS K skT mg (fun cls d _ H => E cls d H) body))
    (hwt : ∀ ds rt xp, wf ds rt xp → ∃ es, ds = .tok :: es)
    (hw : ∀ es rt xp a ks ts, es.length = n → wf (.tok :: es) rt xp → C ks ts → body (some (.bx a ks ts) :: ini (N.length - 1) es) { nx := shutQ C a (a :: adS ts) (rt (.val .non)), rt := fun r => shutQ C a (a :: adS ts) (rt r), xp := fun x => shutQ C a (a :: adS ts) (xp x) }) :
    FnOk P w K mg base (L2.CX P w) (k + 1) f fd ps (spD K (skOf K C) mg (n + 1) wf) := by
  refine F.okX Sc (fun vs H Q E h => ?_) (fun cdv A outer s H vs Q E hr h => ⟨_, hbody cdv A outer s H E hr, ?_⟩)
  · obtain ⟨_, _, _, _, _, e, _⟩ := h
    rw [e, hn]
  · obtain ⟨sto, Hs, ds, rt, xp, hl, hsub, hoff, hnd, hok, hda, hwf, kr, kx⟩ := h
    obtain ⟨es, rfl⟩ := hwt ds rt xp hwf
    cases hda with
    | @cons v vs _ _ ht hda =>
      cases sto with
      | none => cases ht with | tok e => cases e
      | some p =>
        obtain ⟨a, fp⟩ := p
        have ev : v = .ref a := by
          cases ht with
          | tok e => simp [Bs.tk] at e; subst e; rfl
        subst ev
        obtain ⟨ks, ts, hc, ho⟩ := hok
        have hfp : fp = a :: adS ts := ho.bxq
        have hlive := ho.live
        have I : RepI K skT ⟨some (a, []), Hs, hide H fp⟩ Hs [] [] (some (.bx a ks ts) :: ini (N.length - 1) es) (L2.start N (.ref a :: vs)) H [] (fp ++ []) := by
          refine ⟨hsub, fun b hb => hoff b (by simpa [Bs.fp] using hb), by simpa [Bs.fp] using hnd, rfl, .nil, ?_, fun b o _ e => ?_, fun b hb => (by cases hb), fun b o e => e, fun b o e => .inl e, fun b hb => ?_⟩
          · unfold ini L2.start
            have e : N.length - (V.ref a :: vs).length = N.length - 1 - es.length := by rw [List.length_cons, hda.length]; omega
            rw [e]
            exact Slots.cons ho (slots_start _ hda)
          · have e' : hide H fp b = some o := e
            unfold hide at e'
            split at e'
            · cases e'
            · exact e'
          · have hb' : b ∈ fp := by simpa using hb
            show hide H fp b = none
            unfold hide; rw [if_pos hb']
        have hle : es.length = n := by simp at hl; rw [← hda.length]; exact hl
        refine ⟨⟨some (a, []), Hs, hide H fp⟩, [], [], _, _, I.rep, hw es rt xp a ks ts hle hwf hc, fun σ' H' Γ' rp hr => ?_, fun _ _ _ _ q => q.elim, fun _ _ _ _ q => q.elim, fun v r σ' H' Γ' rp hr => ?_, fun σ' => ?_⟩
        · obtain ⟨Hs', p1, p2, I'⟩ := rp
          obtain ⟨ks', ts', g1, g2, g3, g4⟩ := hr
          exact kr _ _ _ (Rep.retV ((I'.shut g1 g2 (g3.trans hfp.symm) hlive).fin .non)) g4
        · obtain ⟨Hs', p1, p2, I'⟩ := rp
          obtain ⟨ks', ts', g1, g2, g3, g4⟩ := hr
          have J := I'.shut g1 g2 (g3.trans hfp.symm) hlive
          exact kr _ _ _ J.rep g4
        · rintro cls d H' x' Γ' ⟨Hs', p1, p2, Cc, dx, fs, I', e1, e2, e3, e4, e5⟩ q
          obtain ⟨ks', ts', g1, g2, g3, g4⟩ := q
          have J := I'.shut g1 g2 (g3.trans hfp.symm) hlive
          exact kx cls d H' x' ⟨Hs', _, _, Cc, dx, fs, J, e1, e2, e3, e4, e5⟩ g4
end

/-! ### the law itself -/
/-- the only result -/
def isT : R → Nv → Prop := fun r _ => r = .val (.bl true)
def mT (g : Nv → Prop) : M := { nx := g, rt := isT }
/-- a piece of the law's body, told by what must hold of the names -/
def TL (K : PySem.W.Frag) (S : SK) (g : Nv → Prop) : TS := fun D σ H => ∃ B Γ, B.st = none ∧ Rep K S B [] [] Γ σ H ∧ g Γ ∧ ∀ H', D.rt (.bl true) H'
section
variable {K : PySem.W.Frag} {S : SK} {mg : Str → Option Value}
theorem isT_run {B : Bs} {Δ : List R} {δ : List V} {Γ : Nv} {σ : L2.St} {v : V} {r : R} {H : Hp} (h : Rep K S B (r :: Δ) (v :: δ) Γ σ H) (e : isT r Γ) : v = .bl true := by
  obtain ⟨Hs, p1, p2, I, d⟩ := h.frz
  have e' : r = .val (.bl true) := e
  subst e'
  cases d
  rfl
theorem xl_f {B : Bs} {W : WX} {Δ : List R} {δ : List V} {σ : L2.St} : XL K S mg B W Δ δ σ fun _ _ => False := fun _ _ _ _ _ _ q => q.elim
section
variable {X : Cx} {W : WX} {st : Stmt} {rest : List Stmt} {s : WS} {g : Nv → Prop}
theorem tl_cons (h1 : PS X st (DS X.K S X.mg W s)) (h2 : PSs X rest (TL X.K S g)) : PSs X (st :: rest) (TL X.K S fun Γ => s Γ (mT g)) := by
  refine PSs.imp (pss_cons h1 h2) fun D σ H ⟨B, Γ, hb, rp, hs, k⟩ => ?_
  exact ⟨B, [], [], Γ, _, rp, hs, fun σ' H' Γ' rp' h' => ⟨B, Γ', hb, rp', h', k⟩, fun _ _ _ _ q => q.elim, fun _ _ _ _ q => q.elim, fun v r σ' H' Γ' rp' h' => (by cases isT_run rp' h'; exact k H'), fun _ => xl_f⟩
theorem tl_all (h : PSs X rest (DS X.K S X.mg W s)) : PSs X rest (TL X.K S fun Γ => s Γ (mT fun _ => False)) := by
  refine PSs.imp h fun D σ H ⟨B, Γ, hb, rp, hs, k⟩ => ?_
  exact ⟨B, [], [], Γ, _, rp, hs, fun _ _ _ _ q => q.elim, fun _ _ _ _ q => q.elim, fun _ _ _ _ q => q.elim, fun v r σ' H' Γ' rp' h' => (by cases isT_run rp' h'; exact k H'), fun _ => xl_f⟩
end
mutual
theorem Den.tks {H : Hp} {tk : Option Addr} : ∀ {v : V} {d : D}, Den K none H v d → Den K tk H v d
  | _, _, .non => .non
  | _, _, .bl b => .bl b
  | _, _, .int i => .int i
  | _, _, .str h => .str h
  | _, _, .tup h a => .tup h (DenAll.tks a)
  | _, _, .lst h a => .lst h (DenAll.tks a)
  | _, _, .fro h a => .fro h (DenAll.tks a)
  | _, _, .dct h a => .dct h (DenKs.tks a)
  | _, _, .raw v => .raw v
  | _, _, .exc h a => .exc h (DenKs.tks a)
theorem DenAll.tks {H : Hp} {tk : Option Addr} : ∀ {vs : List V} {ds : List D}, DenAll K none H vs ds → DenAll K tk H vs ds
  | _, _, .nil => .nil
  | _, _, .cons h a => .cons (Den.tks h) (DenAll.tks a)
theorem DenKs.tks {H : Hp} {tk : Option Addr} : ∀ {vs : List (Key × V)} {ds : List (Key × D)}, DenKs K none H vs ds → DenKs K tk H vs ds
  | _, _, .nil => .nil
  | _, _, .cons h a => .cons (Den.tks h) (DenKs.tks a)
end
theorem OwnI.tks {tk : Option Addr} {Hs H : Hp} {t : BxC} {v : V} (h : OwnI K none Hs H t v) : OwnI K tk Hs H t v := by
  cases h with
  | lf h => exact .lf h.tks
  | ls h a => exact .ls h a.tks
  | dc h a => exact .dc h a.tks
theorem BxS.tks {tk : Option Addr} {Hs H : Hp} : ∀ {ts : List BxC} {vs : List V}, BxS K none Hs H ts vs → BxS K tk Hs H ts vs
  | _, _, .nil => .nil
  | _, _, .cons h a => .cons h.tks (BxS.tks a)
theorem Own.tks {tk : Option Addr} {Hs H : Hp} {r : R} {v : V} {q : List Addr} (h : Own K none Hs H r v q) : Own K tk Hs H r v q := by
  cases h with
  | val h => exact .val h.tks
  | lst h a => exact .lst h a.tks
  | dct h a => exact .dct h a.tks
  | bx h a z => exact .bx h (BxS.tks a) z
theorem Slots.tks {tk : Option Addr} {Hs H : Hp} : ∀ {Γ : Nv} {σ : L2.St} {p : List Addr}, Slots K none Hs H Γ σ p → Slots K tk Hs H Γ σ p
  | _, _, _, .nil => .nil
  | _, _, _, .un a => .un (Slots.tks a)
  | _, _, _, .cons h a => .cons h.tks (Slots.tks a)
/-- what may become the state: a box, or a list whose items are all stable -/
def stOf (C : Option (List Key) → List BxC → Prop) : R → Prop
  | .bx _ ks ts => C ks ts
  | .lst l => C none (l.map BxC.lf)
  | _ => False
theorem bxs_lf {tk : Option Addr} {Hs H : Hp} : ∀ {vs : List V} {ds : List D}, DenAll K tk Hs vs ds → BxS K tk Hs H (ds.map BxC.lf) vs
  | _, _, .nil => .nil
  | _, _, .cons h a => .cons (.lf h) (bxs_lf a)
theorem adS_lf : ∀ l : List D, adS (l.map BxC.lf) = []
  | [] => rfl
  | _ :: l => adS_lf l
theorem st_own {C : Option (List Key) → List BxC → Prop} {tk : Option Addr} {Hs H : Hp} {r : R} {v : V} {q : List Addr} (h : Own K tk Hs H r v q) (c : stOf C r) : ∃ a ks ts, v = .ref a ∧ C ks ts ∧ Own K tk Hs H (.bx a ks ts) (.ref a) q := by
  cases h with
  | val h => exact c.elim
  | @lst p vs l hp a => exact ⟨p, none, _, rfl, c, (by have := Own.bx (ks := none) (vs := vs) hp (bxs_lf a) (fun l e => by cases e); rw [adS_lf] at this; exact this)⟩
  | dct h a => exact c.elim
  | bx h a z => exact ⟨_, _, _, rfl, c, .bx h a z⟩
/-- from here on name i holds the state -/
def gShut (C : Option (List Key) → List BxC → Prop) (i : Nat) (s : WS) : Nv → Prop := fun Γ => ∃ r, Γ[i]? = some (some r) ∧ stOf C r ∧ s (Γ.set i (some (.val .tok))) (mT fun _ => False)
theorem shut_run {C : Option (List Key) → List BxC → Prop} {s : WS} {W : WX} {i : Nat} {D : Ends} {σ : L2.St} {H : Hp} (h : TL K (skOf K C) (gShut C i s) D σ H) : DS K (skOf K C) mg W s D σ H := by
  obtain ⟨B, Γ, hb, ⟨Hs, p1, p2, I⟩, ⟨r, hr, hc, hs⟩, k⟩ := h
  have htk : B.tk = none := by unfold Bs.tk; rw [hb]; rfl
  have hsl : Slots K none Hs H Γ σ p2 := htk ▸ I.sl
  obtain ⟨v0, _, _, _, h01, _, h03, _⟩ := hsl.at hr
  obtain ⟨a, _, _, rfl, _, _⟩ := st_own h03 hc
  obtain ⟨v, q, q1, q2, h1, h2, h3, h4⟩ := (hsl.tks (tk := some a)).at hr
  rw [h01] at h1; cases h1
  have h1 := h01
  obtain ⟨a', ks, ts, ea, c, ho⟩ := st_own h3 hc
  cases ea
  subst h2
  have nd := I.nd
  have n2 := (List.nodup_append.mp nd).2.1
  have rf : Same Hs Hs := fun _ _ e => e
  have es : σ.set i (some (.ref a)) = σ := by
    obtain ⟨hl, he⟩ := List.getElem?_eq_some_iff.mp h1
    rw [← he, List.set_getElem_self]
  have hl1 : p1 = [] := by
    have t : Slots K B.tk Hs H [] [] p1 := I.tm
    cases t; rfl
  subst hl1
  have pm : (q1 ++ q ++ q2).Perm (q ++ (q1 ++ [] ++ q2)) := by
    simp only [List.perm_iff_count, List.count_append, List.append_nil]
    intro a; omega
  have n3 : (q ++ (q1 ++ [] ++ q2)).Nodup := pm.nodup_iff.mp (by simpa using n2)
  obtain ⟨k1, k2, k3⟩ := List.nodup_append.mp n3
  have slT : Slots K (some a) Hs H (Γ.set i (some (.val .tok))) σ (q1 ++ [] ++ q2) := by
    have sl' := h4 (H' := H) rf (fun _ _ => rfl) (r' := .val .tok) (q' := []) (v' := .ref a) (.val (.tok rfl))
    rwa [es] at sl'
  refine ⟨⟨some (a, q), Hs, hide H (q1 ++ [] ++ q2)⟩, [], [], _, _, ⟨Hs, [], q1 ++ [] ++ q2, I.sub, fun b hb => ?_, ?_, ⟨ks, ts, c, ho⟩, .nil, slT, fun b o _ e => ?_, fun b hb => ?_, rf, fun b o e => .inl e, fun b hb => ?_⟩, hs, fun _ _ _ _ q => q.elim, fun _ _ _ _ q => q.elim, fun _ _ _ _ q => q.elim, fun v r σ' H' Γ' rp' h' => (by cases isT_run rp' h'; exact k H'), fun _ => xl_f⟩
  · have hb' : b ∈ q ++ (q1 ++ [] ++ q2) := hb
    exact I.off b (List.mem_append_right _ (by simpa using pm.mem_iff.mpr hb'))
  · exact n3
  · have e' : hide H (q1 ++ [] ++ q2) b = some o := e
    unfold hide at e'
    split at e'
    · cases e'
    · exact e'
  · have hb' : b ∈ q := hb
    obtain ⟨o, e⟩ := ho.live b hb'
    refine ⟨o, ?_⟩
    show hide H (q1 ++ [] ++ q2) b = some o
    unfold hide
    rw [if_neg fun z => k3 b hb' b z rfl]
    exact e
  · have hb' : b ∈ q1 ++ [] ++ q2 := hb
    show hide H (q1 ++ [] ++ q2) b = none
    unfold hide
    rw [if_pos hb']
theorem tl_shut {C : Option (List Key) → List BxC → Prop} {X : Cx} {W : WX} {rest : List Stmt} {s : WS} (i : Nat) (h : PSs X rest (DS X.K (skOf X.K C) X.mg W s)) : PSs X rest (TL X.K (skOf X.K C) (gShut C i s)) := PSs.imp h fun _ _ _ h => shut_run h
end
section
variable {P : Program} {w : World} {K : PySem.W.Frag} {S : SK} {mg : Str → Option Value} {base : Heap}
/-- the law's own promise -/
def spLaw (K : PySem.W.Frag) : Sp := fun vs H Q _ => ∃ (a : Addr) (ns : List Int), vs = [.ref a] ∧ SqL K H a (ns.map V.int) ∧ ns.length ≤ 63 ∧ ∀ H', Q (.bl true) H'
theorem den_ints {K : PySem.W.Frag} {tk : Option Addr} {H : Hp} : ∀ ns : List Int, DenAll K tk H (ns.map V.int) (ns.map D.int)
  | [] => .nil
  | n :: ns => .cons (.int n) (den_ints ns)
theorem ok_law {x qual : Str} {st : Stmt} {f : Addr} {fd : FuncData} {N : List Str} {p : Str} {k : Nat} {g : Nv → Prop} (F : Fun K x qual st f fd) (Sc : FnScope N [p] (defScope st))
    (hbody : ∀ (cdv : Value) (A : Around) (outer : List Env) (s : Shared) (H : Hp) (E : XK), Room k (A.deeper (PyProof.Rows.envOfC qual (defScope st) s.heap.objs.size f cdv)) →
      PSs (cxOf (L2.CX P w) P w K mg base N qual (defScope st) f cdv A outer s H E) (defBody st) (TL K S g))
    (hw : ∀ ns : List Int, ns.length ≤ 63 → g (ini N.length [.fro (ns.map D.int)])) : FnOk P w K mg base (L2.CX P w) (k + 1) f fd [p] (spLaw K) := by
  refine F.okX Sc (fun vs H Q E h => ?_) (fun cdv A outer s H vs Q E hr h => ⟨_, hbody cdv A outer s H E hr, ?_⟩)
  · obtain ⟨a, ns, rfl, _⟩ := h
    rfl
  · obtain ⟨a, ns, rfl, hS, hl, q⟩ := h
    have hda : DenAll K none H [.ref a] [.fro (ns.map D.int)] := .cons (.fro hS (den_ints ns)) .nil
    have I : RepI K S ⟨none, H, H⟩ H [] [] (ini N.length [.fro (ns.map D.int)]) (L2.start N [.ref a]) H [] [] := by
      refine ⟨fun _ _ e => e, fun b hb => by simp [Bs.fp] at hb, by simp [Bs.fp], trivial, .nil, ?_, fun b o _ e => e, fun b hb => (by cases hb), fun b o e => e, fun b o e => .inl e, fun b hb => by simp at hb⟩
      unfold ini L2.start
      exact slots_start _ hda
    exact ⟨⟨none, H, H⟩, _, rfl, I.rep, hw ns hl, q⟩
end
end DL

set_option maxHeartbeats 1000000
namespace DL
open PySem PySem.Spec L2
/-! ### facts of the plain side -/
theorem eqv_int (a b : Int) : D.eqv (.int a) (.int b) = decide (a = b) := by
  unfold D.eqv D.py
  simp only [PyData.eqv]
  exact Bool.eq_iff_iff.mpr (by simp)
theorem eqv_bl (a b : Bool) : D.eqv (.bl a) (.bl b) = decide (a = b) := by
  unfold D.eqv D.py
  cases a <;> cases b <;> rfl
theorem eqv_str (a b : Str) : D.eqv (.str a) (.str b) = decide (a = b) := by
  unfold D.eqv D.py
  simp only [PyData.eqv]
  exact Bool.eq_iff_iff.mpr (by simp)
theorem ok_int (a : Int) : D.eqOk (.int a) = True := by
  unfold D.eqOk; simp [D.plain, D.py, PyData.depth]
theorem ok_bl (a : Bool) : D.eqOk (.bl a) = True := by
  unfold D.eqOk; simp [D.plain, D.py, PyData.depth]
theorem ok_str (a : Str) : D.eqOk (.str a) = True := by
  unfold D.eqOk; simp [D.plain, D.py, PyData.depth]
theorem isi_ib : isi "int" "bool" = some false := by decide
theorem isi_ii : isi "int" "int" = some true := by decide
theorem isi_bb : isi "bool" "bool" = some true := by decide
theorem isi_bi : isi "bool" "int" = some true := by decide
theorem isi_tt : isi "tuple" "tuple" = some true := by decide
theorem isi_it : isi "int" "tuple" = some false := by decide
theorem isi_ti : isi "tuple" "int" = some false := by decide
theorem isi_tb : isi "tuple" "bool" = some false := by decide
theorem isi_bt : isi "bool" "tuple" = some false := by decide

/-! ### loops, by what holds at each turn -/
theorem wFor_run {g : WG} {b : WS} {m : M} (I : Nat → Nv → Prop) {ds : List D}
    (step : ∀ i d Γ (k : Nv → Prop), ds[i]? = some d → I i Γ → (∀ Γ', I (i + 1) Γ' → k Γ') → g (.val d) Γ fun Γ1 => b Γ1 { m with nx := k, ct := k, bk := m.nx })
    (fin : ∀ Γ, I ds.length Γ → m.nx Γ) {Γ : Nv} (h : I 0 Γ) : wFor g b ds Γ m := by
  have main : ∀ (n i : Nat) (Γ : Nv), i + n = ds.length → I i Γ → wFor g b (ds.drop i) Γ m := by
    intro n
    induction n with
    | zero =>
      intro i Γ e hi
      have e : i = ds.length := by omega
      subst e
      rw [List.drop_length]
      exact fin Γ hi
    | succ n ih =>
      intro i Γ e hi
      have hl : i < ds.length := by omega
      rw [List.drop_eq_getElem_cons hl]
      exact step i _ Γ _ (List.getElem?_eq_getElem hl) hi fun Γ' h' => ih (i + 1) Γ' (by omega) h'
  have := main ds.length 0 Γ (by omega) h
  simpa using this
theorem wLcL_run {g : WG} {tt : WT} {se : WE} {vs : List Nat} (I : Nat → List D → Nv → Prop) {ds : List D} {P : List D → Nv → Prop}
    (step : ∀ i d acc Γ (k : List D → Nv → Prop), ds[i]? = some d → I i acc Γ → (∀ acc' Γ', I (i + 1) acc' Γ' → k acc' Γ') →
      g (.val d) Γ fun Γ2 => tt (fun _ _ => False) Γ2 fun b Γ3 => if b = true then se (fun _ _ => False) Γ3 fun r Γ4 => k (acc ++ [r.d]) (wipeG Γ4 vs) else k acc (wipeG Γ3 vs))
    (fin : ∀ acc Γ, I ds.length acc Γ → P acc Γ) {Γ : Nv} (h : I 0 [] Γ) : wLcL g tt se vs ds [] Γ P := by
  have main : ∀ (n i : Nat) (acc : List D) (Γ : Nv), i + n = ds.length → I i acc Γ → wLcL g tt se vs (ds.drop i) acc Γ P := by
    intro n
    induction n with
    | zero =>
      intro i acc Γ e hi
      have e : i = ds.length := by omega
      subst e
      rw [List.drop_length]
      exact fin acc Γ hi
    | succ n ih =>
      intro i acc Γ e hi
      have hl : i < ds.length := by omega
      rw [List.drop_eq_getElem_cons hl]
      exact step i _ acc Γ (fun acc' Γ' => wLcL g tt se vs (ds.drop (i + 1)) acc' Γ' P) (List.getElem?_eq_getElem hl) hi fun acc' Γ' h' => ih (i + 1) acc' Γ' (by omega) h'
  have := main ds.length 0 [] Γ (by omega) h
  simpa using this
/-- a comprehension that leaves the names as they are: f tells each turn -/
theorem wLcL_map {g : WG} {tt : WT} {se : WE} {vs : List Nat} (f : D → List D) {ds : List D} {P : List D → Nv → Prop} {Γ : Nv}
    (step : ∀ (i : Nat) (d : D) (acc : List D) (k : List D → Nv → Prop), ds[i]? = some d → k (acc ++ f d) Γ →
      g (.val d) Γ fun Γ2 => tt (fun _ _ => False) Γ2 fun b Γ3 => if b = true then se (fun _ _ => False) Γ3 fun r Γ4 => k (acc ++ [r.d]) (wipeG Γ4 vs) else k acc (wipeG Γ3 vs))
    (fin : P (ds.map f).flatten Γ) : wLcL g tt se vs ds [] Γ P := by
  refine wLcL_run (fun i acc Γ' => Γ' = Γ ∧ acc = ((ds.take i).map f).flatten) (fun i d acc Γ' k hd hi hk => ?_) (fun acc Γ' hi => ?_) ⟨rfl, rfl⟩
  · obtain ⟨rfl, rfl⟩ := hi
    refine step i d _ k hd (hk _ _ ⟨rfl, ?_⟩)
    rw [List.take_add_one, hd]
    simp
  · obtain ⟨rfl, rfl⟩ := hi
    rw [List.take_length]
    exact fin
theorem wWh_run {c : WT} {b : WS} {m : M} (I : Nat → Nv → Prop)
    (step : ∀ n Γ (k : Nv → Prop), I n Γ → (∀ n' Γ', n = n' + 1 → I n' Γ' → k Γ') → c m.xp Γ fun t Γ1 => if t = true then b Γ1 { m with nx := k, ct := k, bk := m.nx } else m.nx Γ1)
    {n : Nat} {Γ : Nv} (h : I n Γ) : wWhile c b Γ m := by
  have main : ∀ (n : Nat) (Γ : Nv), I n Γ → wWh c b (n + 1) Γ m := by
    intro n
    induction n with
    | zero => intro Γ h; exact step 0 Γ _ h fun n' Γ' e => by omega
    | succ n ih =>
      intro Γ h
      refine step (n + 1) Γ _ h fun n' Γ' e h' => ?_
      have : n' = n := by omega
      subst this
      exact ih Γ' h'
  exact ⟨n + 1, main n Γ h⟩
theorem rng_len (lo : Int) (n : Nat) : (rng lo n).length = n := by simp [rng]
theorem rng_get {lo : Int} {n i : Nat} {d : D} (h : (rng lo n)[i]? = some d) : i < n ∧ d = .int (lo + (i : Nat)) := by
  unfold rng at h
  rw [List.getElem?_map] at h
  by_cases hi : i < n
  · rw [List.getElem?_range hi] at h
    exact ⟨hi, by simpa using h.symm⟩
  · rw [List.getElem?_eq_none (by simp; omega)] at h
    cases h
theorem rng_at {lo : Int} {n i : Nat} (h : i < n) : (rng lo n)[i]? = some (.int (lo + (i : Nat))) := by
  unfold rng
  rw [List.getElem?_map, List.getElem?_range h]
  rfl
theorem ints_plain : ∀ ns : List Int, D.plains (ns.map D.int) = true
  | [] => rfl
  | _ :: ns => by simp [D.plains, D.plain, ints_plain ns]
theorem ints_any (g : Int) : ∀ ns : List Int, ((ns.map D.int).any fun z => D.eqv z (.int g)) = decide (g ∈ ns)
  | [] => by simp
  | n :: ns => by
    rw [List.map_cons, List.any_cons, ints_any g ns, eqv_int]
    by_cases h : n = g
    · subst h; simp
    · simp [h, Ne.symm h]
theorem in_ints (g : Int) (ns : List Int) : D.inOk (.int g) (.tup (ns.map D.int)) = some (decide (g ∈ ns)) := by
  simp only [D.inOk, ints_plain, ints_any]
  simp [D.plain, D.py, PyData.depth]
theorem in_intsL (g : Int) (ns : List Int) : D.inOk (.int g) (.lst (ns.map D.int)) = some (decide (g ∈ ns)) := by
  simp only [D.inOk, ints_plain, ints_any]
  simp [D.plain, D.py, PyData.depth]
theorem atI_lt {α : Type} {l : List α} {n : Int} {j : Nat} {x : α} (hn : n = (j : Nat)) (h : l[j]? = some x) : atI l n = some x := by
  have hl : j < l.length := by
    rw [List.getElem?_eq_some_iff] at h
    exact h.1
  subst hn
  rw [List.getElem?_eq_some_iff] at h
  obtain ⟨_, h⟩ := h
  unfold atI ixN
  simp [hl, h]
theorem Cal.of {P : Program} {w : World} {K : PySem.W.Frag} {mg : Str → Option Value} {base : Heap} {S : SK} {k : Nat} {x : Str} {st : Stmt} {f : Addr} {fd : FuncData} {ps N : List Str} {body : WS} {wf : WF} (F : Fun K x x st f fd) (gm : mg x = some (.ref f)) (Sc : FnScope N ps (defScope st)) (bd : Binds K fd ps [])
    (hbody : ∀ (f : Addr) (cdv : Value) (A : Around) (outer : List Env) (s : Shared) (H : Hp) (E : XK), Room k (A.deeper (PyProof.Rows.envOfC x (defScope st) s.heap.objs.size f cdv)) →
      PSs (cxOf (L2.CX P w) P w K mg base N x (defScope st) f cdv A outer s H E) (defBody st) (DS K S mg (fun cls d _ H => E cls d H) body))
    (hw : ∀ ds rt xp, ds.length = ps.length → wf ds rt xp → body (ini N.length ds) { nx := fun _ => rt (.val .non), rt := fun r _ => rt r, xp := fun x _ => xp x }) : Cal P w K mg base S (k + 1) x st ps wf :=
  ⟨f, fd, F, ok_fn F Sc rfl (fun cdv A outer s H E hr => hbody f cdv A outer s H E hr) hw, gm, bd⟩
theorem Cal.op {P : Program} {w : World} {K : PySem.W.Frag} {C : Option (List Key) → List BxC → Prop} {mg : Str → Option Value} {base : Heap} {k : Nat} {x : Str} {st : Stmt} {f : Addr} {fd : FuncData} {p : Str} {ps N : List Str} {body : WS} {wf : WF} (F : Fun K x x st f fd) (gm : mg x = some (.ref f)) (Sc : FnScope N (p :: ps) (defScope st)) (hN : ps.length + 1 ≤ N.length) (bd : Binds K fd (p :: ps) [])
    (hbody : ∀ (f : Addr) (cdv : Value) (A : Around) (outer : List Env) (s : Shared) (H : Hp) (E : XK), Room k (A.deeper (PyProof.Rows.envOfC x (defScope st) s.heap.objs.size f cdv)) →
      PSs (cxOf (L2.CX P w) P w K mg base N x (defScope st) f cdv A outer s H E) (defBody st) (DS K skT mg (fun cls d _ H => E cls d H) body))
    (hwt : ∀ ds rt xp, wf ds rt xp → ∃ es, ds = .tok :: es)
    (hw : ∀ es rt xp a ks ts, es.length = ps.length → wf (.tok :: es) rt xp → C ks ts → body (some (.bx a ks ts) :: ini (N.length - 1) es) { nx := shutQ C a (a :: adS ts) (rt (.val .non)), rt := fun r => shutQ C a (a :: adS ts) (rt r), xp := fun x => shutQ C a (a :: adS ts) (xp x) }) :
    Cal P w K mg base (skOf K C) (k + 1) x st (p :: ps) wf :=
  ⟨f, fd, F, ok_open F Sc rfl hN (fun cdv A outer s H E hr => hbody f cdv A outer s H E hr) hwt hw, gm, bd⟩
/-- no promise: for a def's first level of calls of itself -/
theorem Cal.no {P : Program} {w : World} {K : PySem.W.Frag} {mg : Str → Option Value} {base : Heap} {S : SK} {k : Nat} {x : Str} {st : Stmt} {f : Addr} {fd : FuncData} {ps : List Str} (F : Fun K x x st f fd) (gm : mg x = some (.ref f)) (bd : Binds K fd ps []) : Cal P w K mg base S k x st ps fun _ _ _ => False := by
  refine ⟨f, fd, F, ⟨fun vs H Q E h => ?_, fun A outer s H args us vs Q E hr he hb hv h => ?_⟩, gm, bd⟩
  · obtain ⟨_, _, _, _, _, _, _, _, _, _, _, h, _⟩ := h
    exact h.elim
  · obtain ⟨_, _, _, _, _, _, _, _, _, _, _, h, _⟩ := h
    exact h.elim
end DL

set_option maxHeartbeats 1000000
namespace DL
open PySem PySem.Spec L2
/-! ### the plain side's equations -/
section
variable {i j : Int} {a b : Str} {l m : List D} {k k2 : Bool} {P : R → Prop} {Pr : Prop} {xp : XD → Nv → Prop} {Γ : Nv}
theorem wAdd_i : wAdd (.int i) (.int j) P = P (.val (.int (i + j))) := Eq.trans rfl rfl
theorem wAdd_s : wAdd (.str a) (.str b) P = (a.length + b.length ≤ sizeLine ∧ P (.val (.str (a ++ b)))) := Eq.trans rfl rfl
theorem wAdd_l : wAdd (.lst l) (.lst m) P = (l.length + m.length ≤ sizeLine ∧ P (.lst (l ++ m))) := Eq.trans rfl rfl
theorem wAdd_t : wAdd (.tup l) (.tup m) P = (l.length + m.length ≤ sizeLine ∧ P (.val (.tup (l ++ m)))) := Eq.trans rfl rfl
theorem wSub_i : wSub (.int i) (.int j) P = P (.val (.int (i - j))) := Eq.trans rfl rfl
theorem wMul_i : wMul (.int i) (.int j) P = (CMul i j ∧ P (.val (.int (i * j)))) := Eq.trans rfl rfl
theorem wMul_l : wMul (.lst l) (.int j) P = (-(2 ^ 63) ≤ j ∧ j < 2 ^ 63 ∧ l.length * j.toNat ≤ sizeLine ∧ P (.lst (List.replicate j.toNat l).flatten)) := Eq.trans rfl rfl
theorem wMul_s : wMul (.str a) (.int j) P = ((-(2 ^ 63) ≤ j ∧ j < 2 ^ 63 ∧ a.length * j.toNat ≤ 16777216) ∧ P (.val (.str (repS a j.toNat)))) := Eq.trans rfl rfl
theorem wMod_i : wMod (.int i) (.int j) P = (0 < j ∧ P (.val (.int (i % j)))) := Eq.trans rfl rfl
theorem wDiv_i : wDiv (.int i) (.int j) P = (CDiv i j ∧ P (.val (.int (i / j)))) := Eq.trans rfl rfl
theorem wPow_i : wPow (.int i) (.int j) P = (CPow i j ∧ P (.val (.int (i ^ j.toNat)))) := Eq.trans rfl rfl
theorem wShl_i : wShl (.int i) (.int j) P = (CPow i j ∧ P (.val (.int (i * 2 ^ j.toNat)))) := Eq.trans rfl rfl
theorem wShr_i : wShr (.int i) (.int j) P = (0 ≤ j ∧ P (.val (.int (i / 2 ^ j.toNat)))) := Eq.trans rfl rfl
theorem wBAnd_i : wBAnd (.int i) (.int j) P = P (.val (.int (Builtin.bitAnd i j))) := Eq.trans rfl rfl
theorem wBOr_i : wBOr (.int i) (.int j) P = P (.val (.int (Builtin.bitOr i j))) := Eq.trans rfl rfl
theorem wBXor_i : wBXor (.int i) (.int j) P = P (.val (.int (Builtin.bitXor i j))) := Eq.trans rfl rfl
theorem wLt_i : wLt (.int i) (.int j) P = P (.val (.bl (decide (i < j)))) := Eq.trans rfl rfl
theorem wLe_i : wLe (.int i) (.int j) P = P (.val (.bl (decide (i ≤ j)))) := Eq.trans rfl rfl
theorem wGt_i : wGt (.int i) (.int j) P = P (.val (.bl (decide (j < i)))) := Eq.trans rfl rfl
theorem wGe_i : wGe (.int i) (.int j) P = P (.val (.bl (decide (j ≤ i)))) := Eq.trans rfl rfl
theorem wLt_s : wLt (.str a) (.str b) P = P (.val (.bl (decide (a.cps.toList < b.cps.toList)))) := Eq.trans rfl rfl
theorem wGt_s : wGt (.str a) (.str b) P = P (.val (.bl (decide (b.cps.toList < a.cps.toList)))) := Eq.trans rfl rfl
theorem wEq_i : wEq (.int i) (.int j) P = P (.val (.bl (decide (i = j)))) := by unfold wEq; rw [ok_int, ok_int, eqv_int]; simp
theorem wNe_i : wNe (.int i) (.int j) P = P (.val (.bl (!decide (i = j)))) := by unfold wNe; rw [ok_int, ok_int, eqv_int]; simp
theorem wEq_s : wEq (.str a) (.str b) P = P (.val (.bl (decide (a = b)))) := by unfold wEq; rw [ok_str, ok_str, eqv_str]; simp
theorem wNe_s : wNe (.str a) (.str b) P = P (.val (.bl (!decide (a = b)))) := by unfold wNe; rw [ok_str, ok_str, eqv_str]; simp
theorem wEq_b : wEq (.bl k) (.bl k2) P = P (.val (.bl (decide (k = k2)))) := by unfold wEq; rw [ok_bl, ok_bl, eqv_bl]; simp
theorem wNe_b : wNe (.bl k) (.bl k2) P = P (.val (.bl (!decide (k = k2)))) := by unfold wNe; rw [ok_bl, ok_bl, eqv_bl]; simp
theorem wIsN_n : wIsN .non .non P = P (.val (.bl true)) := by unfold wIsN; simp [D.isNon]
theorem wNotN_n : wNotN .non .non P = P (.val (.bl false)) := by unfold wNotN; simp [D.isNon]
theorem wIsN_t : wIsN (.tup l) .non P = P (.val (.bl false)) := by unfold wIsN; simp [D.isNon]
theorem wNotN_t : wNotN (.tup l) .non P = P (.val (.bl true)) := by unfold wNotN; simp [D.isNon]
theorem wIsN_i : wIsN (.int i) .non P = P (.val (.bl false)) := by unfold wIsN; simp [D.isNon]
theorem wNotN_i : wNotN (.int i) .non P = P (.val (.bl true)) := by unfold wNotN; simp [D.isNon]
theorem wIsN_s : wIsN (.str a) .non P = P (.val (.bl false)) := by unfold wIsN; simp [D.isNon]
theorem wNotN_s : wNotN (.str a) .non P = P (.val (.bl true)) := by unfold wNotN; simp [D.isNon]
/-- an item by its place -/
def ixK (l : List D) (i : Int) (P : D → Prop) : Prop := ∃ d, atI l i = some d ∧ P d
theorem wIx_t : wIx (.tup l) (.int i) P = ixK l i fun d => P (.val d) := Eq.trans rfl rfl
theorem wIx_l : wIx (.lst l) (.int i) P = ixK l i fun d => P (.val d) := Eq.trans rfl rfl
theorem wIx_f : wIx (.fro l) (.int i) P = ixK l i fun d => P (.val d) := Eq.trans rfl rfl
theorem ixK_of {Q : D → Prop} {d : D} (h : atI l i = some d) (q : Q d) : ixK l i Q := ⟨d, h, q⟩
theorem atI_j {α : Type} {l : List α} {x : α} (n : Nat) (h : l[n]? = some x) : atI l (n : Int) = some x := atI_lt rfl h
theorem ixK_eq {l : List D} {Q : D → Prop} {n : Nat} {x : D} (h : l[n]? = some x) : ixK l (n : Int) Q = Q x := by
  unfold ixK
  rw [atI_j n h]
  simp
theorem ixK_0 {x : D} {Q : D → Prop} : ixK (x :: l) 0 Q = Q x := ixK_eq (n := 0) rfl
theorem ixK_1 {x y : D} {Q : D → Prop} : ixK (x :: y :: l) 1 Q = Q y := ixK_eq (n := 1) rfl
theorem ixK_2 {x y z : D} {Q : D → Prop} : ixK (x :: y :: z :: l) 2 Q = Q z := ixK_eq (n := 2) rfl
theorem ixK_3 {x y z u : D} {Q : D → Prop} : ixK (x :: y :: z :: u :: l) 3 Q = Q u := ixK_eq (n := 3) rfl
theorem ixK_4 {x y z u v : D} {Q : D → Prop} : ixK (x :: y :: z :: u :: v :: l) 4 Q = Q v := ixK_eq (n := 4) rfl
theorem ixK_5 {x y z u v w : D} {Q : D → Prop} : ixK (x :: y :: z :: u :: v :: w :: l) 5 Q = Q w := ixK_eq (n := 5) rfl
theorem ixK_n {l : List D} {Q : D → Prop} {n : Nat} {d : D} (h : l[n]? = some d) (e : i = (n : Nat)) (q : Q d) : ixK l i Q := ⟨d, by rw [e]; exact atI_j n h, q⟩
/-- of a dict -/
def keyK (kds : List (Key × D)) (y : D) (P : D → Prop) : Prop := ∃ k d, keyOf y = some k ∧ valD kds k = some d ∧ P d
theorem wIx_d {kds : List (Key × D)} {y : D} : wIx (.dct kds) y P = keyK kds y fun d => P (.val d) := by cases y <;> rfl
/-! what is built in -/
theorem len_t : D.len (.tup l) = some l.length := Eq.trans rfl rfl
theorem len_l : D.len (.lst l) = some l.length := Eq.trans rfl rfl
theorem len_f : D.len (.fro l) = some l.length := Eq.trans rfl rfl
theorem len_s : D.len (.str a) = some a.length := Eq.trans rfl rfl
theorem len_d {kds : List (Key × D)} : D.len (.dct kds) = some kds.length := Eq.trans rfl rfl
def lenK (o : Option Nat) (P : Int → Prop) : Prop := match o with
  | some n => P n
  | none => False
theorem lenK_s {n : Nat} {Q : Int → Prop} : lenK (some n) Q = Q n := Eq.trans rfl rfl
theorem wLen_1 {d : D} : wLen [d] P = lenK d.len fun n => P (.val (.int n)) := by
  unfold wLen lenK
  cases h : d.len <;> simp [h]
theorem wLenV_e {n : Nat} {Q : R → Nv → Prop} : wLenV n xp Γ Q = (match look Γ n with | some d => lenK d.len fun m => Q (.val (.int m)) Γ | none => False) := by
  unfold wLenV lenK
  cases h : look Γ n with
  | none => simp
  | some d => cases h2 : d.len <;> simp [h2]
theorem items_t : D.items (.tup l) = some l := Eq.trans rfl rfl
theorem items_l : D.items (.lst l) = some l := Eq.trans rfl rfl
theorem items_f : D.items (.fro l) = some l := Eq.trans rfl rfl
theorem items_s : D.items (.str a) = some (chars a) := Eq.trans rfl rfl
theorem asInt_i : D.asInt (.int i) = some i := Eq.trans rfl rfl
theorem asInt_b : D.asInt (.bl k) = some (if k then 1 else 0) := by cases k <;> rfl
theorem wIter_e {se : WE} {Q : List D → Nv → Prop} : wIter se xp Γ Q = se xp Γ fun r Γ1 => match r.d.items with | some ds => (ds.length ≤ sizeLine → Q ds Γ1) | none => False := by
  unfold wIter
  congr 1
  funext r Γ1
  cases h : r.d.items <;> simp
theorem wInt_1 {d : D} : wInt [d] P = (match d.asInt with | some i => P (.val (.int i)) | none => False) := by
  unfold wInt
  cases h : d.asInt <;> simp [h]
theorem wAbs_1 : wAbs [.int i] P = P (.val (.int (if i < 0 then -i else i))) := by unfold wAbs; simp
theorem wMax_1 : wMax2 [.int i, .int j] P = P (.val (.int (if j > i then j else i))) := by
  unfold wMax2
  exact propext ⟨fun ⟨_, _, h, p⟩ => (by cases h; exact p), fun p => ⟨_, _, rfl, p⟩⟩
theorem wMin_1 : wMin2 [.int i, .int j] P = P (.val (.int (if j < i then j else i))) := by
  unfold wMin2
  exact propext ⟨fun ⟨_, _, h, p⟩ => (by cases h; exact p), fun p => ⟨_, _, rfl, p⟩⟩
theorem wList_l : wList [.lst l] P = P (.lst l) := by unfold wList; simp
theorem wList_t : wList [.tup l] P = P (.lst l) := by unfold wList; simp
theorem wList_f : wList [.fro l] P = P (.lst l) := by unfold wList; simp
theorem wList_s : wList [.str a] P = P (.lst (chars a)) := by unfold wList; simp
theorem wTuple_l : wTuple [.lst l] P = P (.val (.tup l)) := by unfold wTuple; simp
theorem wTuple_t : wTuple [.tup l] P = P (.val (.tup l)) := by unfold wTuple; simp
theorem map_bl_inj {a b : List Bool} (h : a.map D.bl = b.map D.bl) : a = b := (List.map_inj_right fun x y h => D.bl.inj h).mp h
theorem map_int_inj {a b : List Int} (h : a.map D.int = b.map D.int) : a = b := (List.map_inj_right fun x y h => D.int.inj h).mp h
theorem wAll_1 {bs : List Bool} : wAll [.lst (bs.map D.bl)] P = P (.val (.bl (bs.all id))) := by
  unfold wAll
  refine propext ⟨fun ⟨cs, h, p⟩ => ?_, fun p => ⟨bs, rfl, p⟩⟩
  simp only [List.cons.injEq, D.lst.injEq, and_true] at h
  have e := map_bl_inj h
  subst e
  exact p
theorem wAny_1 {bs : List Bool} : wAny [.lst (bs.map D.bl)] P = P (.val (.bl (bs.any id))) := by
  unfold wAny
  refine propext ⟨fun ⟨cs, h, p⟩ => ?_, fun p => ⟨bs, rfl, p⟩⟩
  simp only [List.cons.injEq, D.lst.injEq, and_true] at h
  have e := map_bl_inj h
  subst e
  exact p
theorem wSum_1 {ns : List Int} : wSum [.lst (ns.map D.int)] P = P (.val (.int ns.sum)) := by
  unfold wSum
  refine propext ⟨fun ⟨cs, h, p⟩ => ?_, fun p => ⟨ns, .inl rfl, p⟩⟩
  simp only [List.cons.injEq, D.lst.injEq, and_true] at h
  rcases h with h | h
  · rw [map_int_inj h]
    exact p
  · simp at h
theorem wIsi_1 {d : D} {T : String} : wIsi [d, .raw (.ty T)] P = (match d.ty with | some n => (match isi n T with | some b => P (.val (.bl b)) | none => False) | none => False) := by
  unfold wIsi
  refine propext ⟨fun ⟨d', T', n, b, h, h1, h2, p⟩ => ?_, fun p => ?_⟩
  · cases h
    rw [h1]
    simp only
    rw [h2]
    exact p
  · cases h : d.ty with
    | none => rw [h] at p; exact p.elim
    | some n =>
      rw [h] at p
      simp only at p
      cases h2 : isi n T with
      | none => rw [h2] at p; exact p.elim
      | some b => rw [h2] at p; exact ⟨d, T, n, b, rfl, h, h2, p⟩
theorem ty_i : D.ty (.int i) = some "int" := Eq.trans rfl rfl
theorem ty_b : D.ty (.bl k) = some "bool" := Eq.trans rfl rfl
theorem ty_s : D.ty (.str a) = some "str" := Eq.trans rfl rfl
theorem ty_t : D.ty (.tup l) = some "tuple" := Eq.trans rfl rfl
theorem ty_l : D.ty (.lst l) = some "list" := Eq.trans rfl rfl
theorem ty_f : D.ty (.fro l) = some "list" := Eq.trans rfl rfl
theorem ty_n : D.ty .non = some "NoneType" := Eq.trans rfl rfl
theorem wNeg_i : wNeg (.int i) P = P (.val (.int (-i))) := by unfold wNeg; simp
theorem wB_e {se : WE} {Q : Bool → Nv → Prop} : wB se xp Γ Q = se xp Γ fun r Γ' => match r with | .val (.bl b) => Q b Γ' | _ => False := by
  unfold wB
  congr 1
  funext r Γ'
  cases r with
  | val d => cases d <;> simp
  | _ => simp
theorem wRng1_e {ss : WA} {Q : List D → Nv → Prop} : wRng1 ss xp Γ Q = ss xp Γ fun ds Γ1 => match ds with | [.int j] => -(2 ^ 62) ≤ j ∧ j < 2 ^ 62 ∧ Q (rng 0 j.toNat) Γ1 | _ => False := by
  unfold wRng1
  congr 1
  funext ds Γ1
  match ds with
  | [] => simp
  | [d] => cases d <;> simp
  | _ :: _ :: _ => simp
theorem wRng2_e {ss : WA} {Q : List D → Nv → Prop} : wRng2 ss xp Γ Q = ss xp Γ fun ds Γ1 => match ds with | [.int i, .int j] => (-(2 ^ 62) ≤ i ∧ i < 2 ^ 62 ∧ -(2 ^ 62) ≤ j ∧ j < 2 ^ 62) ∧ Q (rng i (j - i).toNat) Γ1 | _ => False := by
  unfold wRng2
  congr 1
  funext ds Γ1
  match ds with
  | [] => simp
  | [d] => simp
  | [d, e] =>
    cases d <;> cases e <;> try simp
    exact ⟨fun ⟨_, _, h, p⟩ => (by obtain ⟨h1, h2⟩ := h; subst h1 h2; exact p), fun p => ⟨_, _, ⟨rfl, rfl⟩, p⟩⟩
  | _ :: _ :: _ :: _ => simp
def isLst : Option (Option R) → (List D → Prop) → Prop
  | some (some (.lst l)), P => P l
  | _, _ => False
theorem isLst_e {o : Option (Option R)} {Q : List D → Prop} : (∃ l, o = some (some (.lst l)) ∧ Q l) = isLst o Q := by
  match o with
  | none => simp [isLst]
  | some none => simp [isLst]
  | some (some (.lst l)) => simp [isLst]
  | some (some (.val _)) => simp [isLst]
  | some (some (.dct _)) => simp [isLst]
  | some (some (.bx _ _ _)) => simp [isLst]
theorem isLst_l {Q : List D → Prop} : isLst (some (some (.lst l))) Q = Q l := Eq.trans rfl rfl
theorem isLst_t {o : Option (Option R)} : (∃ l, o = some (some (.lst l))) = isLst o fun _ => True := by
  rw [← isLst_e]; simp
theorem wAppend_e {n : Nat} {se : WE} {Q : R → Nv → Prop} : wAppend n se xp Γ Q = (isLst Γ[n]? (fun _ => True) ∧ se xp Γ fun r Γ2 => isLst Γ2[n]? fun l => l.length < sizeLine ∧ Q (.val .non) (Γ2.set n (some (.lst (l ++ [r.d]))))) := by
  unfold wAppend
  rw [isLst_t]
  congr 2
  funext r Γ2
  rw [isLst_e]
theorem wPop_e {n : Nat} {Q : R → Nv → Prop} : wPop n xp Γ Q = isLst Γ[n]? fun l => ∃ d, l[l.length - 1]? = some d ∧ Q (.val d) (Γ.set n (some (.lst l.dropLast))) := by
  unfold wPop
  rw [← isLst_e]
  exact propext ⟨fun ⟨l, d, h1, h2, h3⟩ => ⟨l, h1, d, h2, h3⟩, fun ⟨l, h1, d, h2, h3⟩ => ⟨l, d, h1, h2, h3⟩⟩
theorem wSetIx_e {n : Nat} {sb se : WE} {m : M} : wSetIx n sb se Γ m = se m.xp Γ fun r Γ1 => isLst Γ1[n]? (fun _ => True) ∧ sb m.xp Γ1 fun rb Γ2 => isLst Γ2[n]? fun l => match rb with | .val (.int k) => (match ixN l.length k with | some j => m.nx (Γ2.set n (some (.lst (l.set j r.d)))) | none => False) | _ => False := by
  unfold wSetIx
  congr 1
  funext r Γ1
  rw [isLst_t]
  congr 2
  funext rb Γ2
  rw [← isLst_e]
  refine propext ⟨fun ⟨l, k, j, h1, h2, h3, h4⟩ => ⟨l, h1, ?_⟩, fun ⟨l, h1, h2⟩ => ?_⟩
  · subst h2; simp [h3, h4]
  · cases rb with
    | val d => cases d with
      | int k =>
        simp only at h2
        cases h : ixN l.length k with
        | none => rw [h] at h2; exact h2.elim
        | some j => rw [h] at h2; exact ⟨l, k, j, h1, rfl, h, h2⟩
      | _ => exact h2.elim
    | _ => exact h2.elim
def look? : Option D → (D → Prop) → Prop
  | some d, P => P d
  | none, _ => False
theorem look_e {o : Option D} {Q : D → Prop} : (∃ d, o = some d ∧ Q d) = look? o Q := by cases o <;> simp [look?]
theorem look_t {o : Option D} : (∃ d, o = some d) = look? o fun _ => True := by cases o <;> simp [look?]
theorem look_s {d : D} {Q : D → Prop} : look? (some d) Q = Q d := Eq.trans rfl rfl
theorem wVB_e {n : Nat} {w : D → D → (R → Prop) → Prop} {sb : WE} {Q : R → Nv → Prop} : wVB0 n w sb xp Γ Q = (look? (look Γ n) (fun _ => True) ∧ sb xp Γ fun rb Γ2 => look? (look Γ2 n) fun d => w d rb.d fun c => Q c Γ2) := by
  unfold wVB0 wVB
  rw [look_t]
  congr 2
  funext rb Γ2
  rw [look_e]
theorem wBV_e {n : Nat} {w : D → D → (R → Prop) → Prop} {sb : WE} {Q : R → Nv → Prop} : wBV n w sb xp Γ Q = sb xp Γ fun rb Γ2 => look? (look Γ2 n) fun d => w rb.d d fun c => Q c Γ2 := by
  unfold wBV
  congr 1
  funext rb Γ2
  rw [look_e]
def isInt : Option (Option R) → D → (Int → Int → Prop) → Prop
  | some (some (.val (.int a))), .int b, P => P a b
  | _, _, _ => False
theorem isInt_i {Q : Int → Int → Prop} : isInt (some (some (.val (.int i)))) (.int j) Q = Q i j := Eq.trans rfl rfl
theorem wAugI_e {n : Nat} {f : Int → Int → Int} {se : WE} {m : M} : wAugI n f se Γ m = (look? (look Γ n) (fun _ => True) ∧ se m.xp Γ fun r Γ' => isInt Γ'[n]? r.d fun a b => m.nx (Γ'.set n (some (.val (.int (f a b)))))) := by
  unfold wAugI wAug
  rw [look_t]
  congr 2
  funext r Γ'
  refine propext ⟨fun ⟨a, h1, h2⟩ => ?_, fun h => ?_⟩
  · rw [h1]
    cases a <;> cases hr : r.d <;> rw [hr] at h2 <;> first | exact h2.2 | exact h2.elim
  · match h1 : Γ'[n]?, h2 : r.d, h with
    | some (some (.val (.int a))), .int b, h =>
      exact ⟨_, rfl, (List.getElem?_eq_some_iff.mp h1).1, h⟩
def inK (o : Option Bool) (P : Bool → Prop) : Prop := match o with
  | some k => P k
  | none => False
theorem wIn_e {neg : Bool} {x y : D} : wIn neg x y P = inK (D.inOk x y) fun k => P (.val (.bl (if neg then !k else k))) := by
  unfold wIn inK
  cases h : D.inOk x y <;> simp
theorem inK_s {Q : Bool → Prop} : inK (some k) Q = Q k := Eq.trans rfl rfl
theorem wGtup_e {n : Nat} {t : WGs} {r : R} {Q : Nv → Prop} : wGtup n t r Γ Q = (match r.d with | .tup ds => ds.length = n ∧ t ds Γ Q | _ => False) := by
  unfold wGtup
  cases h : r.d <;> simp
theorem wGcons_e {g : WG} {t : WGs} {d : D} {Q : Nv → Prop} : wGcons g t (d :: l) Γ Q = g (.val d) Γ fun Γ1 => t l Γ1 Q := by
  unfold wGcons
  refine propext ⟨fun ⟨d', r', h, p⟩ => ?_, fun p => ⟨d, l, rfl, p⟩⟩
  cases h; exact p
theorem wGnil_e {Q : Nv → Prop} : wGnil [] Γ Q = Q Γ := by unfold wGnil; simp
/-! boxes -/
def bxGo (ks : Option (List Key)) (ts : List BxC) (y : D) (P : Nat → BxC → Prop) : Prop := match bxPos ks ts.length y with
  | some j => (match ts[j]? with | some t => P j t | none => False)
  | none => False
def isBx : Option (Option R) → (Addr → Option (List Key) → List BxC → Prop) → Prop
  | some (some (.bx p ks ts)), P => P p ks ts
  | _, _ => False
theorem isBx_e {o : Option (Option R)} {Q : Addr → Option (List Key) → List BxC → Prop} : (∃ p ks ts, o = some (some (.bx p ks ts)) ∧ Q p ks ts) = isBx o Q := by
  match o with
  | none => simp [isBx]
  | some none => simp [isBx]
  | some (some (.bx p ks ts)) => exact propext ⟨fun ⟨_, _, _, h, q⟩ => (by cases h; exact q), fun q => ⟨_, _, _, rfl, q⟩⟩
  | some (some (.val _)) => simp [isBx]
  | some (some (.dct _)) => simp [isBx]
  | some (some (.lst _)) => simp [isBx]
theorem isBx_b {p : Addr} {ks : Option (List Key)} {ts : List BxC} {Q : Addr → Option (List Key) → List BxC → Prop} : isBx (some (some (.bx p ks ts))) Q = Q p ks ts := Eq.trans rfl rfl
theorem bxGo_e {ks : Option (List Key)} {ts : List BxC} {y : D} {Q : Nat → BxC → Prop} : (∃ j t, bxPos ks ts.length y = some j ∧ ts[j]? = some t ∧ Q j t) = bxGo ks ts y Q := by
  unfold bxGo
  cases h : bxPos ks ts.length y with
  | none => simp
  | some j => cases h2 : ts[j]? with
    | none => simp [h2]
    | some t => simp [h2]
theorem bxIn_e {n : Nat} {y : D} {Q : Addr → Option (List Key) → List BxC → Nat → BxC → Prop} : bxIn Γ n y Q = isBx Γ[n]? fun p ks ts => bxGo ks ts y (Q p ks ts) := by
  unfold bxIn
  rw [← isBx_e]
  refine propext ⟨fun ⟨p, ks, ts, j, t, h1, h2, h3, h4⟩ => ⟨p, ks, ts, h1, ?_⟩, fun ⟨p, ks, ts, h1, h2⟩ => ?_⟩
  · rw [← bxGo_e]; exact ⟨j, t, h2, h3, h4⟩
  · rw [← bxGo_e] at h2
    obtain ⟨j, t, h3, h4, h5⟩ := h2
    exact ⟨p, ks, ts, j, t, h1, h3, h4, h5⟩
theorem bxPos_i {n : Nat} : bxPos none n (.int i) = ixN n i := Eq.trans rfl rfl
theorem wBIx_e {n : Nat} {sb : WE} {Q : R → Nv → Prop} : wBIx n sb xp Γ Q = (isBx Γ[n]? (fun _ _ _ => True) ∧ sb xp Γ fun rb Γ2 => bxIn Γ2 n rb.d fun _ _ _ _ t => Q (.val t.v) Γ2) := by
  unfold wBIx
  rw [← isBx_e]
  congr 1
  · simp
theorem wBSet_e {n : Nat} {sb se : WE} {m : M} : wBSet n sb se Γ m = se m.xp Γ fun r Γ1 => isBx Γ1[n]? (fun _ _ _ => True) ∧ sb m.xp Γ1 fun rb Γ2 => bxIn Γ2 n rb.d fun p ks ts j t => match ks, t with | none, .lf _ => m.nx (Γ2.set n (some (.bx p none (ts.set j (.lf r.d))))) | _, _ => False := by
  unfold wBSet
  congr 1
  funext r Γ1
  rw [← isBx_e]
  congr 1
  · simp
  · congr 1
    funext rb Γ2
    congr 1
    funext p ks ts j t
    cases ks <;> cases t <;> simp
def lsK : BxC → (Addr → List D → Prop) → Prop
  | .ls q l, P => P q l
  | _, _ => False
theorem lsK_e {t : BxC} {Q : Addr → List D → Prop} : (∃ q l, t = .ls q l ∧ Q q l) = lsK t Q := by
  cases t with
  | ls q l => exact propext ⟨fun ⟨_, _, h, p⟩ => (by cases h; exact p), fun p => ⟨_, _, rfl, p⟩⟩
  | _ => simp [lsK]
theorem lsK_l {q : Addr} {Q : Addr → List D → Prop} : lsK (.ls q l) Q = Q q l := Eq.trans rfl rfl
theorem wBAppend_e {n : Nat} {cd : D} {se : WE} {Q : R → Nv → Prop} : wBAppend n cd se xp Γ Q = bxIn Γ n cd fun _ _ _ _ t => lsK t fun q _ => se xp Γ fun r Γ2 => bxIn Γ2 n cd fun p ks ts j t => lsK t fun q' l => q' = q ∧ l.length < sizeLine ∧ Q (.val .non) (Γ2.set n (some (.bx p ks (ts.set j (.ls q (l ++ [r.d])))))) := by
  unfold wBAppend
  congr 1
  funext _ _ _ _ t
  rw [← lsK_e]
  congr 1; funext q; congr 1; funext l0; congr 2
  funext r Γ2
  congr 1
  funext p ks ts j t
  rw [← lsK_e]
  refine propext ⟨fun ⟨l, h1, h2, h3⟩ => ⟨q, l, h1, rfl, h2, h3⟩, fun ⟨q', l, h1, h2, h3, h4⟩ => ?_⟩
  subst h2
  exact ⟨l, h1, h3, h4⟩
theorem wBPop_e {n : Nat} {cd : D} {Q : R → Nv → Prop} : wBPop n cd xp Γ Q = bxIn Γ n cd fun p ks ts j t => lsK t fun q l => ∃ d, l[l.length - 1]? = some d ∧ Q (.val d) (Γ.set n (some (.bx p ks (ts.set j (.ls q l.dropLast))))) := by
  unfold wBPop
  congr 1
  funext p ks ts j t
  rw [← lsK_e]
  refine propext ⟨fun ⟨q, l, d, h1, h2, h3⟩ => ⟨q, l, h1, d, h2, h3⟩, fun ⟨q, l, h1, d, h2, h3⟩ => ⟨q, l, d, h1, h2, h3⟩⟩
theorem wBPopAt_e {n : Nat} {cd : D} {z : Int} {Q : R → Nv → Prop} : wBPopAt n cd z xp Γ Q = bxIn Γ n cd fun p ks ts j t => lsK t fun q l => ∃ d m, ixN l.length z = some m ∧ l[m]? = some d ∧ Q (.val d) (Γ.set n (some (.bx p ks (ts.set j (.ls q (l.eraseIdx m)))))) := by
  unfold wBPopAt
  congr 1
  funext p ks ts j t
  rw [← lsK_e]
  refine propext ⟨fun ⟨q, l, d, m, h1, h2, h3⟩ => ⟨q, l, h1, d, m, h2, h3⟩, fun ⟨q, l, h1, d, m, h2, h3⟩ => ⟨q, l, d, m, h1, h2, h3⟩⟩
theorem wBInsert_e {n : Nat} {cd : D} {z : Int} {se : WE} {Q : R → Nv → Prop} : wBInsert n cd z se xp Γ Q = bxIn Γ n cd fun _ _ _ _ t => lsK t fun q _ => se xp Γ fun r Γ2 => bxIn Γ2 n cd fun p ks ts j t => lsK t fun q' l => q' = q ∧ l.length < sizeLine ∧ Q (.val .non) (Γ2.set n (some (.bx p ks (ts.set j (.ls q (l.take z.toNat ++ [r.d] ++ l.drop z.toNat)))))) := by
  unfold wBInsert
  congr 1
  funext _ _ _ _ t
  rw [← lsK_e]
  congr 1; funext q; congr 1; funext l0; congr 2
  funext r Γ2
  congr 1
  funext p ks ts j t
  rw [← lsK_e]
  refine propext ⟨fun ⟨l, h1, h2, h3⟩ => ⟨q, l, h1, rfl, h2, h3⟩, fun ⟨q', l, h1, h2, h3, h4⟩ => ?_⟩
  subst h2
  exact ⟨l, h1, h3, h4⟩
def refK : BxC → (Addr → Prop) → Prop
  | .ls q _, P => P q
  | .dc q _, P => P q
  | _, _ => False
theorem refK_e {t : BxC} {Q : Addr → Prop} : (∃ q, t.v = .raw (.ref q) ∧ t.ad = [q] ∧ Q q) = refK t Q := by
  cases t with
  | lf d => simp [refK, BxC.ad]
  | ls q l => exact propext ⟨fun ⟨_, _, h, p⟩ => (by cases h; exact p), fun p => ⟨_, rfl, rfl, p⟩⟩
  | dc q l => exact propext ⟨fun ⟨_, _, h, p⟩ => (by cases h; exact p), fun p => ⟨_, rfl, rfl, p⟩⟩
theorem refK_l {q : Addr} {Q : Addr → Prop} : refK (.ls q l) Q = Q q := Eq.trans rfl rfl
theorem wBLen_e {n : Nat} {cd : D} {Q : R → Nv → Prop} : wBLen n cd xp Γ Q = bxIn Γ n cd fun _ _ _ _ t => refK t fun q => lenK t.r.s.len fun z => Q (.val (.int z)) Γ := by
  unfold wBLen
  congr 1
  funext p ks ts j t
  rw [← refK_e]
  congr 1; funext q
  unfold lenK
  cases h : t.r.s.len <;> simp
theorem wBIx2_e {n : Nat} {cd : D} {sb : WE} {Q : R → Nv → Prop} : wBIx2 n cd sb xp Γ Q = bxIn Γ n cd fun _ _ _ _ t => refK t fun q => sb xp Γ fun rb Γ2 => bxIn Γ2 n cd fun _ _ _ _ t => t.ad = [q] ∧ wIx t.r.s rb.d fun r => Q r Γ2 := by
  unfold wBIx2
  congr 1
  funext p ks ts j t
  rw [← refK_e]
theorem bxv_lf {d : D} : BxC.v (.lf d) = d := Eq.trans rfl rfl
theorem bxr_ls {q : Addr} : BxC.r (.ls q l) = .lst l := Eq.trans rfl rfl
theorem bxr_dc {q : Addr} {l : List (Key × D)} : BxC.r (.dc q l) = .dct l := Eq.trans rfl rfl
theorem bxa_ls {q : Addr} : BxC.ad (.ls q l) = [q] := Eq.trans rfl rfl
theorem bxa_lf {d : D} : BxC.ad (.lf d) = [] := Eq.trans rfl rfl
theorem Rd_v {d : D} : R.d (.val d) = d := Eq.trans rfl rfl
theorem Rd_l : R.d (.lst l) = .lst l := Eq.trans rfl rfl
theorem Rd_d {l : List (Key × D)} : R.d (.dct l) = .dct l := Eq.trans rfl rfl
theorem Rs_v {d : D} : R.s (.val d) = d := Eq.trans rfl rfl
theorem Rs_l : R.s (.lst l) = .lst l := Eq.trans rfl rfl
theorem Rs_d {l : List (Key × D)} : R.s (.dct l) = .dct l := Eq.trans rfl rfl
theorem bxK_n {k : List BxC → Prop} : bxK [] k = k [] := Eq.trans rfl rfl
theorem bxK_v {d : D} {rs : List R} {k : List BxC → Prop} : bxK (.val d :: rs) k = bxK rs fun ts => k (.lf d :: ts) := Eq.trans rfl rfl
theorem bxK_l {rs : List R} {k : List BxC → Prop} : bxK (.lst l :: rs) k = ∀ q, bxK rs fun ts => k (.ls q l :: ts) := Eq.trans rfl rfl
theorem wSl_t {lo hi : Option Int} : wSl (.tup l) lo hi P = P (.val (.tup (cutL l lo hi))) := Eq.trans rfl rfl
theorem wSl_l {lo hi : Option Int} : wSl (.lst l) lo hi P = P (.lst (cutL l lo hi)) := Eq.trans rfl rfl
theorem wSl_f {lo hi : Option Int} : wSl (.fro l) lo hi P = P (.lst (cutL l lo hi)) := Eq.trans rfl rfl
theorem wSl_s {lo hi : Option Int} : wSl (.str a) lo hi P = P (.val (.str (cutS a lo hi))) := Eq.trans rfl rfl
theorem mrt {g : Nv → Prop} : (mT g).rt = isT := Eq.trans rfl rfl
theorem mnx {g : Nv → Prop} : (mT g).nx = g := Eq.trans rfl rfl
theorem isT_e {b : Bool} : isT (.val (.bl b)) Γ = (b = true) := by unfold isT; simp
theorem wPt_e {se : WE} {Q : Option Int → Nv → Prop} : wPt se xp Γ Q = se xp Γ fun r Γ' => match r with | .val (.int i) => Q (some i) Γ' | _ => False := by
  unfold wPt
  congr 1
  funext r Γ'
  cases r with
  | val d => cases d <;> simp
  | _ => simp
theorem wSliceV_e {n : Nat} {lo hi : WP} {Q : R → Nv → Prop} : wSliceV n lo hi xp Γ Q = (look? (look Γ n) (fun _ => True) ∧ lo xp Γ fun l Γ2 => hi xp Γ2 fun u Γ3 => look? (look Γ3 n) fun d => wSl d l u fun c => Q c Γ3) := by
  unfold wSliceV
  rw [look_t]
  congr 2
  funext l Γ2
  congr 1
  funext u Γ3
  rw [look_e]
theorem cmulR (h1 : -(2 ^ 64) < j) (h2 : j < 2 ^ 64) : CMul i j := .inr ⟨h1, h2⟩
theorem cmulL (h1 : -(2 ^ 64) < i) (h2 : i < 2 ^ 64) : CMul i j := .inl ⟨h1, h2⟩
theorem szL {n : Nat} (h : n ≤ 16777216) : (n ≤ sizeLine) = True := by rw [sizeLine_eq]; exact eq_true h
theorem szL' {n : Nat} (h : n < 16777216) : (n < sizeLine) = True := by rw [sizeLine_eq]; exact eq_true h
theorem sz {n : Nat} (h : n ≤ 16777216) : n ≤ sizeLine := by rw [sizeLine_eq]; exact h
theorem sz' {n : Nat} (h : n < 16777216) : n < sizeLine := by rw [sizeLine_eq]; exact h
theorem cutL_map {α β : Type} (f : α → β) (l : List α) (lo hi : Option Int) : cutL (l.map f) lo hi = (cutL l lo hi).map f := by
  unfold cutL
  rw [List.length_map, List.map_take, List.map_drop]
theorem cutL_len {α : Type} (l : List α) (lo hi : Option Int) : (cutL l lo hi).length ≤ l.length := by
  unfold cutL
  rw [List.length_take, List.length_drop]
  omega
theorem map_get {α β : Type} {f : α → β} {l : List α} {n : Nat} {d : β} (h : (l.map f)[n]? = some d) : ∃ x, l[n]? = some x ∧ d = f x := by
  rw [List.getElem?_map] at h
  cases e : l[n]? with
  | none => rw [e] at h; cases h
  | some x => rw [e] at h; exact ⟨x, rfl, by simpa using h.symm⟩
theorem flat1 {α β : Type} (f : α → β) : ∀ l : List α, (l.map fun x => [f x]).flatten = l.map f
  | [] => rfl
  | x :: l => by simp [flat1 f l]
theorem flatF {α β : Type} (p : α → Bool) (f : α → β) : ∀ l : List α, (l.map fun x => if p x = true then [f x] else []).flatten = (l.filter p).map f
  | [] => rfl
  | x :: l => by
    rw [List.map_cons, List.flatten_cons, flatF p f l, List.filter_cons]
    split <;> simp
/-- a comprehension over a list, each turn f x, where p x -/
theorem wLcL_lst {α : Type} {g : WG} {tt : WT} {se : WE} {vs : List Nat} (l : List α) (c : α → D) (p : α → Bool) (f : α → D) {Q : List D → Nv → Prop}
    (step : ∀ (x : α) (acc : List D) (k : List D → Nv → Prop), x ∈ l → k (acc ++ if p x = true then [f x] else []) Γ →
      g (.val (c x)) Γ fun Γ2 => tt (fun _ _ => False) Γ2 fun b Γ3 => if b = true then se (fun _ _ => False) Γ3 fun r Γ4 => k (acc ++ [r.d]) (wipeG Γ4 vs) else k acc (wipeG Γ3 vs))
    (fin : Q ((l.filter p).map f) Γ) : wLcL g tt se vs (l.map c) [] Γ Q := by
  refine wLcL_run (fun i acc Γ' => Γ' = Γ ∧ acc = ((l.take i).map fun x => if p x = true then [f x] else []).flatten) (fun i d acc Γ' k hd hi hk => ?_) (fun acc Γ' hi => ?_) ⟨rfl, rfl⟩
  · obtain ⟨rfl, rfl⟩ := hi
    obtain ⟨x, hx, rfl⟩ := map_get hd
    refine step x _ k (List.mem_of_getElem? hx) (hk _ _ ⟨rfl, ?_⟩)
    rw [List.take_add_one, hx]
    simp
  · obtain ⟨rfl, rfl⟩ := hi
    rw [List.length_map, List.take_length, flatF]
    exact fin
theorem rng_map (lo : Int) (n : Nat) : rng lo n = (List.range n).map fun i => D.int (lo + (i : Nat)) := Eq.trans rfl rfl
theorem wLcL_rngF {g : WG} {tt : WT} {se : WE} {vs : List Nat} {lo : Int} {n : Nat} (p : Nat → Bool) (f : Nat → D) {Q : List D → Nv → Prop}
    (step : ∀ (x : Nat) (acc : List D) (k : List D → Nv → Prop), x < n → k (acc ++ if p x = true then [f x] else []) Γ →
      g (.val (.int (lo + (x : Nat)))) Γ fun Γ2 => tt (fun _ _ => False) Γ2 fun b Γ3 => if b = true then se (fun _ _ => False) Γ3 fun r Γ4 => k (acc ++ [r.d]) (wipeG Γ4 vs) else k acc (wipeG Γ3 vs))
    (fin : Q (((List.range n).filter p).map f) Γ) : wLcL g tt se vs (rng lo n) [] Γ Q :=
  wLcL_lst (List.range n) _ p f (fun x acc k hx => step x acc k (List.mem_range.mp hx)) fin
theorem wLcL_rng {g : WG} {tt : WT} {se : WE} {vs : List Nat} {lo : Int} {n : Nat} (f : Nat → D) {Q : List D → Nv → Prop}
    (step : ∀ (x : Nat) (acc : List D) (k : List D → Nv → Prop), x < n → k (acc ++ [f x]) Γ →
      g (.val (.int (lo + (x : Nat)))) Γ fun Γ2 => tt (fun _ _ => False) Γ2 fun b Γ3 => if b = true then se (fun _ _ => False) Γ3 fun r Γ4 => k (acc ++ [r.d]) (wipeG Γ4 vs) else k acc (wipeG Γ3 vs))
    (fin : Q ((List.range n).map f) Γ) : wLcL g tt se vs (rng lo n) [] Γ Q :=
  wLcL_rngF (fun _ => true) f (fun x acc k hx h => step x acc k hx (by simpa using h)) (by simpa [List.filter_eq_self.mpr] using fin)
theorem cutL_drop {α : Type} (l : List α) (b : Nat) : cutL l (some (b : Int)) none = l.drop b := by
  unfold cutL
  rw [HT.sIx_nat l.length 0 b, HT.sIx_none]
  by_cases h : b ≤ l.length
  · rw [Nat.min_eq_left h, List.take_of_length_le]
    rw [List.length_drop]
    omega
  · rw [Nat.min_eq_right (by omega), Nat.sub_self, List.take_zero, List.drop_eq_nil_of_le (by omega)]
theorem cutL_take {α : Type} (l : List α) (b : Nat) : cutL l none (some (b : Int)) = l.take b := by
  unfold cutL
  rw [HT.sIx_nat l.length l.length b, HT.sIx_none, List.drop_zero, Nat.sub_zero]
  by_cases h : b ≤ l.length
  · rw [Nat.min_eq_left h]
  · rw [Nat.min_eq_right (by omega), List.take_length, List.take_of_length_le (by omega)]
theorem valD_app {x y : List (Key × D)} {k : Key} : (valD (x ++ y) k).isSome = ((valD x k).isSome || (valD y k).isSome) := by
  unfold valD
  rw [List.find?_append]
  cases List.find? (fun kv => decide (kv.1 = k)) x <;> simp
theorem valD_any {x : List (Key × D)} {k : Key} : (valD x k).isSome = x.any fun kv => decide (kv.1 = k) := by
  unfold valD
  rw [Option.isSome_map, Bool.eq_iff_iff, List.find?_isSome, List.any_eq_true]
theorem putD_val {kds : List (Key × D)} {k : Key} {d : D} (k2 : Key) : (valD (putD kds k d) k2).isSome = ((valD kds k2).isSome || decide (k2 = k)) := by
  rw [valD_any, valD_any]
  unfold putD
  split
  · rename_i h
    rw [List.any_map]
    have e : ((fun kv : Key × D => decide (kv.1 = k2)) ∘ fun kv => if kv.1 = k then (kv.1, d) else kv) = fun kv => decide (kv.1 = k2) := by
      funext kv
      simp only [Function.comp]
      split <;> rfl
    rw [e]
    by_cases h2 : k2 = k
    · subst h2; simp [h]
    · simp [h2]
  · rw [List.any_append]
    by_cases h2 : k2 = k
    · subst h2; simp
    · simp [h2, Ne.symm h2]
/-- as wLcL_lst, the names as G tells -/
theorem wLcL_lstG {α : Type} {g : WG} {tt : WT} {se : WE} {vs : List Nat} (G : Nv → Prop) (l : List α) (c : α → D) (p : α → Bool) (f : α → D) {Q : List D → Nv → Prop}
    (step : ∀ (x : α) (acc : List D) (Γ : Nv) (k : List D → Nv → Prop), x ∈ l → G Γ → (∀ Γ', G Γ' → k (acc ++ if p x = true then [f x] else []) Γ') →
      g (.val (c x)) Γ fun Γ2 => tt (fun _ _ => False) Γ2 fun b Γ3 => if b = true then se (fun _ _ => False) Γ3 fun r Γ4 => k (acc ++ [r.d]) (wipeG Γ4 vs) else k acc (wipeG Γ3 vs))
    (fin : ∀ Γ, G Γ → Q ((l.filter p).map f) Γ) (h0 : G Γ) : wLcL g tt se vs (l.map c) [] Γ Q := by
  refine wLcL_run (fun i acc Γ' => G Γ' ∧ acc = ((l.take i).map fun x => if p x = true then [f x] else []).flatten) (fun i d acc Γ' k hd hi hk => ?_) (fun acc Γ' hi => ?_) ⟨h0, rfl⟩
  · obtain ⟨hG, rfl⟩ := hi
    obtain ⟨x, hx, rfl⟩ := map_get hd
    refine step x _ Γ' k (List.mem_of_getElem? hx) hG fun Γ2 h2 => hk _ _ ⟨h2, ?_⟩
    rw [List.take_add_one, hx]
    simp
  · obtain ⟨hG, rfl⟩ := hi
    rw [List.length_map, List.take_length, flatF]
    exact fin Γ' hG
theorem wLcL_rngG {g : WG} {tt : WT} {se : WE} {vs : List Nat} (G : Nv → Prop) {lo : Int} {n : Nat} (p : Nat → Bool) (f : Nat → D) {Q : List D → Nv → Prop}
    (step : ∀ (x : Nat) (acc : List D) (Γ : Nv) (k : List D → Nv → Prop), x < n → G Γ → (∀ Γ', G Γ' → k (acc ++ if p x = true then [f x] else []) Γ') →
      g (.val (.int (lo + (x : Nat)))) Γ fun Γ2 => tt (fun _ _ => False) Γ2 fun b Γ3 => if b = true then se (fun _ _ => False) Γ3 fun r Γ4 => k (acc ++ [r.d]) (wipeG Γ4 vs) else k acc (wipeG Γ3 vs))
    (fin : ∀ Γ, G Γ → Q (((List.range n).filter p).map f) Γ) (h0 : G Γ) : wLcL g tt se vs (rng lo n) [] Γ Q :=
  wLcL_lstG G (List.range n) _ p f (fun x acc Γ k hx => step x acc Γ k (List.mem_range.mp hx)) fin h0
/-- every turn makes one item, of which E tells -/
theorem wLcL_each {α : Type} {g : WG} {tt : WT} {se : WE} {vs : List Nat} (G : Nv → Prop) (E : D → Prop) (l : List α) (c : α → D) {Q : List D → Nv → Prop}
    (step : ∀ (x : α) (acc : List D) (Γ : Nv) (k : List D → Nv → Prop), x ∈ l → G Γ → (∀ d Γ', E d → G Γ' → k (acc ++ [d]) Γ') →
      g (.val (c x)) Γ fun Γ2 => tt (fun _ _ => False) Γ2 fun b Γ3 => if b = true then se (fun _ _ => False) Γ3 fun r Γ4 => k (acc ++ [r.d]) (wipeG Γ4 vs) else k acc (wipeG Γ3 vs))
    (fin : ∀ acc Γ, acc.length = l.length → (∀ d ∈ acc, E d) → G Γ → Q acc Γ) (h0 : G Γ) : wLcL g tt se vs (l.map c) [] Γ Q := by
  refine wLcL_run (fun i acc Γ' => G Γ' ∧ acc.length = i ∧ ∀ d ∈ acc, E d) (fun i d acc Γ' k hd hi hk => ?_) (fun acc Γ' hi => ?_) ⟨h0, rfl, fun d hd => by simp at hd⟩
  · obtain ⟨hG, hl, hE⟩ := hi
    obtain ⟨x, hx, rfl⟩ := map_get hd
    refine step x _ Γ' k (List.mem_of_getElem? hx) hG fun d Γ2 he h2 => hk _ _ ⟨h2, by simp [hl], fun e hm => ?_⟩
    rcases List.mem_append.mp hm with z | z
    · exact hE e z
    · simp at z; subst z; exact he
  · obtain ⟨hG, hl, hE⟩ := hi
    exact fin acc Γ' (by simpa using hl) hE hG
theorem wLcL_eachR {g : WG} {tt : WT} {se : WE} {vs : List Nat} {lo : Int} {n : Nat} (G : Nv → Prop) (E : D → Prop) {Q : List D → Nv → Prop}
    (step : ∀ (x : Nat) (acc : List D) (Γ : Nv) (k : List D → Nv → Prop), x < n → G Γ → (∀ d Γ', E d → G Γ' → k (acc ++ [d]) Γ') →
      g (.val (.int (lo + (x : Nat)))) Γ fun Γ2 => tt (fun _ _ => False) Γ2 fun b Γ3 => if b = true then se (fun _ _ => False) Γ3 fun r Γ4 => k (acc ++ [r.d]) (wipeG Γ4 vs) else k acc (wipeG Γ3 vs))
    (fin : ∀ acc Γ, acc.length = n → (∀ d ∈ acc, E d) → G Γ → Q acc Γ) (h0 : G Γ) : wLcL g tt se vs (rng lo n) [] Γ Q :=
  wLcL_each G E (List.range n) _ (fun x acc Γ k hx => step x acc Γ k (List.mem_range.mp hx)) (fun acc Γ h => fin acc Γ (by simpa using h)) h0
theorem all_bls : ∀ {l : List D}, (∀ d ∈ l, ∃ b, d = .bl b) → ∃ bs : List Bool, l = bs.map D.bl
  | [], _ => ⟨[], rfl⟩
  | d :: l, h => by
    obtain ⟨b, rfl⟩ := h d (by simp)
    obtain ⟨bs, rfl⟩ := all_bls (l := l) fun e he => h e (by simp [he])
    exact ⟨b :: bs, rfl⟩
theorem all_ints : ∀ {l : List D}, (∀ d ∈ l, ∃ b, d = .int b) → ∃ bs : List Int, l = bs.map D.int
  | [], _ => ⟨[], rfl⟩
  | d :: l, h => by
    obtain ⟨b, rfl⟩ := h d (by simp)
    obtain ⟨bs, rfl⟩ := all_ints (l := l) fun e he => h e (by simp [he])
    exact ⟨b :: bs, rfl⟩
/-- how a def's body ends -/
abbrev mR (rt : R → Prop) (xp : XD → Prop) : M := { nx := fun _ => rt (.val .non), rt := fun r _ => rt r, xp := fun x _ => xp x }
theorem gShut_i {C : Option (List Key) → List BxC → Prop} {n : Nat} {s : WS} {r : R} {Γ' : Nv} (h : Γ[n]? = some (some r)) (c : stOf C r) (e : Γ.set n (some (.val .tok)) = Γ') (k : s Γ' { nx := fun _ => False, rt := isT }) : gShut C n s Γ := ⟨r, h, c, by rw [e]; exact k⟩
theorem wSeq_e {s t : WS} {m : M} : wSeq s t Γ m = s Γ { nx := fun Γ' => t Γ' m, rt := m.rt, xp := m.xp, bk := m.bk, ct := m.ct } := Eq.trans rfl rfl
end
/-! the meanings, by equations whose proof is no mere unfolding (the kernel then compares no bodies) -/
theorem wVar_q : type_of% @wVar.eq_1 := by intros; exact Eq.trans (by rw [wVar.eq_1]) rfl
theorem wC_q : type_of% @wC.eq_1 := by intros; exact Eq.trans (by rw [wC.eq_1]) rfl
theorem wBin_q : type_of% @wBin.eq_1 := by intros; exact Eq.trans (by rw [wBin.eq_1]) rfl
theorem wUn_q : type_of% @wUn.eq_1 := by intros; exact Eq.trans (by rw [wUn.eq_1]) rfl
theorem wAnd_q : type_of% @wAnd.eq_1 := by intros; exact Eq.trans (by rw [wAnd.eq_1]) rfl
theorem wOr_q : type_of% @wOr.eq_1 := by intros; exact Eq.trans (by rw [wOr.eq_1]) rfl
theorem wNot_q : type_of% @wNot.eq_1 := by intros; exact Eq.trans (by rw [wNot.eq_1]) rfl
theorem wAndV_q : type_of% @wAndV.eq_1 := by intros; exact Eq.trans (by rw [wAndV.eq_1]) rfl
theorem wOrV_q : type_of% @wOrV.eq_1 := by intros; exact Eq.trans (by rw [wOrV.eq_1]) rfl
theorem wNotV_q : type_of% @wNotV.eq_1 := by intros; exact Eq.trans (by rw [wNotV.eq_1]) rfl
theorem wIfE_q : type_of% @wIfE.eq_1 := by intros; exact Eq.trans (by rw [wIfE.eq_1]) rfl
theorem wChain_q : type_of% @wChain.eq_1 := by intros; exact Eq.trans (by rw [wChain.eq_1]) rfl
theorem wNil_q : type_of% @wNil.eq_1 := by intros; exact Eq.trans (by rw [wNil.eq_1]) rfl
theorem wCons_q : type_of% @wCons.eq_1 := by intros; exact Eq.trans (by rw [wCons.eq_1]) rfl
theorem wTup_q : type_of% @wTup.eq_1 := by intros; exact Eq.trans (by rw [wTup.eq_1]) rfl
theorem wLst_q : type_of% @wLst.eq_1 := by intros; exact Eq.trans (by rw [wLst.eq_1]) rfl
theorem wCB_q : type_of% @wCB.eq_1 := by intros; exact Eq.trans (by rw [wCB.eq_1]) rfl
theorem bxGo_q : type_of% @bxGo.eq_1 := by intros; exact Eq.trans (by rw [bxGo.eq_1]) rfl
theorem wN_q : type_of% @wN.eq_1 := by intros; exact Eq.trans (by rw [wN.eq_1]) rfl
theorem wNext_q : type_of% @wNext.eq_1 := by intros; exact Eq.trans (by rw [wNext.eq_1]) rfl
theorem wSeq_q : type_of% @wSeq.eq_1 := by intros; exact Eq.trans (by rw [wSeq.eq_1]) rfl
theorem wBrk_q : type_of% @wBrk.eq_1 := by intros; exact Eq.trans (by rw [wBrk.eq_1]) rfl
theorem wCt_q : type_of% @wCt.eq_1 := by intros; exact Eq.trans (by rw [wCt.eq_1]) rfl
theorem wDrop_q : type_of% @wDrop.eq_1 := by intros; exact Eq.trans (by rw [wDrop.eq_1]) rfl
theorem wRet_q : type_of% @wRet.eq_1 := by intros; exact Eq.trans (by rw [wRet.eq_1]) rfl
theorem wMov_q : type_of% @wMov.eq_1 := by intros; exact Eq.trans (by rw [wMov.eq_1]) rfl
theorem wRetN_q : type_of% @wRetN.eq_1 := by intros; exact Eq.trans (by rw [wRetN.eq_1]) rfl
theorem wSet_q : type_of% @wSet.eq_1 := by intros; exact Eq.trans (by rw [wSet.eq_1]) rfl
theorem wAsg_q : type_of% @wAsg.eq_1 := by intros; exact Eq.trans (by rw [wAsg.eq_1]) rfl
theorem wIf_q : type_of% @wIf.eq_1 := by intros; exact Eq.trans (by rw [wIf.eq_1]) rfl
theorem wForS_q : type_of% @wForS.eq_1 := by intros; exact Eq.trans (by rw [wForS.eq_1]) rfl
theorem look_q : type_of% @look.eq_1 := by intros; exact Eq.trans (by rw [look.eq_1]) rfl
theorem wNoP_q : type_of% @wNoP.eq_1 := by intros; exact Eq.trans (by rw [wNoP.eq_1]) rfl
theorem wSlice_q : type_of% @wSlice.eq_1 := by intros; exact Eq.trans (by rw [wSlice.eq_1]) rfl
theorem wLc_q : type_of% @wLc.eq_1 := by intros; exact Eq.trans (by rw [wLc.eq_1]) rfl
theorem wYes_q : type_of% @wYes.eq_1 := by intros; exact Eq.trans (by rw [wYes.eq_1]) rfl
theorem wPar_q : type_of% @wPar.eq_1 := by intros; exact Eq.trans (by rw [wPar.eq_1]) rfl
theorem wFn_q : type_of% @wFn.eq_1 := by intros; exact Eq.trans (by rw [wFn.eq_1]) rfl
theorem wCall_q : type_of% @wCall.eq_1 := by intros; exact Eq.trans (by rw [wCall.eq_1]) rfl
theorem wFnK_q : type_of% @wFnK.eq_1 := by intros; exact Eq.trans (by rw [wFnK.eq_1]) rfl
theorem wFnK0_q : type_of% @wFnK0.eq_1 := by intros; exact Eq.trans (by rw [wFnK0.eq_1]) rfl
theorem wCallK_q : type_of% @wCallK.eq_1 := by intros; exact Eq.trans (by rw [wCallK.eq_1]) rfl
theorem pk_q : type_of% @pk.eq_1 := by intros; exact Eq.trans (by rw [pk.eq_1]) rfl
theorem wBox_q : type_of% @wBox.eq_1 := by intros; exact Eq.trans (by rw [wBox.eq_1]) rfl
theorem wONil_q : type_of% @wONil.eq_1 := by intros; exact Eq.trans (by rw [wONil.eq_1]) rfl
theorem wOCons_q : type_of% @wOCons.eq_1 := by intros; exact Eq.trans (by rw [wOCons.eq_1]) rfl
theorem ini_q : type_of% @ini.eq_1 := by intros; exact Eq.trans (by rw [ini.eq_1]) rfl
theorem mT_q : type_of% @mT.eq_1 := by intros; exact Eq.trans (by rw [mT.eq_1]) rfl
end DL

set_option maxHeartbeats 1000000
namespace DL
open PySem PySem.Spec L2

/-! ### methods of values -/
def tyD (T : String) (d : D) : Prop := (T = "str" ∧ ∃ x, d = .str x) ∨ (T = "list" ∧ ((∃ l, d = .lst l) ∨ ∃ l, d = .fro l)) ∨ (T = "dict" ∧ ∃ l, d = .dct l)
def MtS (K : PySem.W.Frag) (S : SK) (r : V → List V → Hp → VK → Prop) (w : D → List D → (R → Prop) → Prop) : Prop := ∀ {B : Bs} {Hs : Hp} {Δ : List R} {δ : List V} {Γ : Nv} {σ : L2.St} {H : Hp} {p1 p2 : List Addr} {x : V} {vs : List V} {a : D} {ds : List D} {P : R → Prop} {Q : VK},
  RepI K S B Hs Δ δ Γ σ H p1 p2 → Den K B.tk Hs x a → DenAll K B.tk Hs vs ds → w a ds P → (∀ v H' c, Rep K S B (c :: Δ) (v :: δ) Γ σ H' → P c → Q v H') → r x vs H Q
/-- o.m(..) -/
def wMeth (T : String) (w : D → List D → (R → Prop) → Prop) (so : WE) (ss : WA) : WE := fun xp Γ P => so xp Γ fun ra Γ1 => tyD T ra.d ∧ ss xp Γ1 fun ds Γ2 => w ra.d ds fun c => P c Γ2
section
variable {X : Cx} {S : SK} {W : WX} {o e : Expr} {es : List Expr} {so : WE} {ss : WA} {name : Str} {apos cpos : Pos} {T id : String} {r : V → List V → Hp → VK → Prop} {w : D → List D → (R → Prop) → Prop}
theorem tyD_v {K : PySem.W.Frag} {B : Bs} {Hs H : Hp} {Δ : List R} {δ : List V} {Γ : Nv} {σ : L2.St} {p1 p2 : List Addr} {x : V} {d : D} (I : RepI K S B Hs Δ δ Γ σ H p1 p2) (h : Den K B.tk Hs x d) (t : tyD T d) : tyV K T x H := by
  rcases t with ⟨rfl, z, rfl⟩ | ⟨rfl, ⟨l, rfl⟩ | ⟨l, rfl⟩⟩ | ⟨rfl, l, rfl⟩
  · cases h; rfl
  · cases h with | lst h1 _ => exact .inl ⟨rfl, _, .inl (.inl (I.sub _ _ h1))⟩
  · cases h with | fro h1 _ => exact .inl ⟨rfl, _, I.sqL h1⟩
  · cases h with | dct h1 _ => exact .inr (.inr (.inl ⟨rfl, .inl ⟨_, I.sub _ _ h1⟩⟩))
theorem meth_run (hw : MtS X.K S r w) {σ : L2.St} {H : Hp} {Q : VK} (h : DE X.K S X.mg W (wMeth T w so ss) σ H Q) : tBM X.K T r (DE X.K S X.mg W so) (DA X.K S X.mg W ss) σ H Q := by
  obtain ⟨B, Δ, δ, Γ, xp, P, rp, hs, k, xl⟩ := h
  refine ⟨B, Δ, δ, Γ, xp, _, rp, hs, fun v H1 ra Γ1 rp1 h1 => ?_, xl⟩
  obtain ⟨ht, h1⟩ := h1
  obtain ⟨Hs1, q1, q2, I1, d1⟩ := rp1.frz
  refine ⟨tyD_v I1 d1 ht, B, .val ra.d :: Δ, v :: δ, Γ1, xp, _, (I1.push d1).rep, h1, fun vs H2 ds Γ2 Hs2 r1 r2 I2 d2 h2 => ?_, xl.push⟩
  have dv : Den X.K B.tk Hs2 v ra.d := by
    have tm' : Slots X.K B.tk Hs2 H2 (some (.val ra.d) :: Δ.map some) (some v :: δ.map some) r1 := I2.tm
    cases tm' with
    | cons ho _ => cases ho with
      | val dv => exact dv
  obtain ⟨r1', I3⟩ := I2.pop
  exact hw I3 dv d2 h2 fun z H' c rp' h' => k z H' c Γ2 rp' h'
theorem pd_meth (pa : PlainAttrs T) (slot : Slot T name id) (hty : typeOf (.builtin id) = pure (.type "method_descriptor")) (hm : MtR X id r) (hw : MtS X.K S r w) (ho : PE X o (DE X.K S X.mg W so)) (ha : PA X (e :: es) (DA X.K S X.mg W ss))
    (hbase : attributeBase o name X.env (eval o X.env) = eval o X.env := by rfl)
    (hfew : ((backTo cpos (starEach (e :: es) X.env)).all (fun x => !x.1) && (backToKw cpos (keywordEach [] X.env)).all (fun x => x.1.isSome)
      && decide ((e :: es).length + ([] : List Keyword).length + (if ([] : List Keyword).isEmpty then 0 else 1) < 30)) = true := by rfl)
    (hline : (apos.endLine == cpos.line) = true := by rfl) (hs : starEach (e :: es) X.env = (false, eval e X.env) :: starEach es X.env := by rfl) (hplain : (backTo cpos (starEach es X.env)).any (·.1) = false := by rfl) :
    PE X (.Call (.Attribute o name apos) (e :: es) [] cpos) (DE X.K S X.mg W (wMeth T w so ss)) :=
  PE.imp (pe_bm pa slot hty hm ho ha hbase hfew hline hs hplain) fun _ _ _ h => meth_run hw h
theorem pd_meth0 (pa : PlainAttrs T) (slot : Slot T name id) (hty : typeOf (.builtin id) = pure (.type "method_descriptor")) (hm : MtR X id r) (hw : MtS X.K S r w) (ho : PE X o (DE X.K S X.mg W so))
    (hbase : attributeBase o name X.env (eval o X.env) = eval o X.env := by rfl) (hline : (apos.endLine == cpos.line) = true := by rfl) : PE X (.Call (.Attribute o name apos) [] [] cpos) (DE X.K S X.mg W (wMeth T w so wNil)) := by
  refine PE.imp (pe_bm0 pa slot hty hm ho hbase hline) fun σ H Q ⟨B, Δ, δ, Γ, xp, P, rp, hs, k, xl⟩ => ?_
  refine ⟨B, Δ, δ, Γ, xp, _, rp, hs, fun v H1 ra Γ1 rp1 h1 => ?_, xl⟩
  obtain ⟨ht, h1⟩ := h1
  obtain ⟨Hs1, q1, q2, I1, d1⟩ := rp1.frz
  exact ⟨tyD_v I1 d1 ht, hw I1 d1 .nil h1 fun z H' c rp' h' => k z H' c Γ1 rp' h'⟩
end
section
variable {K : PySem.W.Frag} {S : SK}
theorem den_strs_ok {tk : Option Addr} {H : Hp} : ∀ {vs : List V} {ys : List Str}, DenAll K tk H vs (ys.map D.str) → ∀ y ∈ ys, SOk y
  | _, [], _, y, h => by simp at h
  | _, _ :: ys, .cons h a, y, hy => by
    rcases List.mem_cons.mp hy with e | e
    · subst e; cases h; assumption
    · exact den_strs_ok a y e
theorem strs_of {tk : Option Addr} {H : Hp} : ∀ {vs : List V} {ys : List Str}, DenAll K tk H vs (ys.map D.str) → vs = ys.map V.str
  | [], [], .nil => rfl
  | _ :: _, _ :: _, .cons h a => by
    cases h
    exact congrArg (V.str _ :: ·) (strs_of a)
/-- sep.join(l) -/
def wJoin (a : D) (ds : List D) (P : R → Prop) : Prop := ∃ s d ys, a = .str s ∧ ds = [d] ∧ (d = .lst (ys.map D.str) ∨ d = .tup (ys.map D.str)) ∧ (ys.map (·.length)).sum + ys.length * s.length ≤ 16777216 ∧ (SOk s → (∀ y ∈ ys, SOk y) → SOk (Txt.join s ys)) ∧ P (.val (.str (Txt.join s ys)))
abbrev rJoin (K : PySem.W.Frag) : V → List V → Hp → VK → Prop := fun x xs H Q => ∃ a p, ∃ ys : List Str, x = .str a ∧ xs = [.ref p] ∧ (SqL K H p (ys.map V.str) ∨ SqT K H p (ys.map V.str)) ∧
    (ys.map (·.length)).sum + ys.length * a.length ≤ 16777216 ∧ Q (.str (Txt.join a ys)) H
theorem ms_join : MtS K S (rJoin K) wJoin := by
  intro B Hs Δ δ Γ σ H p1 p2 x vs a ds P Q I da db hw k
  obtain ⟨s, d, ys, rfl, rfl, hd, hz, hok, hp⟩ := hw
  have hos : SOk s := by cases da; assumption
  cases da
  cases db with
  | cons h1 h2 =>
    cases h2
    rcases hd with rfl | rfl
    · cases h1 with
      | lst h a =>
        have hoy := den_strs_ok a
        have e := strs_of a
        subst e
        exact ⟨_, _, ys, rfl, rfl, .inl (.inl (.inl (I.sub _ _ h))), hz, k _ _ _ (I.fin (.str (hok hos hoy))) hp⟩
    · cases h1 with
      | tup h a =>
        have hoy := den_strs_ok a
        have e := strs_of a
        subst e
        exact ⟨_, _, ys, rfl, rfl, .inr (I.sqT h), hz, k _ _ _ (I.fin (.str (hok hos hoy))) hp⟩
/-- x.split(sep) -/
def wSplit (a : D) (ds : List D) (P : R → Prop) : Prop := ∃ s b, a = .str s ∧ ds = [.str b] ∧ (b.length == 0) = false ∧ s.length + 2 ≤ sizeLine ∧ (SOk s → ∀ y ∈ Txt.split s b, SOk y) ∧ P (.lst ((Txt.split s b).map D.str))
abbrev rSplit : V → List V → Hp → VK → Prop := fun x xs H Q => ∃ a b, x = .str a ∧ xs = [.str b] ∧ (b.length == 0) = false ∧ a.length + 2 ≤ sizeLine ∧ rNewStrs (Txt.split a b) H Q
theorem den_strs {tk : Option Addr} {H : Hp} : ∀ {ys : List Str}, (∀ y ∈ ys, SOk y) → DenAll K tk H (ys.map V.str) (ys.map D.str)
  | [], _ => .nil
  | y :: ys, h => .cons (.str (h y (by simp))) (den_strs fun z hz => h z (by simp [hz]))
theorem ms_split : MtS K S rSplit wSplit := by
  intro B Hs Δ δ Γ σ H p1 p2 x vs a ds P Q I da db hw k
  obtain ⟨s, b, rfl, rfl, hb, hz, hok, hp⟩ := hw
  have hos : SOk s := by cases da; assumption
  cases da
  cases db with
  | cons h1 h2 =>
    cases h2
    cases h1
    exact ⟨_, _, rfl, rfl, hb, hz, fun p n => k _ _ _ (I.finL (den_strs (hok hos)) n) hp⟩
/-- x.upper() and its like: a text of a text -/
def wTxt (C : Str → Prop) (g : Str → Str) (a : D) (ds : List D) (P : R → Prop) : Prop := ∃ s, a = .str s ∧ ds = [] ∧ C s ∧ (SOk s → SOk (g s)) ∧ P (.val (.str (g s)))
theorem ms_txt {C : Str → Prop} {g : Str → Str} : MtS K S (fun x xs H Q => ∃ a, x = .str a ∧ xs = [] ∧ C a ∧ Q (.str (g a)) H) (wTxt C g) := by
  intro B Hs Δ δ Γ σ H p1 p2 x vs a ds P Q I da db hw k
  obtain ⟨s, rfl, rfl, hc, hok, hp⟩ := hw
  have hos : SOk s := by cases da; assumption
  cases da
  cases db
  exact ⟨_, rfl, rfl, hc, k _ _ _ (I.fin (.str (hok hos))) hp⟩
end
/-! ### what a value is worth as a test -/
def D.tru : D → Option Bool
  | .bl b => some b | .int i => some (decide (i ≠ 0)) | .str x => some (decide (x.length ≠ 0)) | .non => some false
  | .tup l => some (decide (l.length ≠ 0)) | .lst l => some (decide (l.length ≠ 0)) | .fro l => some (decide (l.length ≠ 0)) | .dct l => some (decide (l.length ≠ 0))
  | _ => none
def wTr (s : WE) : WT := fun xp Γ P => s xp Γ fun r Γ' => match r.d.tru with
  | some b => P b Γ'
  | none => False
section
variable {X : Cx} {S : SK} {W : WX} {a : Expr} {sa : WE}
theorem tru_den {K : PySem.W.Frag} {B : Bs} {Hs H : Hp} {Δ : List R} {δ : List V} {Γ : Nv} {σ : L2.St} {p1 p2 : List Addr} {x : V} {d : D} {b : Bool} (I : RepI K S B Hs Δ δ Γ σ H p1 p2) (h : Den K B.tk Hs x d) (e : d.tru = some b) : TruV K x H b := by
  have emp : ∀ {vs : List V} {l : List D}, DenAll K B.tk Hs vs l → (!vs.isEmpty) = decide (l.length ≠ 0) := by
    intro vs l h
    cases h <;> simp
  cases h with
  | non => simp [D.tru] at e; exact e
  | bl b => simp [D.tru] at e; exact e.symm
  | int i => simp only [D.tru, Option.some.injEq] at e; subst e; by_cases h : i = 0 <;> simp [TruV, h]
  | str hs => simp only [D.tru, Option.some.injEq] at e; subst e; exact ⟨hs.2, by rw [Bool.eq_iff_iff]; simp⟩
  | tup h1 a1 => simp only [D.tru, Option.some.injEq] at e; subst e; exact .inr (.inl ⟨_, I.sqT h1, (emp a1).symm⟩)
  | lst h1 a1 => simp only [D.tru, Option.some.injEq] at e; subst e; exact .inl ⟨_, .inl (.inl (I.sub _ _ h1)), (emp a1).symm⟩
  | fro h1 a1 => simp only [D.tru, Option.some.injEq] at e; subst e; exact .inl ⟨_, I.sqL h1, (emp a1).symm⟩
  | dct h1 a1 =>
    simp only [D.tru, Option.some.injEq] at e; subst e
    refine .inr (.inr ⟨_, I.sub _ _ h1, ?_⟩)
    cases a1 <;> simp
  | tok h => simp [D.tru] at e
  | raw v => simp [D.tru] at e
  | exc _ _ => simp [D.tru] at e
theorem pdt_tr (ha : PE X a (DE X.K S X.mg W sa)) (he : ∀ whole, isTrue a X.env whole = (do let v ← whole; standAt a.pos; holding [v] (truthy v)) := by intro _; rfl) : PT X a (DT X.K S X.mg W (wTr sa)) := by
  refine PT.imp (pt_truthR ha tru_ok he) fun σ H Q ⟨B, Δ, δ, Γ, xp, P, rp, hs, k, xl⟩ => ?_
  refine ⟨B, Δ, δ, Γ, xp, _, rp, hs, fun v H1 ra Γ1 rp1 h1 => ?_, xl⟩
  obtain ⟨Hs1, q1, q2, I1, d1⟩ := rp1.frz
  split at h1
  · rename_i b hb
    exact ⟨b, tru_den I1 d1 hb, k _ _ _ I1.rep h1⟩
  · exact h1.elim
end
/-! ### enumerate, zip, reversed -/
def enumD (l : List D) : List D := l.mapIdx fun i d => .tup [.int (i : Nat), d]
def zipD (l m : List D) : List D := (l.zip m).map fun p => .tup [p.1, p.2]
def isL (d : D) (l : List D) : Prop := d = .lst l ∨ d = .fro l
section
variable {K : PySem.W.Frag} {S : SK}
theorem isL_sq {B : Bs} {Hs H : Hp} {Δ : List R} {δ : List V} {Γ : Nv} {σ : L2.St} {p1 p2 : List Addr} {v : V} {d : D} {l : List D} (I : RepI K S B Hs Δ δ Γ σ H p1 p2) (h : Den K B.tk Hs v d) (hd : isL d l) : ∃ a xs, v = .ref a ∧ SqL K H a xs ∧ DenAll K B.tk Hs xs l := by
  rcases hd with rfl | rfl
  · cases h with | lst h1 a1 => exact ⟨_, _, rfl, .inl (.inl (I.sub _ _ h1)), a1⟩
  · cases h with | fro h1 a1 => exact ⟨_, _, rfl, I.sqL h1, a1⟩
theorem itd_enum {tk : Option Addr} {a : Addr} {d : D} {l : List D} (hd : isL d l) : ItD K S tk (Ite K a) (.ref a) d (enumD l) where
  go := by
    intro B Hs Δ δ Γ σ H p1 p2 i e I h hi
    subst e
    obtain ⟨a', xs, ea, hx, ha⟩ := isL_sq I h hd
    cases ea
    have hi' : i < l.length := by simpa [enumD] using hi
    have hx' : i < xs.length := by rw [ha.length]; exact hi'
    refine ⟨⟨xs, xs[i], hx, by simp [hx']⟩, fun x H' y => ?_⟩
    obtain ⟨T, x1, rfl, n, rfl, f⟩ := y
    obtain ⟨d', e', dx⟩ := ha.getV (f xs hx)
    have ns := I.freshS n
    have ss : Same Hs (upd Hs T (.tup [.int (i : Nat), x1])) := same_upd ns
    refine ⟨_, .tup [.int (i : Nat), d'], ?_, I.alloc n, ss, .tup (.inl (.inl upd_same)) (.cons (.int _) (.cons (dx.mono ss) .nil))⟩
    unfold enumD
    rw [List.getElem?_mapIdx, e']
    rfl
  stop := by
    intro B Hs Δ δ Γ σ H p1 p2 i e I h hi
    subst e
    obtain ⟨a', xs, ea, hx, ha⟩ := isL_sq I h hd
    cases ea
    exact ⟨xs, hx, by rw [ha.length]; simpa [enumD] using hi⟩
theorem itd_rev {tk : Option Addr} {a : Addr} {d : D} {l : List D} (hd : isL d l) : ItD K S tk (Itv K a l.length) (.ref a) d l.reverse where
  go := by
    intro B Hs Δ δ Γ σ H p1 p2 i e I h hi
    subst e
    obtain ⟨a', xs, ea, hx, ha⟩ := isL_sq I h hd
    cases ea
    have hi' : i < l.length := by simpa using hi
    have hx' : l.length - 1 - i < xs.length := by rw [ha.length]; omega
    refine ⟨⟨hi', xs, xs[l.length - 1 - i], hx, by simp [hx']⟩, fun x H' y => ?_⟩
    obtain ⟨rfl, f⟩ := y
    obtain ⟨d', e', dx⟩ := ha.getV (f xs hx)
    exact ⟨Hs, d', by rw [List.getElem?_reverse hi', e'], I, fun _ _ z => z, dx⟩
  stop := by
    intro B Hs Δ δ Γ σ H p1 p2 i e I h hi
    have : l.length ≤ i := by simpa using hi
    exact this
end
section
variable {X : Cx} {S : SK} {W : WX} {e : Expr} {ss : WA} {p pos tpos : Pos} {elts : List Expr} {kk : Nat} {tg : Expr}
def wEnum (ss : WA) : WA := fun xp Γ P => ss xp Γ fun ds Γ1 => ∃ d l, ds = [d] ∧ isL d l ∧ P (enumD l) Γ1
theorem pdi_enum (hg : Gl X "enumerate") (hm : X.mg "enumerate" = none) (ha : PA X [e] (DA X.K S X.mg W ss)) (hs : starEach [e] X.env = [(false, eval e X.env)] := by rfl) : PI X (.Tuple elts kk tpos) (.Call (.Name "enumerate" p) [e] [] pos) (DI X.K S X.mg W (wEnum ss)) := by
  refine ⟨fun pins s σ H R' I h => (pi_enum hg hm ha hs).run pins s σ H R' I ?_⟩
  obtain ⟨B, Δ, δ, Γ, xp, P, rp, hs, k, xl⟩ := h
  refine ⟨B, Δ, δ, Γ, xp, _, rp, hs, fun vs H1 ds Γ1 Hs p1 p2 I1 da h1 => ?_, xl⟩
  obtain ⟨d, l, rfl, hd, hp⟩ := h1
  cases da with
  | cons dv rest =>
    cases rest
    obtain ⟨a, xs, ea, hx, _⟩ := isL_sq I1 dv hd
    subst ea
    exact ⟨a, xs, rfl, hx, k _ _ _ _ _ _ (I1.fin dv) (itd_enum hd) hp⟩
def wRevd (ss : WA) : WA := fun xp Γ P => ss xp Γ fun ds Γ1 => ∃ d l, ds = [d] ∧ isL d l ∧ P l.reverse Γ1
theorem pdi_reversed (hg : Gl X "reversed") (hm : X.mg "reversed" = none) (ha : PA X [e] (DA X.K S X.mg W ss)) (hs : starEach [e] X.env = [(false, eval e X.env)] := by rfl) : PI X tg (.Call (.Name "reversed" p) [e] [] pos) (DI X.K S X.mg W (wRevd ss)) := by
  refine ⟨fun pins s σ H R' I h => (pi_reversed hg hm ha hs).run pins s σ H R' I ?_⟩
  obtain ⟨B, Δ, δ, Γ, xp, P, rp, hs, k, xl⟩ := h
  refine ⟨B, Δ, δ, Γ, xp, _, rp, hs, fun vs H1 ds Γ1 Hs p1 p2 I1 da h1 => ?_, xl⟩
  obtain ⟨d, l, rfl, hd, hp⟩ := h1
  cases da with
  | cons dv rest =>
    cases rest
    obtain ⟨a, xs, ea, hx, hl⟩ := isL_sq I1 dv hd
    subst ea
    refine ⟨a, xs, rfl, hx, ?_⟩
    rw [hl.length]
    exact k _ _ _ _ _ _ (I1.fin dv) (itd_rev hd) hp
end
end DL

set_option maxHeartbeats 1000000
namespace DL
open PySem PySem.Spec L2

/-! ### {k: v for ..} -/
def wDcL (g : WG) (tt : WT) (sk sv' : WE) (vs : List Nat) : List D → List (Key × D) → Nv → (List (Key × D) → Nv → Prop) → Prop
  | [], acc, Γ, P => P acc Γ
  | d :: ds, acc, Γ, P => g (.val d) Γ fun Γ2 => tt (fun _ _ => False) Γ2 fun b Γ3 => if b = true then sk (fun _ _ => False) Γ3 fun rk Γ4 => sv' (fun _ _ => False) Γ4 fun r Γ5 => ∃ k, keyOf rk.d = some k ∧ wDcL g tt sk sv' vs ds (putD acc k r.d) (wipeG Γ5 vs) P else wDcL g tt sk sv' vs ds acc (wipeG Γ3 vs) P
def wDc (w : WA) (g : WG) (tt : WT) (sk sv' : WE) (vs : List Nat) : WE := fun xp Γ P => w xp Γ fun ds Γ1 => ds.length ≤ sizeLine ∧ wDcL g tt sk sv' vs ds [] (wipeG Γ1 vs) fun acc Γ' => P (.dct acc) (rest (wipeG Γ' vs) (sv Γ1 vs))
theorem putD_len (kds : List (Key × D)) (k : Key) (d : D) : (putD kds k d).length ≤ kds.length + 1 := by
  unfold putD
  split
  · rw [List.length_map]; omega
  · rw [List.length_append]; simp
section
variable {K : PySem.W.Frag} {S : SK} {mg : Str → Option Value} {W : WX} {B : Bs} {Hs H : Hp} {Δ : List R} {δ : List V} {Γ : Nv} {σ : L2.St} {p1 p2 : List Addr}
theorem dc_run {w : WA} {g : WG} {tt : WT} {sk sv' : WE} {vs is : List Nat} {Q : VK} (hs : ∀ i ∈ is, i ∈ vs) (h : DE K S mg W (wDc w g tt sk sv' vs) σ H Q) :
    tDc (DI K S mg W w) (DG K S is g) (DT K S mg W0 tt) (DE K S mg W0 sk) (DE K S mg W0 sv') vs σ H Q := by
  obtain ⟨B, Δ, δ, Γ, xp, P, rp, hs', k, xl⟩ := h
  refine ⟨B, Δ, δ, Γ, xp, _, rp, hs', fun v H1 d ds Γ1 J rp1 it h1 => ?_, xl⟩
  intro D hD
  obtain ⟨Hs, p1, p2, I⟩ := rp1
  obtain ⟨hlen, h1⟩ := h1
  obtain ⟨_, _, _, I1⟩ := (I.finK (p := D) .nil hD)
  obtain ⟨us, u1, u2, I2⟩ := RepI.saved (sv Γ1 vs) (fun q hq => sv_mem hq) I1
  obtain ⟨p2', I3⟩ := I2.wiped vs
  have xl0 : ∀ (Δ : List R) (δ : List V) (σ : L2.St), XL K S mg B W0 Δ δ σ (fun _ _ => False) := fun _ _ _ _ _ _ _ _ _ q => q.elim
  have nsv : ((sv Γ1 vs).map (fun q => R.val q.2)).length = us.length := by rw [List.length_map, u1]
  refine ⟨fun i m H => m = ds.length - i ∧ i ≤ ds.length ∧ ∃ acc Γ, Rep K S B ((sv Γ1 vs).map (fun q => R.val q.2) ++ .dct acc :: .val d :: Δ) (us ++ .ref D :: v :: δ) Γ (wipe σ vs) H ∧ acc.length ≤ i ∧ Γ.length = Γ1.length ∧
    wDcL g tt sk sv' vs (ds.drop i) acc Γ fun acc Γ' => P (.dct acc) (rest (wipeG Γ' vs) (sv Γ1 vs)), ⟨_, rfl, Nat.zero_le _, [], _, I3.rep, Nat.zero_le _, wipeG_length _ _, h1⟩, ?_⟩
  rintro i m H ⟨rfl, hi, acc, Γ2, ⟨Hs2, q1, q2, I4⟩, ha, hlΓ, h2⟩
  have dv : Den K B.tk Hs2 v d := by
    obtain ⟨v', q, hv', ho⟩ := I4.tmAt (i := (sv Γ1 vs).length + 1) (r := .val d) (by rw [List.getElem?_append_right (by rw [List.length_map]; omega)]; simp)
    rw [List.getElem?_append_right (by omega), u1] at hv'
    simp at hv'
    subst hv'
    cases ho with
    | val dv => exact dv
  by_cases hlt : i < ds.length
  · obtain ⟨hg, hy⟩ := it.go rfl I4 dv hlt
    refine .inr ⟨hg, fun H => ∃ acc Γ, Rep K S B ((sv Γ1 vs).map (fun q => R.val q.2) ++ .dct acc :: .val d :: Δ) (us ++ .ref D :: v :: δ) Γ (wipe σ vs) H ∧ acc.length ≤ i + 1 ∧ Γ.length = Γ1.length ∧
      wDcL g tt sk sv' vs (ds.drop (i + 1)) acc Γ fun acc Γ' => P (.dct acc) (rest (wipeG Γ' vs) (sv Γ1 vs)), fun H' ⟨acc', Γ', rp', a', l', h'⟩ => ⟨ds.length - (i + 1), by omega, rfl, hlt, acc', Γ', rp', a', l', h'⟩, fun x H' y => ?_⟩
    obtain ⟨Hs', d', e, I5, _, dx⟩ := hy x H' y
    rw [drop_get e] at h2
    have lenσ : ∀ {Δ : List R} {δ : List V} {Γ : Nv} {σ : L2.St} {H : Hp}, Rep K S B Δ δ Γ σ H → σ.length = Γ.length := fun ⟨_, _, _, J⟩ => J.sl.length
    have l0 : (wipe σ vs).length = Γ1.length := (lenσ I4.rep).trans hlΓ
    refine ⟨B, _, _, Γ2, .val d', _, I5.fin dx, h2, fun σ2 H2 Γ3 rp3 h3 eq => ?_⟩
    have ew : wipe σ2 vs = wipe σ vs := by rw [wipe_eqv eq hs, wipe_wipe]
    refine ⟨ew, B, _, _, Γ3, _, _, rp3, h3, fun b H3 Γ4 rp4 h4 => ?_, xl0 _ _ _⟩
    have fin : ∀ {acc : List (Key × DL.D)} {Γ : Nv} {H : Hp}, Rep K S B ((sv Γ1 vs).map (fun q => R.val q.2) ++ .dct acc :: .val d :: Δ) (us ++ .ref D :: v :: δ) Γ σ2 H → Rep K S B ((sv Γ1 vs).map (fun q => R.val q.2) ++ .dct acc :: .val d :: Δ) (us ++ .ref D :: v :: δ) (wipeG Γ vs) (wipe σ vs) H ∧ (wipeG Γ vs).length = Γ1.length := by
      intro acc Γ H rp
      have l1 := lenσ rp
      obtain ⟨Hs, r1, r2, J⟩ := rp
      obtain ⟨r2', J'⟩ := J.wiped vs
      rw [ew] at J'
      refine ⟨J'.rep, ?_⟩
      rw [wipeG_length, ← l1, eq.1]
      exact l0
    cases b with
    | false =>
      obtain ⟨f1, f2⟩ := fin rp4
      exact iteF ⟨acc, _, f1, Nat.le_succ_of_le ha, f2, h4⟩
    | true =>
      refine iteT ⟨B, _, _, Γ4, _, _, rp4, h4, fun y H5 rk Γ5 rp5 h5 => ?_, xl0 _ _ _⟩
      refine ⟨B, _, _, Γ5, _, _, rp5, h5, fun z H6 r Γ6 rp6 h6 => ?_, xl0 _ _ _⟩
      obtain ⟨key, hkey, h6⟩ := h6
      obtain ⟨Hs5, s1, s2, I6, dz, dy⟩ := rp6.frz2
      have ey := dy.key hkey
      subst ey
      obtain ⟨v', q, hv', ho⟩ := I6.tmAt (i := (sv Γ1 vs).length) (r := .dct acc) (by rw [List.getElem?_append_right (by rw [List.length_map]; omega)]; simp)
      rw [List.getElem?_append_right (by omega), u1] at hv'
      simp at hv'
      subst hv'
      cases ho with
      | @dct _ accV _ hp da =>
        have I7 := I6.writeT (i := (sv Γ1 vs).length) (p := D) (r := .dct acc) (r' := .dct (putD acc key r.d)) (o := .dK (putK accV key z)) (by rw [List.getElem?_append_right (by rw [List.length_map]; omega)]; simp)
          (by rw [List.getElem?_append_right (by omega), u1]; simp) (fun {q} ho => by cases ho; rfl) (.dct upd_same (DenKs.put dz da))
        have es : ((sv Γ1 vs).map (fun q => R.val q.2) ++ R.dct acc :: .val d :: Δ).set (sv Γ1 vs).length (.dct (putD acc key r.d)) = (sv Γ1 vs).map (fun q => R.val q.2) ++ R.dct (putD acc key r.d) :: .val d :: Δ := by
          rw [List.set_append_right _ _ (by rw [List.length_map]; omega)]
          simp
        rw [es] at I7
        obtain ⟨f1, f2⟩ := fin I7.rep
        have hl := putD_len acc key r.d
        exact ⟨accV, key, rfl, hp, by rw [da.length]; omega, putD acc key r.d, _, f1, by omega, f2, h6⟩
  · have e : i = ds.length := by omega
    subst e
    rw [List.drop_length] at h2
    refine .inl ⟨it.stop rfl I4 dv (Nat.le_refl _), ?_⟩
    obtain ⟨q2', I5⟩ := I4.wiped vs
    rw [wipe_wipe] at I5
    have I6 := I5.back
    have lσ : σ.length = Γ1.length := by
      have z := I4.sl.length
      rw [wipe_length] at z
      exact z.trans hlΓ
    obtain ⟨r1, r2, I7, _⟩ := RepI.restored (sv Γ1 vs) u1 u2 (fun q hq => by
      have := (List.getElem?_eq_some_iff.mp (sv_mem hq)).1
      rw [wipeG_length, hlΓ]
      exact this) I6
    obtain ⟨r1', I8⟩ := I7.drop2
    exact k _ _ _ _ I8.rep h2
end
section
variable {X : Cx} {S : SK} {W : WX} {pos : Pos} {kx vx tg iter : Expr} {ifs : List Expr} {scope : Scope} {own : List (Str × Nat)} {w : WA} {g : WG} {tt : WT} {sk sv' : WE} {is : List Nat}
theorem pd_dc (hc : X.calm = true) (hN : X.N.Nodup) (hi : PI X tg iter (DI X.K S X.mg W w)) (ok : BlkOk X.N X.env.scope scope own) (hs : ∀ i ∈ is, i ∈ own.map (·.2))
    (hg : ∀ (s : Shared) (H : Hp) (C : Addr) (cl : List (Str × Addr)) (fp : List Addr), PG (X.blk s H scope (compEnvC scope cl C X.env) fp) tg (DG X.K S is g))
    (ht : ∀ (s : Shared) (H : Hp) (C : Addr) (cl : List (Str × Addr)) (fp : List Addr), PTs (X.blk s H scope (compEnvC scope cl C X.env) fp) ifs (DT X.K S X.mg W0 tt))
    (hk : ∀ (s : Shared) (H : Hp) (C : Addr) (cl : List (Str × Addr)) (fp : List Addr), PE (X.blk s H scope (compEnvC scope cl C X.env) fp) kx (DE X.K S X.mg W0 sk))
    (he : ∀ (s : Shared) (H : Hp) (C : Addr) (cl : List (Str × Addr)) (fp : List Addr), PE (X.blk s H scope (compEnvC scope cl C X.env) fp) vx (DE X.K S X.mg W0 sv')) (hf : ∀ x, foldedSetIterable iter X.env x = pure x := by intro _; rfl) :
    PE X (.DictComp kx vx [⟨tg, iter, ifs, 0⟩] scope pos) (DE X.K S X.mg W (wDc w g tt sk sv' (own.map (·.2)))) :=
  PE.imp (pe_dc hc hN hi ok hg ht hk he hf) fun _ _ _ h => dc_run hs h
end
/-! ### {k: v, ..} -/
def wPrs : List (WE × WE) → (XD → Nv → Prop) → Nv → (List (Key × D) → Nv → Prop) → Prop
  | [], _, Γ, P => P [] Γ
  | (sk, se) :: l, xp, Γ, P => sk xp Γ fun rk Γ1 => se xp Γ1 fun r Γ2 => ∃ k, keyOf rk.d = some k ∧ wPrs l xp Γ2 fun kds Γ3 => P ((k, r.d) :: kds) Γ3
def wDisp (l : List (WE × WE)) : WE := fun xp Γ P => wPrs l xp Γ fun kds Γ1 => kds.length ≤ 15 ∧ P (.dct (mergeD [] kds)) Γ1
section
variable {K : PySem.W.Frag} {S : SK} {mg : Str → Option Value} {W : WX}
theorem merge_foldl : ∀ (more kvs : List (Key × V)), L2.mergeK kvs more = more.foldl (fun acc kv => putK acc kv.1 kv.2) kvs := fun _ _ => rfl
theorem den_merge {tk : Option Addr} {H : Hp} : ∀ {more : List (Key × V)} {md : List (Key × D)} {kvs : List (Key × V)} {kds : List (Key × D)}, DenKs K tk H more md → DenKs K tk H kvs kds → DenKs K tk H (L2.mergeK kvs more) (mergeD kds md)
  | [], [], _, _, .nil, a => a
  | (k, v) :: more, (_, d) :: md, kvs, kds, .cons h b, a => show DenKs K tk H (L2.mergeK (putK kvs k v) more) (mergeD (putD kds k d) md) from den_merge b (DenKs.put h a)
theorem prs_run {B : Bs} {Q : List (V × V) → Hp → Prop} {σ : L2.St} : ∀ (l : List (WE × WE)) {Δ : List R} {δ : List V} {Γ : Nv} {xp : XD → Nv → Prop} {P : List (Key × D) → Nv → Prop} {H : Hp},
    Rep K S B Δ δ Γ σ H → wPrs l xp Γ P → XL K S mg B W Δ δ σ xp →
    (∀ kvs kds H' Γ' Hs p1 p2, RepI K S B Hs Δ δ Γ' σ H' p1 p2 → DenKs K B.tk Hs kvs kds → kds.length = l.length → P kds Γ' → Q (kvs.map fun kv => (kV kv.1, kv.2)) H') → tPairs (l.map fun p => (DE K S mg W p.1, DE K S mg W p.2)) σ H Q := by
  intro l
  induction l generalizing Q with
  | nil => intro Δ δ Γ xp P H rp h xl k; obtain ⟨Hs, p1, p2, I⟩ := rp; exact k [] [] H Γ Hs p1 p2 I .nil rfl h
  | cons p l ih =>
    intro Δ δ Γ xp P H rp h xl k
    refine ⟨B, Δ, δ, Γ, xp, _, rp, h, fun y H1 rk Γ1 rp1 h1 => ?_, xl⟩
    refine ⟨B, rk :: Δ, y :: δ, Γ1, xp, _, rp1, h1, fun z H2 r Γ2 rp2 h2 => ?_, xl.push⟩
    obtain ⟨key, hkey, h3⟩ := h2
    refine ih rp2 h3 xl.push.push fun kvs kds H3 Γ3 Hs p1 p2 I3 da hl hp => ?_
    obtain ⟨Hs', q1, e1, dz, I4⟩ := I3.frz
    obtain ⟨Hs2, q2, e2, dy, I5⟩ := I4.frz
    have ey := dy.key hkey
    subst ey
    exact k ((key, z) :: kvs) ((key, r.d) :: kds) H3 Γ3 Hs2 q2 p2 I5 (.cons (dz.mono e2) (da.mono fun b o e => e2 b o (e1 b o e))) (by simp [hl]) hp
end
section
variable {X : Cx} {S : SK} {W : WX} {pos : Pos} {k v : Expr} {ks : List (Option Expr)} {vs : List Expr} {sk se : WE} {l : List (WE × WE)}
theorem pdp_nil : PPs X pos [] [] (([] : List (WE × WE)).map fun p => (DE X.K S X.mg W p.1, DE X.K S X.mg W p.2)) := pps_nil
theorem pdp_cons (hk : PE X k (DE X.K S X.mg W sk)) (hv : PE X v (DE X.K S X.mg W se)) (hr : PPs X pos ks vs (l.map fun p => (DE X.K S X.mg W p.1, DE X.K S X.mg W p.2))) :
    PPs X pos (some k :: ks) (v :: vs) (((sk, se) :: l).map fun p => (DE X.K S X.mg W p.1, DE X.K S X.mg W p.2)) := pps_cons hk hv hr
theorem pd_disp (h : PPs X pos ks vs (l.map fun p => (DE X.K S X.mg W p.1, DE X.K S X.mg W p.2))) (hall : ks.all (·.isSome) = true) (hl : ks.length = vs.length) (h0 : ks ≠ []) (h15 : ks.length ≤ 15) : PE X (.Dict ks vs pos) (DE X.K S X.mg W (wDisp l)) := by
  refine PE.imp (pe_disp h hall hl h0 h15) fun σ H Q ⟨B, Δ, δ, Γ, xp, P, ⟨Hs, p1, p2, I⟩, hs, kq, xl⟩ => ?_
  intro p n
  obtain ⟨_, _, _, I1⟩ := (I.finK (p := p) .nil n)
  refine prs_run l I1.rep hs xl.push fun kvs kds H2 Γ2 Hs2 r1 r2 I2 da hlen hp => ?_
  obtain ⟨v', q, hv', ho⟩ := I2.tmAt (i := 0) (r := .dct []) rfl
  simp at hv'
  subst hv'
  cases ho with
  | dct hp2 da0 =>
    cases da0
    refine ⟨hp2, kvs, rfl, by rw [da.length]; exact hp.1, ?_⟩
    have I3 := I2.writeT (i := 0) (p := p) (r := .dct []) (r' := .dct (mergeD [] kds)) (o := .dK (L2.mergeK [] kvs)) rfl rfl (fun {q} ho => by cases ho; rfl) (.dct upd_same (den_merge da .nil))
    exact kq _ _ _ _ I3.rep hp.2
theorem pd_disp0 : PE X (.Dict [] [] pos) (DE X.K S X.mg W (wDisp [])) := by
  refine PE.imp pe_dnewK fun σ H Q ⟨B, Δ, δ, Γ, xp, P, ⟨Hs, p1, p2, I⟩, hs, kq, xl⟩ => ?_
  exact fun p n => kq _ _ _ _ (I.finK .nil n) hs.2
end
end DL

set_option maxHeartbeats 1000000
namespace DL
open PySem PySem.Spec L2

/-! ### sorted: ints, texts, a dict's keys that are texts; fewer than 64 -/
def wSorted (ds : List D) (P : R → Prop) : Prop :=
  (∃ ns : List Int, ds = [.lst (ns.map D.int)] ∧ ns.length < 64 ∧ ∀ ns' : List Int, ns'.Perm ns → ns'.Pairwise (· ≤ ·) → P (.lst (ns'.map D.int))) ∨
  (∃ ys : List Str, ds = [.lst (ys.map D.str)] ∧ ys.length < 64 ∧ ∀ zs : List Str, zs.Perm ys → PyProof.Rows.sortedS zs = true → P (.lst (zs.map D.str))) ∨
  ∃ (kds : List (Key × D)) (ks : List Str), ds = [.dct kds] ∧ kds.map (·.1) = ks.map Sum.inr ∧ ks.length < 64 ∧ (∀ k ∈ ks, SOk k) ∧ ∀ zs : List Str, zs.Perm ks → PyProof.Rows.sortedS zs = true → P (.lst (zs.map D.str))
abbrev rSortD : List V → Hp → VK → Prop := fun xs H Q => ∃ (a : Addr) (kvs : List (Key × V)) (ks : List Str), xs = [.ref a] ∧ Rd H a (.dK kvs) ∧ kvs.map (·.1) = ks.map Sum.inr ∧ ks.length < 64 ∧
    ∀ ys p, ys.Perm ks → PyProof.Rows.sortedS ys = true → H p = none → Q (.ref p) (upd H p (.lst (ys.map V.str)))
abbrev rSort3 (K : PySem.W.Frag) : List V → Hp → VK → Prop := fun xs H Q => (rSorted K xs H Q ∨ rSortedS K xs H Q) ∨ rSortD xs H Q
section
variable {X : Cx} {K : PySem.W.Frag} {S : SK}
theorem call_sorted3 (hc : X.calm = true) : CallR X (.builtin "sorted") (rSort3 X.K) := (cr_sorted.or cr_sortedS).or (call_sortedD hc)
theorem denks_keys {tk : Option Addr} {H : Hp} : ∀ {kvs : List (Key × V)} {kds : List (Key × D)}, DenKs K tk H kvs kds → kvs.map (·.1) = kds.map (·.1)
  | _, _, .nil => rfl
  | _, _, .cons _ a => congrArg (_ :: ·) (denks_keys a)
theorem cs_sorted : CallS K S (rSort3 K) wSorted := by
  intro B Hs Δ δ Γ σ H p1 p2 vs ds P Q I da hw k
  rcases hw with ⟨ns, rfl, hl, hp⟩ | ⟨ys, rfl, hl, hp⟩ | ⟨kds, ks, rfl, hk, hl, hok, hp⟩
  · cases da with
    | cons h1 h2 =>
      cases h2
      cases h1 with
      | lst h a =>
        have e := a.ints
        subst e
        exact .inl (.inl ⟨_, ns, rfl, .inl (.inl (I.sub _ _ h)), hl, fun ns' p q1 q2 n => k _ _ _ (I.finL (den_ints ns') n) (hp ns' q1 q2)⟩)
  · cases da with
    | cons h1 h2 =>
      cases h2
      cases h1 with
      | lst h a =>
        have hok := den_strs_ok a
        have e := strs_of a
        subst e
        exact .inl (.inr ⟨_, ys, rfl, .inl (.inl (I.sub _ _ h)), hl, fun zs p q1 q2 n => k _ _ _ (I.finL (den_strs fun y hy => hok y (q1.mem_iff.mp hy)) n) (hp zs q1 q2)⟩)
  · cases da with
    | cons h1 h2 =>
      cases h2
      cases h1 with
      | dct h a =>
        exact .inr ⟨_, _, ks, rfl, .inl (I.sub _ _ h), (denks_keys a).trans hk, hl, fun zs p q1 q2 n => k _ _ _ (I.finL (den_strs fun y hy => hok y (q1.mem_iff.mp hy)) n) (hp zs q1 q2)⟩
end
end DL

set_option maxHeartbeats 1000000
namespace DL
open PySem PySem.Spec L2
/-! ### equations of the later layers -/
section
variable {i j : Int} {a b : Str} {l m : List D} {k : Bool} {P : R → Prop} {xp : XD → Nv → Prop} {Γ : Nv}
theorem tru_b : D.tru (.bl k) = some k := Eq.trans rfl rfl
theorem tru_i : D.tru (.int i) = some (decide (i ≠ 0)) := Eq.trans rfl rfl
theorem tru_s : D.tru (.str a) = some (decide (a.length ≠ 0)) := Eq.trans rfl rfl
theorem tru_n : D.tru .non = some false := Eq.trans rfl rfl
theorem tru_t : D.tru (.tup l) = some (decide (l.length ≠ 0)) := Eq.trans rfl rfl
theorem tru_l : D.tru (.lst l) = some (decide (l.length ≠ 0)) := Eq.trans rfl rfl
theorem tru_f : D.tru (.fro l) = some (decide (l.length ≠ 0)) := Eq.trans rfl rfl
theorem tru_d {kds : List (Key × D)} : D.tru (.dct kds) = some (decide (kds.length ≠ 0)) := Eq.trans rfl rfl
def lstK : D → (List D → Prop) → Prop
  | .lst l, P => P l
  | .fro l, P => P l
  | _, _ => False
theorem lstK_l {Q : List D → Prop} : lstK (.lst l) Q = Q l := Eq.trans rfl rfl
theorem lstK_f {Q : List D → Prop} : lstK (.fro l) Q = Q l := Eq.trans rfl rfl
theorem lstK_e {d : D} {Q : List D → Prop} : (∃ l, isL d l ∧ Q l) = lstK d Q := by
  unfold isL
  cases d <;> simp [lstK]
def oneK : List D → (D → Prop) → Prop
  | [d], P => P d
  | _, _ => False
theorem oneK_1 {d : D} {Q : D → Prop} : oneK [d] Q = Q d := Eq.trans rfl rfl
theorem wEnum_e {ss : WA} {Q : List D → Nv → Prop} : wEnum ss xp Γ Q = ss xp Γ fun ds Γ1 => oneK ds fun d => lstK d fun l => Q (enumD l) Γ1 := by
  unfold wEnum
  congr 1
  funext ds Γ1
  match ds with
  | [] => simp [oneK]
  | [d] =>
    rw [oneK_1, ← lstK_e]
    exact propext ⟨fun ⟨_, l, h, h2, p⟩ => (by cases h; exact ⟨l, h2, p⟩), fun ⟨l, h2, p⟩ => ⟨d, l, rfl, h2, p⟩⟩
  | _ :: _ :: _ => simp [oneK]
theorem wRevd_e {ss : WA} {Q : List D → Nv → Prop} : wRevd ss xp Γ Q = ss xp Γ fun ds Γ1 => oneK ds fun d => lstK d fun l => Q l.reverse Γ1 := by
  unfold wRevd
  congr 1
  funext ds Γ1
  match ds with
  | [] => simp [oneK]
  | [d] =>
    rw [oneK_1, ← lstK_e]
    exact propext ⟨fun ⟨_, l, h, h2, p⟩ => (by cases h; exact ⟨l, h2, p⟩), fun ⟨l, h2, p⟩ => ⟨d, l, rfl, h2, p⟩⟩
  | _ :: _ :: _ => simp [oneK]
theorem tyD_s : tyD "str" (.str a) = True := eq_true (.inl ⟨rfl, _, rfl⟩)
theorem tyD_l : tyD "list" (.lst l) = True := eq_true (.inr (.inl ⟨rfl, .inl ⟨_, rfl⟩⟩))
theorem tyD_d {kds : List (Key × D)} : tyD "dict" (.dct kds) = True := eq_true (.inr (.inr ⟨rfl, _, rfl⟩))
def keyK1 (o : Option Key) (P : Key → Prop) : Prop := match o with
  | some k => P k
  | none => False
theorem keyK1_s {q : Key} {Q : Key → Prop} : keyK1 (some q) Q = Q q := Eq.trans rfl rfl
theorem keyOf_i : keyOf (.int i) = some (.inl i) := Eq.trans rfl rfl
theorem keyOf_s : keyOf (.str a) = some (.inr a) := Eq.trans rfl rfl
theorem keyK1_e {o : Option Key} {Q : Key → Prop} : (∃ k, o = some k ∧ Q k) = keyK1 o Q := by cases o <;> simp [keyK1]
theorem wPrs_0 {Q : List (Key × D) → Nv → Prop} : wPrs [] xp Γ Q = Q [] Γ := Eq.trans rfl rfl
theorem wPrs_1 {sk se : WE} {r : List (WE × WE)} {Q : List (Key × D) → Nv → Prop} : wPrs ((sk, se) :: r) xp Γ Q = sk xp Γ fun rk Γ1 => se xp Γ1 fun v Γ2 => keyK1 (keyOf rk.d) fun k => wPrs r xp Γ2 fun kds Γ3 => Q ((k, v.d) :: kds) Γ3 := by
  rw [wPrs]
  congr 1
  funext rk Γ1
  congr 1
  funext v Γ2
  rw [keyK1_e]
theorem wMeth_q : type_of% @wMeth.eq_1 := by intros; exact Eq.trans (by rw [wMeth.eq_1]) rfl
theorem wDc_q : type_of% @wDc.eq_1 := by intros; exact Eq.trans (by rw [wDc.eq_1]) rfl
theorem wDisp_q : type_of% @wDisp.eq_1 := by intros; exact Eq.trans (by rw [wDisp.eq_1]) rfl
def truK (o : Option Bool) (P : Bool → Prop) : Prop := match o with
  | some b => P b
  | none => False
theorem truK_s {Q : Bool → Prop} : truK (some k) Q = Q k := Eq.trans rfl rfl
theorem wTr_e {se : WE} {Q : Bool → Nv → Prop} : wTr se xp Γ Q = se xp Γ fun r Γ' => truK r.d.tru fun b => Q b Γ' := Eq.trans rfl rfl
/-- the dict of a comprehension, turn by turn -/
theorem wDcL_run {g : WG} {tt : WT} {sk se : WE} {vs : List Nat} (I : Nat → List (Key × D) → Nv → Prop) {ds : List D} {Q : List (Key × D) → Nv → Prop}
    (step : ∀ (i : Nat) (d : D) (acc : List (Key × D)) (Γ : Nv) (k : List (Key × D) → Nv → Prop), ds[i]? = some d → I i acc Γ → (∀ acc' Γ', I (i + 1) acc' Γ' → k acc' Γ') →
      g (.val d) Γ fun Γ2 => tt (fun _ _ => False) Γ2 fun b Γ3 => if b = true then sk (fun _ _ => False) Γ3 fun rk Γ4 => se (fun _ _ => False) Γ4 fun r Γ5 => ∃ q, keyOf rk.d = some q ∧ k (putD acc q r.d) (wipeG Γ5 vs) else k acc (wipeG Γ3 vs))
    (fin : ∀ acc Γ, I ds.length acc Γ → Q acc Γ) (h : I 0 [] Γ) : wDcL g tt sk se vs ds [] Γ Q := by
  have main : ∀ (n i : Nat) (acc : List (Key × D)) (Γ : Nv), i + n = ds.length → I i acc Γ → wDcL g tt sk se vs (ds.drop i) acc Γ Q := by
    intro n
    induction n with
    | zero =>
      intro i acc Γ e hi
      have e : i = ds.length := by omega
      subst e
      rw [List.drop_length]
      exact fin acc Γ hi
    | succ n ih =>
      intro i acc Γ e hi
      have hl : i < ds.length := by omega
      rw [List.drop_eq_getElem_cons hl]
      exact step i _ acc Γ (fun acc' Γ' => wDcL g tt sk se vs (ds.drop (i + 1)) acc' Γ' Q) (List.getElem?_eq_getElem hl) hi fun acc' Γ' h' => ih (i + 1) acc' Γ' (by omega) h'
  have := main ds.length 0 [] Γ (by omega) h
  simpa using this
end
end DL

set_option maxHeartbeats 1000000
namespace DL
open PySem PySem.Spec L2

/-! ### [e for .. for ..] -/
def wL2I (g : WG) (tt : WT) (se : WE) (vs : List Nat) : List D → List D → Nv → (List D → Nv → Prop) → Prop
  | [], acc, Γ, P => P acc Γ
  | d :: ds, acc, Γ, P => g (.val d) Γ fun Γ2 => tt (fun _ _ => False) Γ2 fun b Γ3 => if b = true then se (fun _ _ => False) Γ3 fun r Γ4 => acc.length < sizeLine ∧ wL2I g tt se vs ds (acc ++ [r.d]) (wipeG Γ4 vs) P else wL2I g tt se vs ds acc (wipeG Γ3 vs) P
def wL2L (g : WG) (tt : WT) (w1 : WA) (g1 : WG) (tt1 : WT) (se : WE) (vs vs1 : List Nat) : List D → List D → Nv → (List D → Nv → Prop) → Prop
  | [], acc, Γ, P => P acc Γ
  | d :: ds, acc, Γ, P => g (.val d) Γ fun Γ2 => tt (fun _ _ => False) Γ2 fun b Γ3 => if b = true then w1 (fun _ _ => False) Γ3 fun ds1 Γ4 => wL2I g1 tt1 se vs1 ds1 acc (wipeG Γ4 vs1) fun acc' Γ5 => wL2L g tt w1 g1 tt1 se vs vs1 ds acc' (wipeG Γ5 vs) P else wL2L g tt w1 g1 tt1 se vs vs1 ds acc (wipeG Γ3 vs) P
def wLc2 (w : WA) (g : WG) (tt : WT) (w1 : WA) (g1 : WG) (tt1 : WT) (se : WE) (vs vs1 : List Nat) : WE := fun xp Γ P => w xp Γ fun ds Γ1 => wL2L g tt w1 g1 tt1 se vs vs1 ds [] (wipeG Γ1 vs) fun acc Γ' => P (.lst acc) (rest (wipeG Γ' vs) (sv Γ1 vs))
theorem eqv_wipe : ∀ (vs : List Nat) (σ : L2.St), Eqv vs σ (wipe σ vs) := by
  intro vs σ
  refine ⟨by rw [wipe_length], fun j hj => ?_⟩
  induction vs with
  | nil => rfl
  | cons v vs ih =>
    have h1 : j ∉ vs := fun h => hj (by simp [h])
    have h2 : v ≠ j := fun h => hj (by simp [h])
    rw [← ih h1]
    show ((wipe σ vs).set v none)[j]? = (wipe σ vs)[j]?
    rw [List.getElem?_set_ne h2]
section
variable {K : PySem.W.Frag} {S : SK} {mg : Str → Option Value} {W : WX} {B : Bs} {Hs H : Hp} {Δ : List R} {δ : List V} {Γ : Nv} {σ : L2.St} {p1 p2 : List Addr}
theorem lc2_run {w w1 : WA} {g g1 : WG} {tt tt1 : WT} {se : WE} {vs vs1 is is1 : List Nat} {Q : VK} (hs : ∀ i ∈ is, i ∈ vs) (hs1 : ∀ i ∈ is1, i ∈ vs1) (hv : ∀ i ∈ vs1, i ∈ vs) (h : DE K S mg W (wLc2 w g tt w1 g1 tt1 se vs vs1) σ H Q) :
    tLc2 (DI K S mg W w) (DG K S is g) (DT K S mg W0 tt) (DI K S mg W0 w1) (DG K S is1 g1) (DT K S mg W0 tt1) (DE K S mg W0 se) vs vs1 σ H Q := by
  obtain ⟨B, Δ, δ, Γ, xp, P, rp, hs', k, xl⟩ := h
  refine ⟨B, Δ, δ, Γ, xp, _, rp, hs', fun v H1 d ds Γ1 J rp1 it h1 => ?_, xl⟩
  intro D hD
  obtain ⟨Hs, p1, p2, I⟩ := rp1
  obtain ⟨_, _, _, I1⟩ := (I.finL (p := D) .nil hD)
  obtain ⟨us, u1, u2, I2⟩ := RepI.saved (sv Γ1 vs) (fun q hq => sv_mem hq) I1
  obtain ⟨p2', I3⟩ := I2.wiped vs
  have xl0 : ∀ (Δ : List R) (δ : List V) (σ : L2.St), XL K S mg B W0 Δ δ σ (fun _ _ => False) := fun _ _ _ _ _ _ _ _ _ q => q.elim
  have lenσ : ∀ {Δ : List R} {δ : List V} {Γ : Nv} {σ : L2.St} {H : Hp}, Rep K S B Δ δ Γ σ H → σ.length = Γ.length := fun ⟨_, _, _, J⟩ => J.sl.length
  have l0 : (wipe σ vs).length = Γ1.length := by
    have := lenσ I3.rep
    rwa [wipeG_length] at this
  generalize hpre : (sv Γ1 vs).map (fun q => R.val q.2) = pre at *
  have lpre : pre.length = us.length := by rw [← hpre, List.length_map, u1]
  -- the list's place on the stack, under pre and one more or none
  refine ⟨fun i m H => m = ds.length - i ∧ i ≤ ds.length ∧ ∃ acc Γ, Rep K S B (pre ++ .lst acc :: .val d :: Δ) (us ++ .ref D :: v :: δ) Γ (wipe σ vs) H ∧
    wL2L g tt w1 g1 tt1 se vs vs1 (ds.drop i) acc Γ fun acc Γ' => P (.lst acc) (rest (wipeG Γ' vs) (sv Γ1 vs)), ⟨_, rfl, Nat.zero_le _, [], _, I3.rep, h1⟩, ?_⟩
  rintro i m H ⟨rfl, hi, acc, Γ2, ⟨Hs2, q1, q2, I4⟩, h2⟩
  have dv : Den K B.tk Hs2 v d := by
    obtain ⟨v', q, hv', ho⟩ := I4.tmAt (i := pre.length + 1) (r := .val d) (by rw [List.getElem?_append_right (by omega)]; simp)
    rw [List.getElem?_append_right (by omega), ← lpre] at hv'
    simp at hv'
    subst hv'
    cases ho with
    | val dv => exact dv
  by_cases hlt : i < ds.length
  · obtain ⟨hg, hy⟩ := it.go rfl I4 dv hlt
    refine .inr ⟨hg, fun H => ∃ acc Γ, Rep K S B (pre ++ .lst acc :: .val d :: Δ) (us ++ .ref D :: v :: δ) Γ (wipe σ vs) H ∧
      wL2L g tt w1 g1 tt1 se vs vs1 (ds.drop (i + 1)) acc Γ fun acc Γ' => P (.lst acc) (rest (wipeG Γ' vs) (sv Γ1 vs)), fun H' ⟨acc', Γ', rp', h'⟩ => ⟨ds.length - (i + 1), by omega, rfl, hlt, acc', Γ', rp', h'⟩, fun x H' y => ?_⟩
    obtain ⟨Hs', d', e, I5, _, dx⟩ := hy x H' y
    rw [drop_get e] at h2
    refine ⟨B, _, _, Γ2, .val d', _, I5.fin dx, h2, fun σ2 H2 Γ3 rp3 h3 eq => ?_⟩
    have ew : wipe σ2 vs = wipe σ vs := by rw [wipe_eqv eq hs, wipe_wipe]
    refine ⟨ew, B, _, _, Γ3, _, _, rp3, h3, fun b H3 Γ4 rp4 h4 => ?_, xl0 _ _ _⟩
    cases b with
    | false =>
      obtain ⟨Hs, r1, r2, J0⟩ := rp4
      obtain ⟨r2', J'⟩ := J0.wiped vs
      rw [ew] at J'
      exact iteF ⟨acc, _, J'.rep, h4⟩
    | true =>
      refine iteT ⟨B, _, _, Γ4, _, _, rp4, h4, fun v1 H4 d1 ds1 Γ5 J1 rp5 it1 h5 => ?_, xl0 _ _ _⟩
      obtain ⟨Hs5, r1, r2, K5⟩ := rp5
      obtain ⟨r2', K5'⟩ := K5.wiped vs1
      refine ⟨fun j m H => m = ds1.length - j ∧ j ≤ ds1.length ∧ ∃ acc Γ, Rep K S B (.val d1 :: (pre ++ .lst acc :: .val d :: Δ)) (v1 :: (us ++ .ref D :: v :: δ)) Γ (wipe σ2 vs1) H ∧
        wL2I g1 tt1 se vs1 (ds1.drop j) acc Γ fun acc' Γ5 => wL2L g tt w1 g1 tt1 se vs vs1 (ds.drop (i + 1)) acc' (wipeG Γ5 vs) fun acc Γ' => P (.lst acc) (rest (wipeG Γ' vs) (sv Γ1 vs)), ⟨_, rfl, Nat.zero_le _, acc, _, K5'.rep, h5⟩, ?_⟩
      rintro j m H ⟨rfl, hj, acc, Γ6, ⟨Hs6, s1, s2, I6⟩, h6⟩
      have dv1 : Den K B.tk Hs6 v1 d1 := by
        have tm' : Slots K B.tk Hs6 H (some (.val d1) :: (pre ++ .lst acc :: .val d :: Δ).map some) (some v1 :: (us ++ .ref D :: v :: δ).map some) s1 := I6.tm
        cases tm' with
        | cons ho _ => cases ho with
          | val dv => exact dv
      by_cases hlt1 : j < ds1.length
      · obtain ⟨hg1, hy1⟩ := it1.go rfl I6 dv1 hlt1
        refine .inr ⟨hg1, fun H => ∃ acc Γ, Rep K S B (.val d1 :: (pre ++ .lst acc :: .val d :: Δ)) (v1 :: (us ++ .ref D :: v :: δ)) Γ (wipe σ2 vs1) H ∧
          wL2I g1 tt1 se vs1 (ds1.drop (j + 1)) acc Γ fun acc' Γ5 => wL2L g tt w1 g1 tt1 se vs vs1 (ds.drop (i + 1)) acc' (wipeG Γ5 vs) fun acc Γ' => P (.lst acc) (rest (wipeG Γ' vs) (sv Γ1 vs)), fun H' ⟨acc', Γ', rp', h'⟩ => ⟨ds1.length - (j + 1), by omega, rfl, hlt1, acc', Γ', rp', h'⟩, fun x H' y => ?_⟩
        obtain ⟨Hs', d', e, I7, _, dx⟩ := hy1 x H' y
        rw [drop_get e] at h6
        refine ⟨B, _, _, Γ6, .val d', _, I7.fin dx, h6, fun σ3 H5 Γ7 rp7 h7 eq1 => ?_⟩
        have ew1 : wipe σ3 vs1 = wipe σ2 vs1 := by rw [wipe_eqv eq1 hs1, wipe_wipe]
        refine ⟨ew1, B, _, _, Γ7, _, _, rp7, h7, fun b H6 Γ8 rp8 h8 => ?_, xl0 _ _ _⟩
        cases b with
        | false =>
          obtain ⟨Hs, t1, t2, J0⟩ := rp8
          obtain ⟨t2', J'⟩ := J0.wiped vs1
          rw [ew1] at J'
          exact iteF ⟨acc, _, J'.rep, h8⟩
        | true =>
          refine iteT ⟨B, _, _, Γ8, _, _, rp8, h8, fun z H7 r Γ9 rp9 h9 => ?_, xl0 _ _ _⟩
          obtain ⟨hz, h9⟩ := h9
          obtain ⟨Hs9, t1, t2, I9, dz⟩ := rp9.frz
          obtain ⟨v', q, hv', ho⟩ := I9.tmAt (i := pre.length + 1) (r := .lst acc) (by rw [List.getElem?_cons_succ, List.getElem?_append_right (by omega)]; simp)
          rw [List.getElem?_cons_succ, List.getElem?_append_right (by omega), lpre, Nat.sub_self] at hv'
          simp at hv'
          subst hv'
          cases ho with
          | @lst _ accV _ hp da =>
            have IA := I9.writeT (i := pre.length + 1) (p := D) (r := .lst acc) (r' := .lst (acc ++ [r.d])) (o := .lst (accV ++ [z])) (by rw [List.getElem?_cons_succ, List.getElem?_append_right (by omega)]; simp)
              (by rw [List.getElem?_cons_succ, List.getElem?_append_right (by omega), lpre]; simp) (fun {q} ho => by cases ho; rfl) (.lst upd_same (da.append (.cons dz .nil)))
            have es : (R.val d1 :: (pre ++ R.lst acc :: .val d :: Δ)).set (pre.length + 1) (.lst (acc ++ [r.d])) = .val d1 :: (pre ++ R.lst (acc ++ [r.d]) :: .val d :: Δ) := by
              rw [List.set_cons_succ, List.set_append_right _ _ (Nat.le_refl _)]
              simp
            rw [es] at IA
            obtain ⟨t2', IB⟩ := IA.wiped vs1
            rw [ew1] at IB
            exact ⟨accV, hp, by rw [da.length]; exact hz, acc ++ [r.d], _, IB.rep, h9⟩
      · have e : j = ds1.length := by omega
        subst e
        rw [List.drop_length] at h6
        obtain ⟨s1', I7⟩ := I6.pop
        obtain ⟨s2', I8⟩ := I7.wiped vs
        rw [wipe_eqv (eqv_wipe vs1 σ2) hv, ew] at I8
        exact .inl ⟨it1.stop rfl I6 dv1 (Nat.le_refl _), acc, _, I8.rep, h6⟩
  · have e : i = ds.length := by omega
    subst e
    rw [List.drop_length] at h2
    refine .inl ⟨it.stop rfl I4 dv (Nat.le_refl _), ?_⟩
    obtain ⟨q2', I5⟩ := I4.wiped vs
    rw [wipe_wipe] at I5
    have I6 := I5.back
    have lΓ : Γ2.length = Γ1.length := by rw [← lenσ I4.rep, l0]
    rw [← hpre] at I6
    obtain ⟨r1, r2, I7, _⟩ := RepI.restored (sv Γ1 vs) u1 u2 (fun q hq => by
      have := (List.getElem?_eq_some_iff.mp (sv_mem hq)).1
      rw [wipeG_length, lΓ]
      exact this) I6
    obtain ⟨r1', I8⟩ := I7.drop2
    exact k _ _ _ _ I8.rep h2
end
section
variable {X : Cx} {S : SK} {W : WX} {pos : Pos} {elt tg iter tg1 iter1 : Expr} {ifs ifs1 : List Expr} {scope : Scope} {own : List (Str × Nat)} {w w1 : WA} {g g1 : WG} {tt tt1 : WT} {se : WE} {is is1 vs1 : List Nat}
theorem pd_lc2 (hc : X.calm = true) (hN : X.N.Nodup) (hi : PI X tg iter (DI X.K S X.mg W w)) (ok : BlkOk X.N X.env.scope scope own) (hs : ∀ i ∈ is, i ∈ own.map (·.2)) (hs1 : ∀ i ∈ is1, i ∈ vs1) (hv : ∀ i ∈ vs1, i ∈ own.map (·.2))
    (hg : ∀ (s : Shared) (H : Hp) (C : Addr) (cl : List (Str × Addr)) (fp : List Addr), PG (X.blk s H scope (compEnvC scope cl C X.env) fp) tg (DG X.K S is g))
    (ht : ∀ (s : Shared) (H : Hp) (C : Addr) (cl : List (Str × Addr)) (fp : List Addr), PTs (X.blk s H scope (compEnvC scope cl C X.env) fp) ifs (DT X.K S X.mg W0 tt))
    (hi1 : ∀ (s : Shared) (H : Hp) (C : Addr) (cl : List (Str × Addr)) (fp : List Addr), PI (X.blk s H scope (compEnvC scope cl C X.env) fp) tg1 iter1 (DI X.K S X.mg W0 w1))
    (hg1 : ∀ (s : Shared) (H : Hp) (C : Addr) (cl : List (Str × Addr)) (fp : List Addr), PG (X.blk s H scope (compEnvC scope cl C X.env) fp) tg1 (DG X.K S is1 g1))
    (ht1 : ∀ (s : Shared) (H : Hp) (C : Addr) (cl : List (Str × Addr)) (fp : List Addr), PTs (X.blk s H scope (compEnvC scope cl C X.env) fp) ifs1 (DT X.K S X.mg W0 tt1))
    (he : ∀ (s : Shared) (H : Hp) (C : Addr) (cl : List (Str × Addr)) (fp : List Addr), PE (X.blk s H scope (compEnvC scope cl C X.env) fp) elt (DE X.K S X.mg W0 se)) (hf : ∀ x, foldedSetIterable iter X.env x = pure x := by intro _; rfl) (hf1 : ∀ env x, foldedSetIterable iter1 env x = pure x := by intro _ _; rfl) :
    PE X (.ListComp elt [⟨tg, iter, ifs, 0⟩, ⟨tg1, iter1, ifs1, 0⟩] scope pos) (DE X.K S X.mg W (wLc2 w g tt w1 g1 tt1 se (own.map (·.2)) vs1)) :=
  PE.imp (pe_lc2 hc hN hi ok hv hg ht hi1 hg1 ht1 he hf hf1) fun _ _ _ h => lc2_run hs hs1 hv h
end
end DL

set_option maxHeartbeats 1000000
namespace DL
open PySem PySem.Spec L2
theorem wLc2_q : type_of% @wLc2.eq_1 := by intros; exact Eq.trans (by rw [wLc2.eq_1]) rfl
section
variable {Γ Γi : Nv}
/-- the inner walk, over a list, the names as they were -/
theorem wL2I_lst {β : Type} {g : WG} {tt : WT} {se : WE} {vs : List Nat} (c : β → D) (f : β → D) {Q : List D → Nv → Prop} : ∀ (m : List β) (acc : List D), acc.length + m.length ≤ sizeLine →
    (∀ (x : β) (acc : List D) (k : List D → Nv → Prop), x ∈ m → acc.length < sizeLine → k (acc ++ [f x]) Γ → g (.val (c x)) Γ fun Γ2 => tt (fun _ _ => False) Γ2 fun b Γ3 => if b = true then se (fun _ _ => False) Γ3 fun r Γ4 => acc.length < sizeLine ∧ k (acc ++ [r.d]) (wipeG Γ4 vs) else k acc (wipeG Γ3 vs)) →
    Q (acc ++ m.map f) Γ → wL2I g tt se vs (m.map c) acc Γ Q
  | [], acc, _, _, h => by
    show Q acc Γ
    simpa using h
  | x :: m, acc, hl, step, h => by
    rw [List.length_cons] at hl
    refine step x acc (fun acc' Γ' => wL2I g tt se vs (m.map c) acc' Γ' Q) (by simp) (by omega) ?_
    refine wL2I_lst c f m (acc ++ [f x]) (by simp; omega) (fun y acc k hy => step y acc k (by simp [hy])) ?_
    simpa using h
/-- the outer walk: each x is walked over m x -/
theorem wL2L_lst {α β : Type} {g : WG} {tt : WT} {w1 : WA} {g1 : WG} {tt1 : WT} {se : WE} {vs vs1 : List Nat} (c : α → D) (m : α → List β) (f : α → β → D) {Q : List D → Nv → Prop} : ∀ (l : List α) (acc : List D), acc.length + (l.map fun x => (m x).length).sum ≤ sizeLine →
    (∀ (x : α) (acc : List D) (k : List D → Nv → Prop), x ∈ l → acc.length + (m x).length ≤ sizeLine → k (acc ++ (m x).map (f x)) Γ → g (.val (c x)) Γ fun Γ2 => tt (fun _ _ => False) Γ2 fun b Γ3 => if b = true then w1 (fun _ _ => False) Γ3 fun ds1 Γ4 => wL2I g1 tt1 se vs1 ds1 acc (wipeG Γ4 vs1) (fun acc' Γ5 => k acc' (wipeG Γ5 vs)) else k acc (wipeG Γ3 vs)) →
    Q (acc ++ (l.map fun x => (m x).map (f x)).flatten) Γ → wL2L g tt w1 g1 tt1 se vs vs1 (l.map c) acc Γ Q
  | [], acc, _, _, h => by
    show Q acc Γ
    simpa using h
  | x :: l, acc, hl, step, h => by
    rw [List.map_cons, List.sum_cons] at hl
    refine step x acc (fun acc' Γ' => wL2L g tt w1 g1 tt1 se vs vs1 (l.map c) acc' Γ' Q) (by simp) (by omega) ?_
    refine wL2L_lst c m f l (acc ++ (m x).map (f x)) (by simp; omega) (fun y acc k hy => step y acc k (by simp [hy])) ?_
    simpa using h
end
end DL

set_option maxHeartbeats 1000000
namespace DL
open PySem PySem.Spec L2
/-! ### texts: lengths, parts -/
theorem sapp_len (a b : Str) : (a ++ b : Str).length = a.length + b.length := by
  show (a.cps ++ b.cps).size = _
  rw [Array.size_append]; rfl
theorem s1_len (c : Nat) : (⟨#[c]⟩ : Str).length = 1 := rfl
theorem cutS_cps (a : Str) (lo hi : Option Int) : (cutS a lo hi).cps.toList = (a.cps.toList.drop (HT.sIx a.length 0 lo)).take (HT.sIx a.length a.length hi - HT.sIx a.length 0 lo) := by
  unfold cutS; simp
theorem slen (a : Str) : a.cps.toList.length = a.length := Array.length_toList
theorem cutS_take (a : Str) (n : Nat) : (cutS a none (some (n : Int))).cps.toList = a.cps.toList.take n := by
  rw [cutS_cps, HT.sIx_nat a.length a.length n, HT.sIx_none, List.drop_zero, Nat.sub_zero]
  by_cases h : n ≤ a.length
  · rw [Nat.min_eq_left h]
  · rw [Nat.min_eq_right (by omega), ← slen, List.take_length, List.take_of_length_le (by rw [slen]; omega)]
theorem cutS_drop (a : Str) (n : Nat) : (cutS a (some (n : Int)) none).cps.toList = a.cps.toList.drop n := by
  rw [cutS_cps, HT.sIx_nat a.length 0 n, HT.sIx_none]
  by_cases h : n ≤ a.length
  · rw [Nat.min_eq_left h, List.take_of_length_le]
    rw [List.length_drop, slen]
    omega
  · rw [Nat.min_eq_right (by omega), Nat.sub_self, List.take_zero, List.drop_eq_nil_of_le (by rw [slen]; omega)]
theorem cutS_takeL (a : Str) {i : Int} (h : 0 ≤ i) : (cutS a none (some i)).length = min i.toNat a.length := by
  obtain ⟨n, rfl⟩ := Int.eq_ofNat_of_zero_le h
  rw [← slen, cutS_take, List.length_take, slen]; rfl
theorem cutS_dropL (a : Str) {i : Int} (h : 0 ≤ i) : (cutS a (some i) none).length = a.length - i.toNat := by
  obtain ⟨n, rfl⟩ := Int.eq_ofNat_of_zero_le h
  rw [← slen, cutS_drop, List.length_drop, slen]; rfl
section
variable {P : R → Prop}
theorem wIx_sn {z : Str} {i : Int} {n : Nat} (e : i = (n : Nat)) (h : n < z.length) (k : ∀ c, z.cps.toList[n]? = some c → P (.val (.str ⟨#[c]⟩))) : wIx (.str z) (.int i) P := by
  have h' : n < z.cps.toList.length := by rw [slen]; exact h
  have e2 : z.cps.toList[n]? = some (z.cps.toList[n]'h') := List.getElem?_eq_getElem h'
  exact ⟨_, atI_lt e e2, k _ e2⟩
end
/-! upper -/
theorem shifted_lt (M : Nat) : ∀ (l : List (Nat × Nat × Nat)), l.all (fun p => decide (p.2.2 + (p.2.1 - p.1) < M)) = true → ∀ c d, Unicode.shifted l c = some d → d < M
  | [], _, c, d, h => by simp [Unicode.shifted] at h
  | (a, b, t) :: r, hl, c, d, h => by
    simp only [List.all_cons, Bool.and_eq_true, decide_eq_true_eq] at hl
    unfold Unicode.shifted at h
    split at h
    · cases h
    · split at h
      · cases h
        have := hl.1
        omega
      · exact shifted_lt M r hl.2 c d h
theorem look_all {α : Type} {p : α → Bool} {c : Nat} {cs : α} : ∀ {l : List (Nat × α)}, l.all (fun q => p q.2) = true → l.lookup c = some cs → p cs = true
  | [], _, h => by simp at h
  | (a, b) :: r, hl, h => by
    simp only [List.all_cons, Bool.and_eq_true] at hl
    rw [List.lookup_cons] at h
    split at h
    · cases h; exact hl.1
    · exact look_all hl.2 h
theorem upperOf_ok {c : Nat} (h : c < 0x110000) : ∀ d ∈ Unicode.upperOf c, d < 0x110000 := by
  have t1 : UnicodeData.oneUpper.all (fun p => decide (p.2.2 + (p.2.1 - p.1) < 0x110000)) = true := by decide +kernel
  have t2 : UnicodeData.severalUpper.all (fun q => q.2.all fun d => decide (d < 0x110000)) = true := by decide +kernel
  intro d hd
  unfold Unicode.upperOf Unicode.image at hd
  split at hd
  · rename_i cs e
    have := look_all (p := fun l => l.all fun d => decide (d < 0x110000)) t2 e
    rw [List.all_eq_true] at this
    simpa using this d hd
  · rw [List.mem_singleton] at hd
    subst hd
    cases e : Unicode.shifted UnicodeData.oneUpper c with
    | none => exact h
    | some d => exact shifted_lt _ _ t1 c d e
theorem SOk.upper {s : Str} (hs : SOk s) (h : s.length ≤ 5592405) : SOk (Txt.upper s) := by
  refine ⟨?_, ?_⟩
  · have h1 := hs.1
    unfold PyData.strOk at h1 ⊢
    rw [← Array.all_toList, List.all_eq_true] at h1 ⊢
    intro d hd
    have hd' : d ∈ (s.cps.mapIdx fun _ c => (Unicode.upperOf c).toArray).flatten := Array.mem_toList_iff.mp hd
    rw [Array.mem_flatten] at hd'
    obtain ⟨a, ha, hda⟩ := hd'
    rw [Array.mem_mapIdx] at ha
    obtain ⟨i, hi, rfl⟩ := ha
    have hc : s.cps[i] < 0x110000 := by simpa using h1 s.cps[i] (by simp)
    simpa using upperOf_ok hc d (by simpa using hda)
  · have := PyProof.Rows.len_upper s
    rw [sizeLine_eq]
    omega
theorem wTxt_up {s : Str} {P : R → Prop} : wTxt (fun a => a.length ≤ 5592405) Txt.upper (.str s) [] P = (s.length ≤ 5592405 ∧ P (.val (.str (Txt.upper s)))) := by
  unfold wTxt
  refine propext ⟨fun ⟨s', e, _, h1, _, h2⟩ => ?_, fun ⟨h1, h2⟩ => ⟨s, rfl, rfl, h1, fun hs => hs.upper h1, h2⟩⟩
  cases e
  exact ⟨h1, h2⟩
theorem ofs_len (s : String) : (Str.ofString s).length = s.toList.length := by
  rw [PySem.Str.ofString_eq_toList]
  show Array.size _ = _
  simp
end DL

set_option maxHeartbeats 1000000
namespace DL
open PySem PySem.Spec L2
/-! ### constants of the module, checked by computing -/
def vB (K : PySem.W.Frag) : Nat → Value → D → Bool
  | 0, _, _ => false
  | _ + 1, .none, .non => true
  | _ + 1, .bool b, .bl c => b == c
  | _ + 1, .int i _, .int j => decide (i = j)
  | _ + 1, .str x _, .str y => decide (x = y) && PyData.strOk y && decide (y.length ≤ sizeLine)
  | n + 1, .ref a, .tup ds => (match K.lookup a with
    | some ⟨.type t, _, .seq its _, _⟩ => decide (t = "tuple") && decide (its.size ≤ sizeLine) && decide (its.toList.length = ds.length) && (its.toList.zip ds).all fun p => vB K n p.1 p.2
    | _ => false)
  | _ + 1, _, _ => false
theorem vB_all {K : PySem.W.Frag} {Pr : Value → D → Prop} : ∀ (us : List Value) (ds : List D), us.length = ds.length → (∀ p ∈ us.zip ds, ∃ x, RelV x p.1 ∧ ∀ tk H, Den K tk H x p.2) → ∃ xs, Vals xs us ∧ ∀ tk H, DenAll K tk H xs ds
  | [], [], _, _ => ⟨[], .nil, fun _ _ => .nil⟩
  | u :: us, d :: ds, hl, h => by
    obtain ⟨x, h1, h2⟩ := h (u, d) (by simp)
    obtain ⟨xs, h3, h4⟩ := vB_all (Pr := Pr) us ds (by simpa using hl) fun p hp => h p (by simp [hp])
    exact ⟨x :: xs, .cons h1 h3, fun tk H => .cons (h2 tk H) (h4 tk H)⟩
theorem vB_den {K : PySem.W.Frag} : ∀ (n : Nat) (v : Value) (d : D), vB K n v d = true → ∃ x, RelV x v ∧ ∀ tk H, Den K tk H x d := by
  intro n
  induction n with
  | zero => intro v d h; simp [vB] at h
  | succ n ih =>
    intro v d h
    unfold vB at h
    split at h
    · cases h
    · exact ⟨.non, rfl, fun _ _ => .non⟩
    · rename_i b c _
      have : b = c := by simpa using h
      subst this
      exact ⟨.bl b, rfl, fun _ _ => .bl b⟩
    · rename_i i t j _
      have : i = j := by simpa using h
      subst this
      exact ⟨.int i, ⟨t, rfl⟩, fun _ _ => .int i⟩
    · rename_i x t y _
      simp only [Bool.and_eq_true, decide_eq_true_eq] at h
      obtain ⟨⟨rfl, h1⟩, h2⟩ := h
      exact ⟨.str x, ⟨t, rfl⟩, fun _ _ => .str ⟨h1, h2⟩⟩
    · rename_i m a ds hm
      cases hm
      split at h
      · rename_i t dd its cap sl hl
        simp only [Bool.and_eq_true, decide_eq_true_eq, List.all_eq_true] at h
        obtain ⟨⟨⟨rfl, h1⟩, h2⟩, h3⟩ := h
        obtain ⟨xs, h4, h5⟩ := vB_all (K := K) (Pr := fun _ _ => True) its.toList ds h2 fun p hp => ih p.1 p.2 (h3 p hp)
        exact ⟨.ref a, rfl, fun tk H => .tup (.inr ⟨_, its, cap, hl, rfl, rfl, h1, h4⟩) (h5 tk H)⟩
      · cases h
    · cases h
def gcB (K : PySem.W.Frag) (x : Str) (d : D) : Bool := match PySem.W.nsIn K mainGlobals x with
  | some (some v) => vB K 9 v d
  | _ => false
theorem gc_of {K : PySem.W.Frag} {h : Heap} {mg : Str → Option Value} {x : Str} {d : D} (X : K.In h) (G : h.Ns mainGlobals mg) (e : gcB K x d = true) : Gc K mg x d := by
  unfold gcB at e
  split at e
  · rename_i v hv
    obtain ⟨w, h1, h2⟩ := vB_den _ _ _ e
    exact ⟨v, w, PySem.W.mg_of X G hv, h1, h2⟩
  · cases e
end DL

set_option maxHeartbeats 2000000
namespace DL
open PySem PySem.Spec PySem.W L2 NdefX ClX

/-! ### an own exception's __init__: super().__init__(..), then the fields -/
section
variable {X : L2.Cx} {pins : List (Addr × Obj)} {σ : L2.St} {H : Hp} {s : Shared} {E : Value → Shared → Prop}
/-- the bound ValueError.__init__, called -/
theorem call_vb {u a C : Addr} {us : List Value} {Q : Value → Shared → Prop} {A : Around} (T : OexC X.K C) (I : Inv X pins σ H s) (e : H a = some (exo a C none)) (hu : s.heap.get? u = some (kxs_mw "ValueError.__init__" a)) (hl : us.length ≤ sizeLine)
    (h : ∀ s', Inv X pins σ H s' → Q .none s') : wpAny (model X.prog X.w) A (call (.ref u) us) Q E s := by
  obtain ⟨nm, q, N, bs, bm, sn, sub, ab, col, dd, k0, k1, k2, k3, k5, hC, hbm⟩ := T.cls
  obtain ⟨t1, ho⟩ := exo_at I.hok e
  obtain ⟨hp, g, d, t, os⟩ := s
  refine wpAny_call (codeAny_of_tree ?_)
  show wpAny (model X.prog X.w) A.in1 (callAny (Value.ref u) ⟨us, []⟩) _ _ _
  simp only [callAny]
  refine wpAny_bind (wpAny_load hu ?_)
  simp only [kxs_mw]
  refine KFB.if_so (by decide) ?_
  have hC' := I.kIn _ _ hC
  refine wpAny_bind (PySem.ESX.check_bound PySem.F.excBase_ValueError hC' ho rfl (wpAny_bind (wpAny_pure (wpAny_pure ?_))))
  refine ⟨Code.quiet_builtin ⟨.ref a :: us, []⟩ (by decide +kernel), codeAny_builtin PySem.F.excBase_ValueError.initEntry ?_⟩
  rw [Around.under_plainId (PySem.F.excBase_ValueError).init.plain _]
  wp_walk
  have k : ∀ b o, b ≠ a → hp.get? b = some o → ((hp.push { cls := Value.type "tuple", data := Data.seq us.toArray }).update a (Obj.mapFields fun x => x.setIfInBounds 0 (Value.ref hp.objs.size))).get? b = some o := fun b o hb e => by
    rw [Heap.get?_update_other _ _ (Ne.symm hb)]; exact Heap.get?_push_of_some _ e
  have hx : ((hp.push { cls := Value.type "tuple", data := Data.seq us.toArray }).update a (Obj.mapFields fun x => x.setIfInBounds 0 (Value.ref hp.objs.size))).get? a = some ({ cls := .ref C, dict := none, data := .fields #[.ref hp.objs.size, .none, .none, .none, .bool false, .none] } : Obj) := by
    rw [Heap.get?_update_self _ (Heap.get?_push_of_some _ ho) rfl]; rfl
  have J := I.write (t' := t) (x := a) (e := a) (o := exo a C none) (by rw [e]; trivial) (.inl rfl) k ⟨_, hx⟩ (exo_ok hx)
  have eu : upd H a (exo a C none) = H := by
    funext b
    by_cases hb : b = a
    · rw [hb, upd_same, e]
    · rw [upd_ne hb]
  rw [eu] at J
  exact h _ J
/-- what __init__ promises -/
def spI (C : Addr) (flds : List Str) : Sp := fun vs H Q _ => ∃ (a : Addr) (ys : List V), vs = .ref a :: ys ∧ ys.length = flds.length ∧ 0 < ys.length ∧ ys.length ≤ 9 ∧ H a = some (exo a C none) ∧
  ∀ dx, H dx = none → dx ≠ a → Q .non (upd (upd H dx (exd dx (flds.zip ys).reverse)) a (exo a C (some dx)))
/-- what the written part says of the class at C and its __init__ at f -/
structure InK (P : Program) (K : PySem.W.Frag) (qual : Str) (st : Stmt) (C f : Addr) (fd : FuncData) (cda cc : Addr) : Prop where
  ex : ∃ (oc : Value) (od : Option Addr) (kV doc pm : Value) (an : Option Addr) (ct : Value) (osl : Array (Option Value)), fd = fnX "__init__" qual (defArgs st) (defBody st) (defScope st) [("__class__", cc)] .none kV doc pm an (.ref cda) ct ∧ K.lookup f = some ⟨oc, od, .func fd, osl⟩
  cd : codeIn K (.ref cda) qual = true
  file : ∃ ccl cdd vs ccs file tf, K.lookup cda = some ⟨ccl, cdd, .fields vs, ccs⟩ ∧ vs[2]? = some (.str file tf) ∧ ((P.main.file : Str) == file) = true
  cell : ∃ cl cld csl, K.lookup cc = some ⟨cl, cld, .cell (some (.ref C)), csl⟩
  sup : ks_superIn K C C "__init__" = some (some (.builtin "ValueError.__init__"))
  mroC : mroIn K C (.ref C) = some true
  mroV : mroIn K C (.type "ValueError") = some true
  opq : nsIn K cStatics "thirdparty.any" = some none
  top : (P.main.scope.names.lookup ("super" : Str)).isSome = false
def iniF (qual : Str) (st : Stmt) (cda cc : Addr) : NF := ⟨"__init__", qual, defArgs st, defBody st, defScope st, [("__class__", cc)], cda⟩
theorem init_ok {P : Program} {w : World} {K : PySem.W.Frag} {mg : Str → Option Value} {base : Heap} {qual : Str} {st : Stmt} {C f cda cc : Addr} {fd : FuncData} {flds : List Str} {N : List Str} {ta : TA} {tr : TS} {p0 p1 p2 p3 p4 : Pos} {e : Expr} {es : List Expr} {rest : List Stmt} {pl : Sem Bool}
    (IK : InK P K qual st C f fd cda cc) (T : OexC K C) (hsu : mg "super" = none) (S : NScope N (("self" : Str) :: flds) ["__class__"] (defScope st)) (hb : defBody st = .Expr (.Call (.Attribute (.Call (.Name "super" p0) [] [] p1) "__init__" p2) (e :: es) [] p3) p4 :: rest)
    (hks : (defScope st).names.lookup ("super" : Str) = some .globalImplicit) (hself : ((defArgs st).posonlyargs ++ (defArgs st).args).head?.map (·.arg) = some ("self" : Str))
    (hbody : ∀ (A : Around) (outer : List Env) (s : Shared) (H : Hp) (E : XK), PA (ncx (L2.CX P w) P w K mg base N (iniF qual st cda cc) f A outer s H E) (e :: es) ta ∧ starEach (e :: es) (envF (iniF qual st cda cc) f s.heap.objs.size) = (false, eval e (envF (iniF qual st cda cc) f s.heap.objs.size)) :: starEach es (envF (iniF qual st cda cc) f s.heap.objs.size) ∧
      (backTo p3 (starEach es (envF (iniF qual st cda cc) f s.heap.objs.size))).any (·.1) = false ∧ PSs (ncx (L2.CX P w) P w K mg base N (iniF qual st cda cc) f A outer s H E) rest tr ∧
      swapsWith (.Call (.Attribute (.Call (.Name "super" p0) [] [] p1) "__init__" p2) (e :: es) [] p3) none p4.line (envF (iniF qual st cda cc) f s.heap.objs.size) = pure false ∧
      eval (.Call (.Attribute (.Call (.Name "super" p0) [] [] p1) "__init__" p2) (e :: es) [] p3) (envF (iniF qual st cda cc) f s.heap.objs.size) = (do let ov ← attributeBase (.Call (.Name "super" p0) [] [] p1) "__init__" (envF (iniF qual st cda cc) f s.heap.objs.size) (eval (.Call (.Name "super" p0) [] [] p1) (envF (iniF qual st cda cc) f s.heap.objs.size)); standAt p2.atName; let (g, first) ← holding [ov] (getMethod ov "__init__" pl); callWith p3 g first (backTo p3 (starEach (e :: es) (envF (iniF qual st cda cc) f s.heap.objs.size))) []))
    (hread : ∀ (a : Addr) (ys : List V) (H : Hp) (Q : VK), ys.length = flds.length → 0 < ys.length → ys.length ≤ 9 → H a = some (exo a C none) → (∀ dx, H dx = none → dx ≠ a → Q .non (upd (upd H dx (exd dx (flds.zip ys).reverse)) a (exo a C (some dx)))) →
      ta (startF N (.ref a :: ys) [none]) H fun ws H1 => H1 = H ∧ ws.length ≤ 1000 ∧ tr { nx := fun _ H' => Q .non H', rt := Q } (startF N (.ref a :: ys) [none]) H) :
    FnOk P w K mg base (L2.CX P w) 1 f fd (("self" : Str) :: flds) (spI C flds) := by
  refine ⟨fun vs H Q E ⟨a, ys, e1, e2, _⟩ => by subst e1; simp [e2], fun A outer s H args us vs Q E hr e0 hbind hv hsp => ?_⟩
  obtain ⟨a, ys, rfl, hys, hy0, hy9, ha, hq⟩ := hsp
  obtain ⟨oc, od, kV, doc, pm, an, ct, osl, rfl, hf⟩ := IK.ex
  obtain ⟨ccl, cdd, cvs, ccs, file, tf, hcode, hvs, hfile⟩ := IK.file
  obtain ⟨cl, cld, csl, hcell⟩ := IK.cell
  have kp0 : ∀ b o, base.get? b = some o → s.heap.get? b = some o := fun b o q => (e0.bs b o q).1
  have kin : K.In s.heap := e0.mod.kin.keeps kp0
  have lim : s.heap.NoLimit := e0.mod.nolimit.keeps kp0
  have hccH : H cc = none := (e0.bs _ _ (e0.mod.kin _ _ hcell)).2
  have hl : (V.ref a :: ys).length = (("self" : Str) :: flds).length := by simp [hys]
  have CA : CellsAt [(("__class__" : Str), cc)] ["__class__"] [none] s.heap H := by
    refine ⟨rfl, fun y c hy => ?_, fun x y c hx hy => ?_, fun i y hy => ?_⟩
    · rw [List.lookup_cons] at hy
      split at hy
      · cases hy; exact ⟨hccH, _, _, kin _ _ hcell, rfl⟩
      · simp at hy
    · have z : ∀ x, ([((("__class__" : Str)), cc)] : List (Str × Addr)).lookup x = some c → x = "__class__" := fun x hx => by
        have := PySem.mem_of_lookup hx
        simp at this
        exact this.1
      rw [z x hx, z y hy]
    · cases i with
      | zero => simp at hy; subst hy; exact ⟨cc, rfl, fun v hv => by simp at hv⟩
      | succ i => simp at hy
  obtain ⟨hpa, hst, hany, hps, hsw, hev⟩ := hbody A outer s H E
  refine ks_codeAny_call_defAt (binds := (("self" : Str) :: flds).zip us) hr.depth (kin _ _ hf) rfl lim (codeRec_of kin IK.cd) rfl hbind S.nocell (fun y hy => S.par y.1 (List.of_mem_zip hy).1) (fun h₀ hns kp => ?_) S.co S.gen S.kind
  have I : L2.Inv (ncx (L2.CX P w) P w K mg base N (iniF qual st cda cc) f A outer s H E) [] (startF N (.ref a :: ys) [none]) H { s with heap := h₀, toks := s.toks + ((("self" : Str) :: flds).zip us).length } := inv_startN S hr.hd e0 hl hv CA hns kp
  have kin0 : K.In h₀ := kin.keeps kp
  obtain ⟨nm, q, N', bs, bm, sn, sub, ab, col, dd, k0, k1, k2, k3, k5, hC, hbm⟩ := T.cls
  obtain ⟨t1, hoa⟩ := exo_at I.hok ha
  obtain ⟨ar, har, har2⟩ := Option.map_eq_some_iff.mp hself
  have hcl : clsIn K C = some { name := nm, bases := bs, mro := .ref C :: bm, ns := N', qualname := q, hasDict := true, slotNames := sn, subclasses := sub, abstract := ab, collection := col, hasDel := false } := by unfold clsIn; rw [hC] <;> rfl
  have haC : a ≠ C := fun z => by
    have h1 := kin0 _ _ hC
    have h2 : h₀.get? a = _ := hoa
    rw [z, h1] at h2
    cases h2
  have hkc : (defScope st).names.lookup ("__class__" : Str) = some .free := S.frk _ (by simp)
  have hksf : (defScope st).names.lookup ar.arg = some .local := by rw [har2]; exact S.par _ (by simp)
  have hsup : alongIn K "__init__" bm = some (some (.builtin "ValueError.__init__")) := by
    have h1 := IK.sup
    unfold ks_superIn at h1
    rw [hcl] at h1
    rw [Option.bind_some] at h1
    simpa [List.dropWhile_cons] using h1
  have hvself : ((("self" : Str) :: flds).zip us).reverse.lookup ar.arg = some (.ref a) := by
    rw [har2]
    have nd : ((("self" : Str) :: flds)).Nodup := by
      have z := S.nd.sublist (List.take_sublist ((("self" : Str) :: flds).length + 1) N)
      have z2 := S.pre
      simp only [List.length_cons, List.length_nil] at z z2
      rw [z2] at z
      exact (List.nodup_append.mp z).1
    cases hv with
    | cons r _ => exact zip_look (i := 0) nd rfl (by rw [show _ = Value.ref a from r]; rfl)
  show wpAt (model P w) (A.deeper (envF (iniF qual st cda cc) f s.heap.objs.size)) (.func (defBody st) (envF (iniF qual st cda cc) f s.heap.objs.size)) (execs (defBody st) (envF (iniF qual st cda cc) f s.heap.objs.size)) _ _ _
  rw [hb]
  refine ks_wpAt_execs_cons (ks_wpAt_Expr_any (ks_wpAt_MethodCall ?_ hev) (by unfold interactive; simp [envF, iniF, S.kind]) hsw)
  refine ks_wpAt_super_base hks hkc (by decide) rfl (kin0 _ _ hf) rfl har rfl (kin0 _ _ hcode) rfl hvs hfile IK.top ?_
  obtain ⟨mb, hb1, hb2⟩ := e0.mod.blt
  refine ks_loadName_global S.kind hks (Calls.loadGlobal_builtin (e0.mod.glob.keeps fun b o z => kp _ _ (kp0 _ _ z)) hsu (hb1.keeps fun b o z => kp _ _ (kp0 _ _ z)) ((hb2 "super" (by decide)).trans PyProof.Rows.Boot.«super») ⟨rfl, ?_⟩)
  refine wpAny_loadName_free S.kind hkc rfl ⟨_, kin0 _ _ hcell, rfl⟩ ?_
  refine wpAny_loadName_local S.kind hksf hns hvself ?_
  refine ks_wpAny_isType_cls (kin0 _ _ hC) rfl ⟨rfl, ?_⟩
  refine ks_wpAny_call_super (kin0 _ _ hC) rfl hoa rfl (fun c z => by cases z) (looks_mroIn kin0 IK.mroC) (fun h1 e1 kp1 => ?_)
  have kin1 : K.In h1 := kin0.keeps kp1
  have hoa1 := kp1 _ _ hoa
  refine kxs_getMethod kxs_ValueError e1 (looks_opaque kin1 IK.opq) (l₀ := .ref C :: bm) (fun A Q E s k q => wpAny_bind ((looks_clsIn kin1 hcl) A _ E s k (wpAny_pure q))) (l := bm) (by simp [List.dropWhile_cons]) kin1 hsup ?_ haC (by decide) ?_
  · have IA : InstAt h1 a _ C none := ⟨hoa1, rfl, rfl, trivial⟩
    exact IA.type.andThen (looks_mroIn kin1 IK.mroV)
  · have I1 := I.kept (t' := s.toks + ((("self" : Str) :: flds).zip us).length) kp1
    have hmw : (h1.push (kxs_mw "ValueError.__init__" a)).get? h1.objs.size = some (kxs_mw "ValueError.__init__" a) := Heap.get?_push_size _ rfl
    have I2 := pin_new (t' := s.toks + ((("self" : Str) :: flds).zip us).length + 1) I1 (fun b o z => Heap.get?_push_of_some _ z) (Nat.le_refl _) hmw (fun v z => by cases z)
    show wpAny (model P w) _ (callWith p3 (.ref h1.objs.size) [] (backTo p3 (starEach (e :: es) (envF (iniF qual st cda cc) f s.heap.objs.size))) []) _ _ _
    have run := hpa.run p3 _ _ _ H _ I2 (hread a ys H Q hys hy0 hy9 ha hq)
    rw [show (ncx (L2.CX P w) P w K mg base N (iniF qual st cda cc) f A outer s H E).env = envF (iniF qual st cda cc) f s.heap.objs.size from rfl] at run
    rw [hst] at run ⊢
    refine kxs_callWith (i := "ValueError.__init__") (x := a) (show (false || (backTo p3 (starEach es (envF (iniF qual st cda cc) f s.heap.objs.size))).any (·.1)) = false by rw [hany]; rfl) (Calls.evalArgs_plain (thn run fun xs s2 hx => ?_))
    obtain ⟨ws, H2, I3, r3, rfl, hws, htr⟩ := hx
    refine ⟨pin_at I3, call_vb T (unpin I3) ha (pin_at I3) (show xs.length ≤ sizeLine by rw [← r3.length, sizeLine_eq]; omega) fun s3 J => ?_⟩
    refine wpAt_of_wpAny (wpAny_mono (hps.run [] _ _ _ _ J htr) (fun fl s4 hs => ?_) fun e s' hs => hs)
    have fin : ∀ {σ' : L2.St} {H' : Hp} {v : V} {u : Value}, L2.Inv (ncx (L2.CX P w) P w K mg base N (iniF qual st cda cc) f A outer s H2 E) [] σ' H' s4 → L2.RelV v u → Q v H' → CE outer P w H2 s Q u s4 :=
      fun {σ' H' v u} J rv q => ⟨v, H', J.os, J.bare, J.base, J.hok, rv, q⟩
    cases fl with
    | ret u =>
      obtain ⟨v, σ', H', J, rv, q⟩ := hs
      exact fin J rv q
    | next =>
      obtain ⟨σ', H', J, q⟩ := hs
      exact fin (v := V.non) (u := Value.none) J rfl q
    | brk => exact (hs.choose_spec.choose_spec.2).elim
    | cont => exact (hs.choose_spec.choose_spec.2).elim
end
end DL

set_option maxHeartbeats 2000000
namespace DL
open PySem PySem.Spec L2
/-! ### raise -/
/-- an own class x whose __init__ keeps the fields flds -/
structure Rz (P : Program) (w : World) (K : PySem.W.Frag) (mg : Str → Option Value) (base : Heap) (x : Str) (flds : List Str) : Prop where
  ex : ∃ C fI fd, mg x = some (.ref C) ∧ OexC K C ∧ PySem.W.findIn K (.ref C) "__init__" = some (some (.ref fI)) ∧ PySem.W.typeIn K (.ref fI) = some (.type "function") ∧
    FnOk P w K mg base (L2.CX P w) 1 fI fd (("self" : Str) :: flds) (spI C flds) ∧ Binds K fd (("self" : Str) :: flds) []
  pos : 0 < flds.length
  few : flds.length ≤ 9
def xfK (flds : List Str) (ds : List D) : List (Key × D) := ((flds.zip ds).reverse).map fun p => (.inr p.1, p.2)
def wRaise (x : Str) (flds : List Str) (ss : WA) : WS := fun Γ m => ss m.xp Γ fun ds Γ1 => ds.length = flds.length ∧ m.xp ⟨x, xfK flds ds⟩ Γ1
theorem den_fs {K : PySem.W.Frag} {tk : Option Addr} {H : Hp} : ∀ {flds : List Str} {vs : List V} {ds : List D}, DenAll K tk H vs ds → DenKs K tk H (xdK (flds.zip vs)) ((flds.zip ds).map fun p => (.inr p.1, p.2))
  | [], _, _, _ => by simp [xdK]; exact .nil
  | _ :: _, _, _, .nil => by simp [xdK]; exact .nil
  | f :: flds, _, _, .cons h a => .cons h (den_fs a)
theorem DenKs.reverse {K : PySem.W.Frag} {tk : Option Addr} {H : Hp} : ∀ {a : List (Key × V)} {c : List (Key × D)}, DenKs K tk H a c → DenKs K tk H a.reverse c.reverse
  | _, _, .nil => .nil
  | _, _, .cons h a => by
    rw [List.reverse_cons, List.reverse_cons]
    exact (DenKs.reverse a).append (.cons h .nil)
section
variable {X : L2.Cx} {S : SK} {W : WX} {x : Str} {flds : List Str} {e : Expr} {es : List Expr} {ss : WA} {p pos pos' : Pos} {k : Nat}
theorem pds_raise (R : Rz X.prog X.w X.K X.mg X.base x flds) (hc : X.calm = true) (tk : Takes X W) (hr : Room k X.A) (hk : 2 ≤ k) (hg : Gl X x) (ha : PA X (e :: es) (DA X.K S X.mg W ss))
    (hdb : (x == ("__debug__" : Str)) = false := by decide) (he : starEach (e :: es) X.env = (false, eval e X.env) :: starEach es X.env := by rfl) (hpl : (backTo pos (starEach es X.env)).any (·.1) = false := by rfl) :
    PS X (.Raise (some (.Call (.Name x p) (e :: es) [] pos)) none pos') (DS X.K S X.mg W (wRaise x flds ss)) := by
  obtain ⟨C, fI, fd, h1, T, h2, h3, F, h4⟩ := R.ex
  refine PS.imp (ps_raise hc tk (pmk_oex (dvs := []) (ds := []) T h2 h3 F (hr.mono hk) h4 .nil passL hg h1 ha hdb he hpl)) fun D σ H ⟨B, Δ, δ, Γ, m, rp, hs, k1, k2, k3, k4, k5⟩ => ?_
  refine ⟨B, Δ, δ, Γ, m.xp, _, rp, hs, fun vs H1 ds Γ1 Hs p1 p2 I d h1' => ?_, k5 σ⟩
  have hpos := R.pos
  have hfew := R.few
  have hl : vs.length = flds.length := by rw [d.length]; exact h1'.1
  refine ⟨by omega, fun a na => ⟨a, vs, by simp, hl, by omega, by omega, upd_same, fun dx hdx hne => ⟨rfl, dx, (flds.zip vs).reverse, upd_same, ?_, ?_, ?_⟩⟩⟩
  · rw [upd_ne hne, upd_same]
  · rw [upd_ne hne] at hdx; exact hdx
  · have hd1 : H1 dx = none := by rw [upd_ne hne] at hdx; exact hdx
    have eH : upd (del (upd (upd (upd H1 a (exo a C none)) dx (exd dx (flds.zip vs).reverse)) a (exo a C (some dx))) a) dx (.xd (flds.zip vs).reverse) = upd H1 dx (.xd (flds.zip vs).reverse) := by
      funext b
      by_cases hb : b = dx
      · rw [hb, upd_same, upd_same]
      · rw [upd_ne hb, upd_ne hb]
        by_cases ha : b = a
        · rw [ha, del_same, na]
        · rw [del_ne ha, upd_ne ha, upd_ne hb, upd_ne ha]
    rw [eH]
    refine k5 σ (.ref C) (some dx) _ ⟨x, xfK flds ds⟩ Γ1 ⟨_, p1, p2, C, dx, _, I.alloc hd1, h1, rfl, rfl, upd_same, ?_⟩ h1'.2
    have q := (den_fs (flds := flds) d).reverse.mono (same_upd (o := HO.xd (flds.zip vs).reverse) (I.freshS hd1))
    unfold xfK
    rw [List.map_reverse]
    simpa [xdK, List.map_reverse] using q
end

/-! ### the facts of an own class -/
def clsDef (s : Stmt) (i : Nat) : Stmt := match s with
  | .ClassDef _ _ _ b _ _ _ _ _ _ _ => b.getD i (.Pass ⟨0, 0, 0, 0⟩)
  | _ => .Pass ⟨0, 0, 0, 0⟩
section
variable {K : PySem.W.Frag} {C a : Addr} {f1 f2 f3 : Str} {H : Hp} {Q : VK}
theorem rd1 (T : OexC K C) (h1 : PySem.W.findIn K (.ref C) f1 = some none) (a : Addr) (ys : List V) (H : Hp) (Q : VK) (hl : ys.length = [f1].length) (_ : 0 < ys.length) (_ : ys.length ≤ 9) (ha : H a = some (exo a C none))
    (hq : ∀ dx, H dx = none → dx ≠ a → Q .non (upd (upd H dx (exd dx ([f1].zip ys).reverse)) a (exo a C (some dx)))) :
    tCons (tVar 1) tNil (NdefX.startF ["self", f1, "__class__"] (.ref a :: ys) [none]) H fun ws H1 => H1 = H ∧ ws.length ≤ 1000 ∧ tOst K f1 (tVar 0) (tVar 1) { nx := fun _ H' => Q .non H', rt := Q } (NdefX.startF ["self", f1, "__class__"] (.ref a :: ys) [none]) H := by
  match ys, hl with
  | [y], _ =>
    refine ⟨y, rfl, ?_⟩
    refine ⟨rfl, by simp, y, rfl, .ref a, rfl, a, C, rfl, T, h1, .inl ⟨ha, fun dx h2 h3 => hq dx h2 h3⟩⟩
theorem ost_upd {dx : Addr} {fs : List (Str × V)} {o : HO} {u : HO} (h : dx ≠ a) : upd (upd (upd H dx o) a u) dx (exd dx fs) = upd (upd H dx (exd dx fs)) a u := by
  funext b
  by_cases hb : b = dx
  · rw [hb, upd_same, upd_ne h, upd_same]
  · rw [upd_ne hb]
    by_cases ha : b = a
    · rw [ha, upd_same, upd_same]
    · rw [upd_ne ha, upd_ne ha, upd_ne hb, upd_ne hb]
theorem rd2 (T : OexC K C) (h1 : PySem.W.findIn K (.ref C) f1 = some none) (h2 : PySem.W.findIn K (.ref C) f2 = some none) (a : Addr) (ys : List V) (H : Hp) (Q : VK) (hl : ys.length = [f1, f2].length) (_ : 0 < ys.length) (_ : ys.length ≤ 9) (ha : H a = some (exo a C none))
    (hq : ∀ dx, H dx = none → dx ≠ a → Q .non (upd (upd H dx (exd dx ([f1, f2].zip ys).reverse)) a (exo a C (some dx)))) :
    tCons (tVar 1) (tCons (tVar 2) tNil) (NdefX.startF ["self", f1, f2, "__class__"] (.ref a :: ys) [none]) H fun ws H1 => H1 = H ∧ ws.length ≤ 1000 ∧ tSeq (tOst K f1 (tVar 0) (tVar 1)) (tOst K f2 (tVar 0) (tVar 2)) { nx := fun _ H' => Q .non H', rt := Q } (NdefX.startF ["self", f1, f2, "__class__"] (.ref a :: ys) [none]) H := by
  match ys, hl with
  | [y, z], _ =>
    refine ⟨y, rfl, z, rfl, ?_⟩
    refine ⟨rfl, by simp, y, rfl, .ref a, rfl, a, C, rfl, T, h1, .inl ⟨ha, fun dx hd1 hd2 => ⟨z, rfl, .ref a, rfl, a, C, rfl, T, h2, .inr ⟨dx, [(f1, y)], upd_same, ?_, by simp, ?_⟩⟩⟩⟩
    · rw [upd_ne hd2, upd_same]
    · rw [ost_upd hd2]; exact hq dx hd1 hd2
theorem rd3 (T : OexC K C) (h1 : PySem.W.findIn K (.ref C) f1 = some none) (h2 : PySem.W.findIn K (.ref C) f2 = some none) (h3 : PySem.W.findIn K (.ref C) f3 = some none) (a : Addr) (ys : List V) (H : Hp) (Q : VK) (hl : ys.length = [f1, f2, f3].length) (_ : 0 < ys.length) (_ : ys.length ≤ 9) (ha : H a = some (exo a C none))
    (hq : ∀ dx, H dx = none → dx ≠ a → Q .non (upd (upd H dx (exd dx ([f1, f2, f3].zip ys).reverse)) a (exo a C (some dx)))) :
    tCons (tVar 1) (tCons (tVar 2) (tCons (tVar 3) tNil)) (NdefX.startF ["self", f1, f2, f3, "__class__"] (.ref a :: ys) [none]) H fun ws H1 => H1 = H ∧ ws.length ≤ 1000 ∧ tSeq (tOst K f1 (tVar 0) (tVar 1)) (tSeq (tOst K f2 (tVar 0) (tVar 2)) (tOst K f3 (tVar 0) (tVar 3))) { nx := fun _ H' => Q .non H', rt := Q } (NdefX.startF ["self", f1, f2, f3, "__class__"] (.ref a :: ys) [none]) H := by
  match ys, hl with
  | [y, z, x], _ =>
    refine ⟨y, rfl, z, rfl, x, rfl, ?_⟩
    refine ⟨rfl, by simp, y, rfl, .ref a, rfl, a, C, rfl, T, h1, .inl ⟨ha, fun dx hd1 hd2 => ⟨z, rfl, .ref a, rfl, a, C, rfl, T, h2, .inr ⟨dx, [(f1, y)], upd_same, ?_, by simp, ?_⟩⟩⟩⟩
    · rw [upd_ne hd2, upd_same]
    · rw [ost_upd hd2]
      refine ⟨x, rfl, .ref a, rfl, a, C, rfl, T, h3, .inr ⟨dx, [(f2, z), (f1, y)], upd_same, ?_, by simp, ?_⟩⟩
      · rw [upd_ne hd2, upd_same]
      · rw [ost_upd hd2]; exact hq dx hd1 hd2
end
/-- all that is asked of an own class, by computing -/
def oexB (K : PySem.W.Frag) (C : Addr) : Bool := (match K.lookup C with
  | some ⟨.type t, _, .cls cd, sl⟩ => decide (t = "type") && (match cd.mro, sl.toList with
    | .ref C' :: bm, [_, _, _, _, some (.builtin n), _] => decide (C' = C) && decide (n = "ValueError.__new__") && cd.hasDict && !cd.hasDel && PySem.HandSPX.refsVE bm
    | _, _ => false)
  | _ => false) && decide (PySem.W.findIn K (.ref C) "__setattr__" = some (some (.builtin "object.__setattr__"))) && decide (PySem.W.subIn K (.ref C) (.type "BaseException") = some true) && decide (PySem.W.typeIn K (.ref C) = some (.type "type")) && PySem.W.keepIn K (.ref C)
theorem oex_of {K : PySem.W.Frag} {C : Addr} (h : oexB K C = true) : OexC K C := by
  unfold oexB at h
  simp only [Bool.and_eq_true, decide_eq_true_eq] at h
  obtain ⟨⟨⟨⟨h0, h1⟩, h2⟩, h3⟩, h4⟩ := h
  refine ⟨?_, h1, h2, h3, h4⟩
  split at h0
  · rename_i t dd cd sl hl
    simp only [Bool.and_eq_true, decide_eq_true_eq] at h0
    obtain ⟨rfl, h0⟩ := h0
    split at h0
    · rename_i C' bm k0 k1 k2 k3 n k5 hm hs
      simp only [Bool.and_eq_true, decide_eq_true_eq, Bool.not_eq_true'] at h0
      obtain ⟨⟨⟨⟨rfl, rfl⟩, h5⟩, h6⟩, h7⟩ := h0
      obtain ⟨nm, bs, mro, ns, qn, hd, sn, sb, ab, col, del⟩ := cd
      dsimp only at hm h5 h6
      subst hm h5 h6
      have hsl : sl = #[k0, k1, k2, k3, some (.builtin "ValueError.__new__"), k5] := by rw [← Array.toList_inj, hs]
      subst hsl
      exact ⟨_, _, _, _, _, _, _, _, _, _, _, _, _, _, _, hl, h7⟩
    · cases h0
  · cases h0
def clsB (file : Str) (K : PySem.W.Frag) (qual : Str) (C fI cda cc : Addr) (flds : List Str) : Bool :=
  oexB K C && decide (PySem.W.typeIn K (.ref fI) = some (.type "function")) && PySem.W.codeIn K (.ref cda) qual && (match K.lookup cda with
    | some ⟨_, _, .fields vs, _⟩ => (match (vs[2]? : Option Value) with | some (.str f _) => file == f | _ => false)
    | _ => false) && (match K.lookup cc with
    | some ⟨_, _, .cell (some (.ref C')), _⟩ => decide (C' = C)
    | _ => false) && decide (PySem.W.ks_superIn K C C "__init__" = some (some (.builtin "ValueError.__init__"))) && decide (PySem.W.mroIn K C (.ref C) = some true) && decide (PySem.W.mroIn K C (.type "ValueError") = some true) &&
    decide (PySem.W.nsIn K PySem.cStatics "thirdparty.any" = some none) && flds.all fun f => decide (PySem.W.findIn K (.ref C) f = some none)
theorem cls_of {P : Program} {K : PySem.W.Frag} {qual : Str} {st : Stmt} {C fI cda cc : Addr} {flds : List Str} {oc : Value} {od : Option Addr} {kV doc pm : Value} {an : Option Addr} {ct : Value} {osl : Array (Option Value)}
    (h : clsB P.main.file K qual C fI cda cc flds = true) (top : (P.main.scope.names.lookup ("super" : Str)).isSome = false)
    (lk : K.lookup fI = some ⟨oc, od, .func (PySem.W.fnX "__init__" qual (defArgs st) (defBody st) (defScope st) [("__class__", cc)] .none kV doc pm an (.ref cda) ct), osl⟩) :
    InK P K qual st C fI (PySem.W.fnX "__init__" qual (defArgs st) (defBody st) (defScope st) [("__class__", cc)] .none kV doc pm an (.ref cda) ct) cda cc ∧ OexC K C ∧ PySem.W.typeIn K (.ref fI) = some (.type "function") ∧ ∀ f ∈ flds, PySem.W.findIn K (.ref C) f = some none := by
  unfold clsB at h
  simp only [Bool.and_eq_true, decide_eq_true_eq, List.all_eq_true] at h
  obtain ⟨⟨⟨⟨⟨⟨⟨⟨⟨h1, h2⟩, h3⟩, h4⟩, h5⟩, h6⟩, h7⟩, h8⟩, h9⟩, h10⟩ := h
  refine ⟨⟨⟨_, _, _, _, _, _, _, _, rfl, lk⟩, h3, ?_, ?_, h6, h7, h8, h9, top⟩, oex_of h1, h2, h10⟩
  · split at h4
    · rename_i ccl cdd vs ccs hl
      split at h4
      · rename_i f tf hv
        exact ⟨_, _, _, _, _, _, hl, hv, h4⟩
      · cases h4
    · cases h4
  · split at h5
    · rename_i cl cld C' csl hl
      have h5' : C' = C := by simpa using h5
      subst h5'
      exact ⟨_, _, _, hl⟩
    · cases h5
end DL

set_option maxHeartbeats 2000000
namespace DL
open PySem PySem.Spec PyProof.Rows L2
/-! ### try: any number of clauses, with names or without -/
/-- a clause: the class that it names, the slot of its name, its suite's reading -/
structure Cl where
  c : Value
  slot : Option Nat
  ts : Addr → Value → Option Addr → TS
def Dn (D : Ends) : Option Nat → Ends
  | none => D
  | some i => { nx := fun σ H => D.nx (σ.set i none) H, rt := D.rt, bk := fun σ H => D.bk (σ.set i none) H, ct := fun σ H => D.ct (σ.set i none) H }
def stN (σ : L2.St) (a : Addr) : Option Nat → L2.St
  | none => σ
  | some i => σ.set i (some (.ref a))
def wCl (K : PySem.W.Frag) (Wo : WX) (D : Ends) : List Cl → WX
  | [] => Wo
  | k :: r => fun cls d σ H => ∃ b, PySem.W.exmOne K cls k.c = some b ∧ (b = true → ∀ a, H a = none → k.ts a cls d (Dn D k.slot) (stN σ a k.slot) H) ∧ (b = false → wCl K Wo D r cls d σ H)
/-- a suite's rule, whatever exception it holds -/
abbrev SuOk (X : L2.Cx) (body : List Stmt) (ts : Addr → Value → Option Addr → TS) : Prop := ∀ (e : Addr) (eo : Obj) (cv : Value) (dv : Option Addr) (pn : List (Addr × Obj)), Zc cv dv eo → (∃ vs, eo.data = .fields vs) → PSs (X.suite e ((e, eo) :: pn)) body (ts e cv dv)
inductive HdO (X : L2.Cx) : List ExceptHandler → List Cl → Prop
  | nil : HdO X [] []
  | only {x : Str} {c : Value} {ts : Addr → Value → Option Addr → TS} {s0 : Stmt} {ss : List Stmt} {np hp : Pos} {hds : List ExceptHandler} {l : List Cl} (nm : Names X x c) (su : SuOk X (s0 :: ss) ts) (r : HdO X hds l) :
      HdO X (.ExceptHandler (some (.Name x np)) none (s0 :: ss) hp :: hds) (⟨c, none, ts⟩ :: l)
  | as {x n : Str} {i : Nat} {c : Value} {ts : Addr → Value → Option Addr → TS} {s0 : Stmt} {ss : List Stmt} {np hp : Pos} {hds : List ExceptHandler} {l : List Cl} (nd : X.N.Nodup) (hi : X.N[i]? = some n) (hl : X.env.kindOf n = some .local) (nm : Names X x c) (su : SuOk X (s0 :: ss) ts) (r : HdO X hds l) :
      HdO X (.ExceptHandler (some (.Name x np)) (some n) (s0 :: ss) hp :: hds) (⟨c, some i, ts⟩ :: l)
/-- an exception that has landed -/
structure Lan (X : L2.Cx) (pins : List (Addr × Obj)) (e : Addr) (B : Heap) (sI s1 : Shared) (σ : L2.St) (H : Hp) (cv : Value) (dv : Option Addr) (h : Heap) : Prop where
  J : L2.Inv X pins σ H sI
  nb : ∀ b o, sI.heap.get? b = some o → b ∉ frs X.stack → B.get? b = some o
  up : sI.heap.UpToSlots h
  fl : PySem.HandSPX.FlyingZ B (X.env :: X.outer) e (Zc cv dv) h
  na : H e = none
  os : s1.os = sI.os
  ag : AllBare s1.gens
section
variable {X : L2.Cx} {pins : List (Addr × Obj)} {e : Addr} {B : Heap} {sI s1 : Shared} {σ : L2.St} {H : Hp} {cv : Value} {dv : Option Addr} {h : Heap}
theorem Lan.inv (L : Lan X pins e B sI s1 σ H cv dv h) : L2.Inv X pins σ H { s1 with heap := h } := L.J.landed L.nb L.fl.1 L.up L.os L.ag
theorem Lan.apart (L : Lan X pins e B sI s1 σ H cv dv h) (hf : X.env.frame = some X.env.locals) : e ≠ X.env.locals ∧ e ∉ X.fs := by
  obtain ⟨eo, vs, he, _, hd⟩ := L.fl.there
  have out : e ∉ frs (X.env :: X.outer) := fun hm => by
    obtain ⟨_, eo', he', notf⟩ := L.fl.2.2.1.mem hm
    rw [he] at he'; cases he'; exact notf _ hd
  refine ⟨fun z => out (List.mem_filterMap.mpr ⟨X.env, by simp, by rw [hf, z]⟩), fun hm => ?_⟩
  obtain ⟨v, hv, hq⟩ := List.mem_filterMap.mp hm
  exact out (List.mem_filterMap.mpr ⟨v, by simp [hv], hq⟩)
theorem Lan.su (L : Lan X pins e B sI s1 σ H cv dv h) (hf : X.env.frame = some X.env.locals) : ∃ eo, Zc cv dv eo ∧ (∃ vs, eo.data = .fields vs) ∧ h.get? e = some eo ∧ L2.Inv (X.suite e ((e, eo) :: (X.pn ++ pins))) [] σ H { s1 with heap := h } := by
  obtain ⟨eo, vs, he, hz, hd⟩ := L.fl.there
  obtain ⟨a1, a2⟩ := L.apart hf
  exact ⟨eo, hz, ⟨vs, hd⟩, he, L.inv.suite he hd L.na a1 a2⟩
theorem Lan.again (L : Lan X pins e B sI s1 σ H cv dv h) {h2 : Heap} (f2 : PySem.HandSPX.FlyingZ B (X.env :: X.outer) e (Zc cv dv) h2) (u2 : h.UpToSlots h2) : Lan X pins e B sI s1 σ H cv dv h2 := ⟨L.J, L.nb, L.up.trans u2, f2, L.na, L.os, L.ag⟩
end
section
variable {X : L2.Cx} {pins : List (Addr × Obj)} {D : Ends} {Wo : WX}
theorem hd_run (hs : X.stack = X.env :: X.outer) (hf : X.env.frame = some X.env.locals) (tk : Takes X Wo) {hds : List ExceptHandler} {l : List Cl} (hk : HdO X hds l) :
    ∀ {e : Addr} {B : Heap} {sI s1 : Shared} {σ : L2.St} {H : Hp} {cv : Value} {dv : Option Addr} {h : Heap} {pins0 : List (Addr × Obj)}, Lan X pins e B sI s1 σ H cv dv h → wCl X.K Wo D l cv dv σ H →
      wpAny (model X.prog X.w) X.A (handleBy (.ref e) X.env hds) (SP X pins D) X.xe { s1 with heap := h } := by
  have test : ∀ {x : Str} {c : Value} {np : Pos} {e : Addr} {B : Heap} {sI s1 : Shared} {σ : L2.St} {H : Hp} {cv : Value} {dv : Option Addr} {h : Heap} {b : Bool} {Q : Bool → Shared → Prop} {E E' : Value → Shared → Prop}, Names X x c → Lan X pins e B sI s1 σ H cv dv h → PySem.W.exmOne X.K cv c = some b →
      (Q b { s1 with heap := h }) → wpAny (model X.prog X.w) (X.A.mark (some (.ref e))) (eval (.Name x np) X.env) (fun v s₁ => wpAny (model X.prog X.w) (X.A.mark (some (.ref e))) (excMatches (.ref e) v) Q E s₁) E' { s1 with heap := h } := by
    intro x c np e B sI s1 σ H cv dv h b Q E E' nm L hb q
    obtain ⟨eo, hz, hd, he, S⟩ := L.su hf
    have looks : PySem.W.Looks (model X.prog X.w) h (typeOf (.ref e)) cv := fun _ _ _ _ kk qq => wpAny_typeOf_ref (kk _ _ he) (by rw [hz.1]; exact qq)
    have lm := PySem.W.exm_one (M := model X.prog X.w) L.inv.kIn looks hb
    obtain ⟨g1, g2, m1 | ⟨m1, m2, m3⟩⟩ := nm
    · exact ld_glob (X := X.suite e ((e, eo) :: (X.pn ++ pins))) S g1 m1 (lm.here q) g2
    · exact ld_blt (X := X.suite e ((e, eo) :: (X.pn ++ pins))) S g1 m1 m2 (lm.here q) m3 g2
  induction hk with
  | nil =>
    intro e B sI s1 σ H cv dv h _ L w
    refine wpAny_handleBy_nil ?_
    obtain ⟨_, _, _, eo, vs, tb, to, ts, he, _, hd, h1, _⟩ := id L.fl
    unfold PySem.passOn
    refine wpAny_bind (wpAny_field he hd h1 ?_)
    rw [if_neg (by simp)]
    have fin : wpAny (model X.prog X.w) X.A (setFlight (.ref e) X.env.frame) (fun _ s4 => wpAny (model X.prog X.w) X.A (throw (.ref e) : Sem Flow) (SP X pins D) X.xe s4) X.xe { s1 with heap := h } := by
      rw [hf]
      exact PySem.HandSPX.setFlight_upZ L.fl fun h4 hh4 up4 => wpAny_throw (tk _ _ ⟨e, B, sI, pins, σ, H, cv, dv, rfl, L.J, L.nb, L.up.trans up4, .inr (.inr (by rw [hs]; exact hh4)), L.na, L.os, L.ag, w⟩)
    first | exact wpAny_bind (wpAny_pure (wpAny_bind fin)) | exact wpAny_bind fin
  | @only x c ts s0 ss np hp hds2 l2 nm su r ih =>
    intro e B sI s1 σ H cv dv h p0 L w
    obtain ⟨b, hb, yes, no⟩ := w
    refine wpAny_handleBy_cons (codeAny_handlers_test (test nm L hb ?_)) (by intro q; cases q)
    cases b with
    | false => exact ih (pins0 := p0) L (no rfl)
    | true =>
      refine codeAny_handlers_suite (PySem.HandSPX.lands_againZ L.fl fun h4 fl4 up4 => ?_)
      have L4 := L.again fl4 up4
      obtain ⟨eo, hz, hd, _, S⟩ := L4.su hf
      have goes := (su e eo cv dv (X.pn ++ pins) hz hd).run [] _ σ H _ S (yes rfl e L.na)
      refine wpAny_mono goes (fun fl s6 hsp => ?_) fun _ _ z => z.elim
      cases fl with
      | ret u => obtain ⟨v6, σ6, H6, S6, r6, q6⟩ := hsp; exact ⟨_, _, _, S6.unsuite L.J.ok, r6, q6⟩
      | next => obtain ⟨σ6, H6, S6, q6⟩ := hsp; exact ⟨_, _, S6.unsuite L.J.ok, q6⟩
      | brk => obtain ⟨σ6, H6, S6, q6⟩ := hsp; exact ⟨_, _, S6.unsuite L.J.ok, q6⟩
      | cont => obtain ⟨σ6, H6, S6, q6⟩ := hsp; exact ⟨_, _, S6.unsuite L.J.ok, q6⟩
  | @as x n i c ts s0 ss np hp hds2 l2 nd hi hl nm su r ih =>
    intro e B sI s1 σ H cv dv h p0 L w
    obtain ⟨b, hb, yes, no⟩ := w
    refine wpAny_handleBy_cons (codeAny_handlers_test (test nm L hb ?_)) (by intro q; cases q)
    cases b with
    | false => exact ih (pins0 := p0) L (no rfl)
    | true =>
      refine codeAny_handlers_suite_as (PySem.HandSPX.lands_againZ L.fl fun h4 fl4 up4 => ?_)
      have L4 := L.again fl4 up4
      obtain ⟨eo, hz, hd, _, S⟩ := L4.su hf
      refine store_ok (X := X.suite e ((e, eo) :: (X.pn ++ pins))) (v := .ref e) S nd hi (.inl hl) rfl (fun s5 S5 => ?_) (.inr hl)
      have goes := (su e eo cv dv (X.pn ++ pins) hz hd).run [] s5 _ H _ S5 (yes rfl e L.na)
      refine wpAny_mono goes (fun fl s6 hsp => ?_) fun _ _ z => z.elim
      cases fl with
      | ret u => obtain ⟨v6, σ6, H6, S6, r6, q6⟩ := hsp; exact gone_ok (S6.unsuite L.J.ok) nd hi hl fun s7 J7 => ⟨_, _, _, J7, r6, q6⟩
      | next => obtain ⟨σ6, H6, S6, q6⟩ := hsp; exact gone_ok (S6.unsuite L.J.ok) nd hi hl fun s7 J7 => ⟨_, _, J7, q6⟩
      | brk => obtain ⟨σ6, H6, S6, q6⟩ := hsp; exact gone_ok (S6.unsuite L.J.ok) nd hi hl fun s7 J7 => ⟨_, _, J7, q6⟩
      | cont => obtain ⟨σ6, H6, S6, q6⟩ := hsp; exact gone_ok (S6.unsuite L.J.ok) nd hi hl fun s7 J7 => ⟨_, _, J7, q6⟩
end
section
variable {X : L2.Cx} {body : List Stmt} {hd0 : ExceptHandler} {hds : List ExceptHandler} {l : List Cl} {pos : Pos} {tb : WX → TS} {Wo : WX}
theorem ps_tryG (hs : X.stack = X.env :: X.outer) (hf : X.env.frame = some X.env.locals) (tk : Takes X Wo)
    (hb : ∀ (W : WX) (pn : List (Addr × Obj)) (xe : Value → Shared → Prop), Takes (X.tr pn xe) W → PassesOwn (model X.prog X.w) X.A X.env xe → PSs (X.tr pn xe) body (tb W))
    (hh : HdO X (hd0 :: hds) l) : PS X (.Try body (hd0 :: hds) [] [] pos) (fun D σ H => tb (wCl X.K Wo D l) D σ H) := by
  refine ⟨fun pins s σ H D I q0 => wpAny_Try_except ?_⟩
  have ok := I.ok
  have hfr : X.A.frames = some (X.env :: X.outer) := ok.frames.trans (by rw [hs])
  have B0 := hb (wCl X.K Wo D l) (X.pn ++ pins) (fun e s₁ => wpAny (model X.prog X.w) X.A (noteFrame e X.env) (fun _ s₂ => wpAny (model X.prog X.w) X.A (setFlight e none) (fun _ s₃ => wpAny (model X.prog X.w) X.A (handleBy e X.env (hd0 :: hds)) (SP X pins D) X.xe s₃) X.xe s₂) X.xe s₁) ?_ PassesOwn.looking
  · refine wpAny_mono (B0.run [] s σ H D (I.toTry _) q0) (fun fl s1 hsp => ?_) fun _ _ z => z
    cases fl with
    | ret u => obtain ⟨v6, σ6, H6, S6, r6, q6⟩ := hsp; exact ⟨_, _, _, S6.ofTry ok, r6, q6⟩
    | next => obtain ⟨σ6, H6, S6, q6⟩ := hsp; exact wpAny_execs_nil ⟨_, _, S6.ofTry ok, q6⟩
    | brk => obtain ⟨σ6, H6, S6, q6⟩ := hsp; exact ⟨_, _, S6.ofTry ok, q6⟩
    | cont => obtain ⟨σ6, H6, S6, q6⟩ := hsp; exact ⟨_, _, S6.ofTry ok, q6⟩
  · rintro u s' ⟨e, B, sI, pins', σ', H', cv, dv, rfl, J', nb, up, sky, na, os, ag, w⟩
    have sky' : Sky B (X.env :: X.outer) e (Zc cv dv) X.env.locals s'.heap := by rw [← hs]; exact sky
    show wpAny (model X.prog X.w) X.A (noteFrame (.ref e) X.env) _ _ _
    exact Sky.land Zc.steady hfr hf sky' fun h3 fl3 up3 => hd_run hs hf tk hh (pins0 := []) ⟨J'.ofTry ok, nb, up.trans up3, fl3, na, os, ag⟩ w
end
end DL

set_option maxHeartbeats 2000000
namespace DL
open PySem PySem.Spec L2
/-! ### try, over the readings -/
/-- the own classes of error: each with the classes whose clause takes it; fl: their fields' names -/
structure Xs (K : PySem.W.Frag) (mg : Str → Option Value) (L : List (Str × List Str)) (fl : List Str) : Prop where
  a : ∀ n anc, L.lookup n = some anc → ∃ C, mg n = some (.ref C) ∧ XfC K C ∧ (∀ f ∈ fl, PySem.W.findIn K (.ref C) f = some none) ∧ ∀ q ∈ L, ∃ E, mg q.1 = some (.ref E) ∧ PySem.W.exmOne K (.ref C) (.ref E) = some (decide (q.1 ∈ anc))
structure WC where
  x : Str
  slot : Option Nat
  s : Addr → Addr → Str → WS
def hit (L : List (Str × List Str)) (n x : Str) : Bool := match L.lookup n with
  | some anc => decide (x ∈ anc)
  | none => false
def bindX (Γ : Nv) (e dd : Addr) (kds : List (Key × D)) : Option Nat → Nv
  | none => Γ
  | some i => Γ.set i (some (.val (.exc e dd kds)))
def clrX (Γ : Nv) : Option Nat → Nv
  | none => Γ
  | some i => Γ.set i none
def inX (Γ : Nv) : Option Nat → Prop
  | none => True
  | some i => i < Γ.length
def unX (m : M) (o : Option Nat) : M := { nx := fun Γ => m.nx (clrX Γ o), rt := m.rt, bk := fun Γ => m.bk (clrX Γ o), ct := fun Γ => m.ct (clrX Γ o) }
def wHds (L : List (Str × List Str)) : List WC → M → XD → Nv → Prop
  | [], m, x, Γ => m.xp x Γ
  | c :: r, m, x, Γ => if hit L x.name c.x = true then inX Γ c.slot ∧ ∀ e dd, c.s e dd x.name (bindX Γ e dd x.fs c.slot) (unX m c.slot) else wHds L r m x Γ
def wTry (L : List (Str × List Str)) (b : WS) (cl : List WC) : WS := fun Γ m => b Γ { m with xp := fun x Γ' => (∃ anc, L.lookup x.name = some anc) ∧ wHds L cl m x Γ' }
abbrev W0x : WX := fun _ _ _ _ => False
def tsD (K : PySem.W.Frag) (S : SK) (mg : Str → Option Value) (L : List (Str × List Str)) (c : WC) : Addr → Value → Option Addr → TS := fun e cv dv D σ H => ∃ C dd n anc, cv = .ref C ∧ L.lookup n = some anc ∧ mg n = some (.ref C) ∧ dv = some dd ∧ DS K S mg W0x (c.s e dd n) D σ H
inductive HdD (X : L2.Cx) (S : SK) (L : List (Str × List Str)) : List ExceptHandler → List WC → Prop
  | nil : HdD X S L [] []
  | only {x : Str} {s : Addr → Addr → Str → WS} {s0 : Stmt} {ss : List Stmt} {np hp : Pos} {hds : List ExceptHandler} {l : List WC} (hx : ∃ anc, (x, anc) ∈ L) (hg : Gl X x) (hdb : (x == ("__debug__" : Str)) = false)
      (su : ∀ (e : Addr) (eo : Obj) (C dd : Addr) (pn : List (Addr × Obj)) (n : Str) (anc : List Str), Zc (.ref C) (some dd) eo → (∃ vs, eo.data = .fields vs) → L.lookup n = some anc → X.mg n = some (.ref C) → PSs (X.suite e ((e, eo) :: pn)) (s0 :: ss) (DS X.K S X.mg W0x (s e dd n))) (r : HdD X S L hds l) :
      HdD X S L (.ExceptHandler (some (.Name x np)) none (s0 :: ss) hp :: hds) (⟨x, none, s⟩ :: l)
  | as {x nm : Str} {i : Nat} {s : Addr → Addr → Str → WS} {s0 : Stmt} {ss : List Stmt} {np hp : Pos} {hds : List ExceptHandler} {l : List WC} (hx : ∃ anc, (x, anc) ∈ L) (hg : Gl X x) (hdb : (x == ("__debug__" : Str)) = false) (nd : X.N.Nodup) (hi : X.N[i]? = some nm) (hl : X.env.kindOf nm = some .local)
      (su : ∀ (e : Addr) (eo : Obj) (C dd : Addr) (pn : List (Addr × Obj)) (n : Str) (anc : List Str), Zc (.ref C) (some dd) eo → (∃ vs, eo.data = .fields vs) → L.lookup n = some anc → X.mg n = some (.ref C) → PSs (X.suite e ((e, eo) :: pn)) (s0 :: ss) (DS X.K S X.mg W0x (s e dd n))) (r : HdD X S L hds l) :
      HdD X S L (.ExceptHandler (some (.Name x np)) (some nm) (s0 :: ss) hp :: hds) (⟨x, some i, s⟩ :: l)
theorem lookup_of_mem {α : Type} {x : Str} {a : α} : ∀ {L : List (Str × α)}, (x, a) ∈ L → ∃ b, L.lookup x = some b
  | [], h => by simp at h
  | (y, b) :: L, h => by
    rw [List.lookup_cons]
    split
    · exact ⟨_, rfl⟩
    · rename_i hne
      rcases List.mem_cons.mp h with e | e
      · cases e; simp at hne
      · exact lookup_of_mem e
section
variable {X : L2.Cx} {S : SK} {L : List (Str × List Str)} {fl : List Str} {W : WX}
theorem su_ok {body : List Stmt} {c : WC} (su : ∀ (e : Addr) (eo : Obj) (C dd : Addr) (pn : List (Addr × Obj)) (n : Str) (anc : List Str), Zc (.ref C) (some dd) eo → (∃ vs, eo.data = .fields vs) → L.lookup n = some anc → X.mg n = some (.ref C) → PSs (X.suite e ((e, eo) :: pn)) body (DS X.K S X.mg W0x (c.s e dd n))) :
    SuOk X body (tsD X.K S X.mg L c) := by
  intro e eo cv dv pn hz hd
  refine ⟨fun pins s σ H D I ⟨C, dd, n, anc, h1, h2, h3, h4, h5⟩ => ?_⟩
  subst h1 h4
  exact (su e eo C dd pn n anc hz hd h2 h3).run pins s σ H D I h5
theorem hd_ok (xs : Xs X.K X.mg L fl) {hds : List ExceptHandler} {cl : List WC} (h : HdD X S L hds cl) : ∃ l : List Cl, HdO X hds l ∧ ∀ {Wo : WX} {D : Ends} {B : Bs} {Δ : List R} {δ : List V} {m : M} {σ : L2.St} {cv : Value} {dv : Option Addr} {H : Hp} {x : XD} {Γ : Nv} {anc : List Str},
    RepX X.K S X.mg B Δ δ Γ σ H cv dv x → L.lookup x.name = some anc → wHds L cl m x Γ → (∀ σ' H' Γ', Rep X.K S B Δ δ Γ' σ' H' → m.nx Γ' → D.nx σ' H') → (∀ σ' H' Γ', Rep X.K S B Δ δ Γ' σ' H' → m.bk Γ' → D.bk σ' H') → (∀ σ' H' Γ', Rep X.K S B Δ δ Γ' σ' H' → m.ct Γ' → D.ct σ' H') →
      (∀ v r σ' H' Γ', Rep X.K S B (r :: Δ) (v :: δ) Γ' σ' H' → m.rt r Γ' → D.rt v H') → (∀ σ', XL X.K S X.mg B Wo Δ δ σ' m.xp) → wCl X.K Wo D l cv dv σ H := by
  have mk : ∀ {x : Str}, (∃ anc, (x, anc) ∈ L) → ∃ C, X.mg x = some (.ref C) := fun ⟨anc, h⟩ => by
    obtain ⟨b, hb⟩ := lookup_of_mem h
    obtain ⟨C, hC, _⟩ := xs.a _ _ hb
    exact ⟨C, hC⟩
  have fgt : ∀ {B : Bs} {Δ : List R} {δ : List V} {Γ : Nv} {σ : L2.St} {H : Hp} (o : Option Nat), Rep X.K S B Δ δ Γ σ H → Rep X.K S B Δ δ (clrX Γ o) (match o with | none => σ | some i => σ.set i none) H := fun o h => by
    cases o with
    | none => exact h
    | some i =>
      obtain ⟨Hs, p1, p2, I⟩ := h
      obtain ⟨p2', I'⟩ := I.forget i none
      exact ⟨Hs, p1, p2', I'⟩
  induction h with
  | nil => exact ⟨[], .nil, fun rx _ hw _ _ _ _ k5 => k5 _ _ _ _ _ _ rx hw⟩
  | @only x s s0 ss np hp hds l hx hg hdb su r ih =>
    obtain ⟨l', h1, h2⟩ := ih
    obtain ⟨E, hE⟩ := mk hx
    refine ⟨⟨.ref E, none, tsD X.K S X.mg L ⟨x, none, s⟩⟩ :: l', .only ⟨hg, hdb, .inl hE⟩ (su_ok (c := ⟨x, none, s⟩) su) h1, fun {Wo D B Δ δ m σ cv dv H y Γ anc} rx hl hw k1 k2 k3 k4 k5 => ?_⟩
    obtain ⟨C, hC, _, _, hex⟩ := xs.a _ _ hl
    obtain ⟨anc2, hm⟩ := hx
    obtain ⟨E', hE', he⟩ := hex _ hm
    rw [hE] at hE'; cases hE'
    obtain ⟨Hs, p1, p2, C', dx, fs, I, a1, a2, a3, a4, a5⟩ := id rx
    rw [hC] at a1; cases a1
    subst a2 a3
    have eh : hit L y.name x = decide (x ∈ anc) := by unfold hit; rw [hl]
    refine ⟨_, he, fun hy e he => ?_, fun hn => h2 rx hl ?_ k1 k2 k3 k4 k5⟩
    · have hw' : inX Γ none ∧ ∀ e dd, s e dd y.name (bindX Γ e dd y.fs none) (unX m none) := by
        have := hw
        unfold wHds at this
        rwa [if_pos (eh.trans hy)] at this
      exact ⟨C, dx, y.name, anc, rfl, hl, hC, rfl, B, Δ, δ, Γ, unX m none, ⟨Hs, p1, p2, I⟩, hw'.2 e dx, fun _ _ _ rp h => k1 _ _ _ rp h, fun _ _ _ rp h => k2 _ _ _ rp h, fun _ _ _ rp h => k3 _ _ _ rp h, fun _ _ _ _ _ rp h => k4 _ _ _ _ _ rp h, fun _ _ _ _ _ _ _ z => z.elim⟩
    · have := hw
      unfold wHds at this
      rwa [if_neg (by rw [eh, hn]; simp)] at this
  | @as x n i s s0 ss np hp hds l hx hg hdb nd hi hln su r ih =>
    obtain ⟨l', h1, h2⟩ := ih
    obtain ⟨E, hE⟩ := mk hx
    refine ⟨⟨.ref E, some i, tsD X.K S X.mg L ⟨x, some i, s⟩⟩ :: l', .as nd hi hln ⟨hg, hdb, .inl hE⟩ (su_ok (c := ⟨x, some i, s⟩) su) h1, fun {Wo D B Δ δ m σ cv dv H y Γ anc} rx hl hw k1 k2 k3 k4 k5 => ?_⟩
    obtain ⟨C, hC, _, _, hex⟩ := xs.a _ _ hl
    obtain ⟨anc2, hm⟩ := hx
    obtain ⟨E', hE', he⟩ := hex _ hm
    rw [hE] at hE'; cases hE'
    obtain ⟨Hs, p1, p2, C', dx, fs, I, a1, a2, a3, a4, a5⟩ := id rx
    rw [hC] at a1; cases a1
    subst a2 a3
    have eh : hit L y.name x = decide (x ∈ anc) := by unfold hit; rw [hl]
    refine ⟨_, he, fun hy e he => ?_, fun hn => h2 rx hl ?_ k1 k2 k3 k4 k5⟩
    · have hw' : inX Γ (some i) ∧ ∀ e dd, s e dd y.name (bindX Γ e dd y.fs (some i)) (unX m (some i)) := by
        have := hw
        unfold wHds at this
        rwa [if_pos (eh.trans hy)] at this
      obtain ⟨q1, q2, I'⟩ := I.putVal (i := i) (v := .ref e) (d := .exc e dx y.fs) (.exc a4 a5) hw'.1
      exact ⟨C, dx, y.name, anc, rfl, hl, hC, rfl, B, Δ, δ, _, unX m (some i), ⟨Hs, q1, q2, I'⟩, hw'.2 e dx, fun _ _ _ rp h => k1 _ _ _ (fgt (some i) rp) h, fun _ _ _ rp h => k2 _ _ _ (fgt (some i) rp) h, fun _ _ _ rp h => k3 _ _ _ (fgt (some i) rp) h, fun _ _ _ _ _ rp h => k4 _ _ _ _ _ rp h, fun _ _ _ _ _ _ _ z => z.elim⟩
    · have := hw
      unfold wHds at this
      rwa [if_neg (by rw [eh, hn]; simp)] at this
theorem pds_try {body : List Stmt} {hd0 : ExceptHandler} {hds : List ExceptHandler} {cl : List WC} {pos : Pos} {b : WS} (xs : Xs X.K X.mg L fl) (hs : X.stack = X.env :: X.outer) (hf : X.env.frame = some X.env.locals) (tk : Takes X W)
    (hb : ∀ (W : WX) (pn : List (Addr × Obj)) (xe : Value → Shared → Prop), Takes (X.tr pn xe) W → PassesOwn (model X.prog X.w) X.A X.env xe → PSs (X.tr pn xe) body (DS X.K S X.mg W b))
    (hh : HdD X S L (hd0 :: hds) cl) : PS X (.Try body (hd0 :: hds) [] [] pos) (DS X.K S X.mg W (wTry L b cl)) := by
  obtain ⟨l, h1, h2⟩ := hd_ok xs hh
  refine PS.imp (ps_tryG hs hf tk (tb := fun W => DS X.K S X.mg W b) hb h1) fun D σ H ⟨B, Δ, δ, Γ, m, rp, hw, k1, k2, k3, k4, k5⟩ => ?_
  refine ⟨B, Δ, δ, Γ, _, rp, hw, k1, k2, k3, k4, fun σ' cv dv H' x Γ' rx ⟨⟨anc, ha⟩, hx⟩ => ?_⟩
  exact h2 rx ha hx k1 k2 k3 k4 k5
/-! the fields of a caught one -/
def wXf (e dd : Addr) (f : Str) (i : Nat) : WE := fun _ Γ P => ∃ kds d, Γ[i]? = some (some (.val (.exc e dd kds))) ∧ valD kds (.inr f) = some d ∧ P (.val d) Γ
theorem valV_xd (fs : List (Str × V)) (f : Str) : valV (xdK fs) (.inr f) = fs.lookup f := by
  induction fs with
  | nil => rfl
  | cons p fs ih =>
    obtain ⟨g, v⟩ := p
    unfold xdK valV at *
    rw [List.map_cons, List.find?_cons, List.lookup_cons]
    by_cases h : g = f
    · subst h; simp
    · rw [show decide ((Sum.inr g : Key) = Sum.inr f) = false by simpa using h, show (f == g) = false by simpa using (Ne.symm h)]
      exact ih
theorem pd_xf {e C dd : Addr} {eo : Obj} {pn : List (Addr × Obj)} {n : Str} {anc : List Str} {f y : Str} {p pos : Pos} (i : Nat) (xs : Xs X.K X.mg L fl) (hm : f ∈ fl) (hz : Zc (.ref C) (some dd) eo) (hd : ∃ vs, eo.data = .fields vs) (hl : L.lookup n = some anc) (hn : X.mg n = some (.ref C))
    (he : PE (X.suite e ((e, eo) :: pn)) (.Name y p) (tVar i)) (hb : attributeBase (.Name y p) f X.env (eval (.Name y p) X.env) = eval (.Name y p) X.env := by rfl) :
    PE (X.suite e ((e, eo) :: pn)) (.Attribute (.Name y p) f pos) (DE X.K S X.mg W (wXf e dd f i)) := by
  obtain ⟨C', hC', xf, hno, _⟩ := xs.a _ _ hl
  rw [hn] at hC'; cases hC'
  refine PE.imp (pe_xf xf (hno f hm) hz hd he hb) fun σ H Q ⟨B, Δ, δ, Γ, xp, P, ⟨Hs, p1, p2, I⟩, ⟨kds, d, h1, h2, h3⟩, k, _⟩ => ?_
  obtain ⟨v, q, _, _, e1, _, e3, _⟩ := I.sl.at h1
  cases e3 with
  | val dv =>
    cases dv with
    | @exc _ _ fs _ a1 a2 =>
      rcases a2.val (k := .inr f) with ⟨_, z⟩ | ⟨v, d', z1, z2, z3⟩
      · rw [h2] at z; cases z
      · rw [h2] at z2; cases z2
        rw [valV_xd] at z1
        exact ⟨_, e1, rfl, rfl, dd, fs, v, rfl, I.sub _ _ a1, z1, k _ _ _ _ (I.fin z3) h3⟩
end
end DL

set_option maxHeartbeats 2000000
namespace DL
open PySem PySem.Spec L2
/-! ### exceptions: facts by computing, equations -/
def xsB (K : PySem.W.Frag) (L : List (Str × List Str)) (fl : List Str) : Bool := L.all fun p => match PySem.W.nsIn K mainGlobals p.1 with
  | some (some (.ref C)) => xfB K C && (fl.all fun f => decide (PySem.W.findIn K (.ref C) f = some none)) && L.all fun q => (match PySem.W.nsIn K mainGlobals q.1 with
    | some (some (.ref E)) => decide (PySem.W.exmOne K (.ref C) (.ref E) = some (decide (q.1 ∈ p.2)))
    | _ => false)
  | _ => false
theorem xs_of {K : PySem.W.Frag} {h : Heap} {mg : Str → Option Value} {L : List (Str × List Str)} {fl : List Str} (X : K.In h) (G : h.Ns mainGlobals mg) (e : xsB K L fl = true) : Xs K mg L fl := by
  refine ⟨fun n anc hl => ?_⟩
  unfold xsB at e
  have e1 := List.all_eq_true.mp e _ (PySem.mem_of_lookup hl)
  dsimp only at e1
  split at e1
  · rename_i C hC
    simp only [Bool.and_eq_true, List.all_eq_true, decide_eq_true_eq] at e1
    obtain ⟨⟨h1, h2⟩, h3⟩ := e1
    refine ⟨C, PySem.W.mg_of X G hC, xfB_ok h1, h2, fun q hq => ?_⟩
    have e2 := h3 q hq
    split at e2
    · rename_i E hE
      exact ⟨E, PySem.W.mg_of X G hE, by simpa using e2⟩
    · cases e2
  · cases e1
section
variable {P : R → Nv → Prop} {xp : XD → Nv → Prop} {Γ : Nv} {m : M} {x : XD} {L : List (Str × List Str)} {n y f : Str} {fs kds : List (Key × D)}
def lkK (o : Option (List Str)) (P : Prop) : Prop := match o with
  | some _ => P
  | none => False
theorem lkK_s {a : List Str} {Q : Prop} : lkK (some a) Q = Q := Eq.trans rfl rfl
theorem wTry_e {b : WS} {cl : List WC} : wTry L b cl Γ m = b Γ { nx := m.nx, rt := m.rt, xp := fun x Γ' => lkK (L.lookup x.name) (wHds L cl m x Γ'), bk := m.bk, ct := m.ct } := by
  unfold wTry
  congr 1
  congr 1
  funext x Γ'
  unfold lkK
  cases L.lookup x.name <;> simp
theorem wHds_n : wHds L [] m x Γ = m.xp x Γ := Eq.trans rfl rfl
theorem wHds_c {c : WC} {r : List WC} : wHds L (c :: r) m x Γ = if hit L x.name c.x = true then inX Γ c.slot ∧ ∀ e dd, c.s e dd x.name (bindX Γ e dd x.fs c.slot) (unX m c.slot) else wHds L r m x Γ := by rw [wHds]
theorem inX_n : inX Γ none = True := Eq.trans rfl rfl
theorem inX_s {i : Nat} : inX Γ (some i) = (i < Γ.length) := Eq.trans rfl rfl
theorem bindX_n {e dd : Addr} : bindX Γ e dd kds none = Γ := Eq.trans rfl rfl
theorem bindX_s {e dd : Addr} {i : Nat} : bindX Γ e dd kds (some i) = Γ.set i (some (.val (.exc e dd kds))) := Eq.trans rfl rfl
theorem clrX_n : clrX Γ none = Γ := Eq.trans rfl rfl
theorem clrX_s {i : Nat} : clrX Γ (some i) = Γ.set i none := Eq.trans rfl rfl
theorem unX_e {o : Option Nat} : unX m o = { nx := fun Γ => m.nx (clrX Γ o), rt := m.rt, bk := fun Γ => m.bk (clrX Γ o), ct := fun Γ => m.ct (clrX Γ o) } := Eq.trans rfl rfl
def xcK (o : Option (Option R)) (e dd : Addr) (P : List (Key × D) → Prop) : Prop := match o with
  | some (some (.val (.exc a b kds))) => a = e ∧ b = dd ∧ P kds
  | _ => False
theorem xcK_s {e dd : Addr} {Q : List (Key × D) → Prop} : xcK (some (some (.val (.exc e dd kds)))) e dd Q = Q kds := by simp [xcK]
theorem wXf_e {e dd : Addr} {i : Nat} : wXf e dd f i xp Γ P = xcK Γ[i]? e dd fun kds => look? (valD kds (.inr f)) fun d => P (.val d) Γ := by
  unfold wXf xcK
  split
  · rename_i a b kds h
    refine propext ⟨fun ⟨kds', d, h1, h2, h3⟩ => ?_, fun ⟨h1, h2, h3⟩ => ?_⟩
    · rw [h] at h1; cases h1; refine ⟨rfl, rfl, ?_⟩; show look? (valD kds (.inr f)) _; rw [h2]; exact h3
    · subst h1 h2
      have h3 : look? (valD kds (.inr f)) (fun d => P (R.val d) Γ) := h3
      cases hv : valD kds (.inr f) with
      | none => rw [hv] at h3; exact h3.elim
      | some d => rw [hv] at h3; exact ⟨kds, d, h, hv, h3⟩
  · rename_i hn
    refine propext ⟨fun ⟨kds', d, h1, _⟩ => hn _ _ _ h1, fun z => z.elim⟩
theorem wRaise_e {flds : List Str} {ss : WA} : wRaise y flds ss Γ m = ss m.xp Γ fun ds Γ1 => ds.length = flds.length ∧ m.xp ⟨y, xfK flds ds⟩ Γ1 := Eq.trans rfl rfl
end
end DL

set_option maxHeartbeats 1000000
/-! sorted(set(xs)), xs a list of texts, also of equal ones -/
namespace DL
open PySem PySem.Spec L2 PyProof.Rows PySem.Froz

/-- a set's payload: the texts l, each once, in a table that can be walked -/
structure TxR (P : Program) (w : World) (Z : SD) (l : List Str) : Prop where
  ok : TxOk P w Z l
  nd : l.Nodup
  ris : Ris Z.2.2.place.toList
  led : w.params.followText "set-order" = true ∨ Z.2.2.led = true
/-- the text of an element -/
def keyX (e : Int × Value) : Str := match e.2 with | .str k _ => k | _ => default

section
variable {P : Program} {w : World} {A : Around} {E : Value → Shared → Prop} {s : Shared}
theorem addTx_ris {h : Int} {v : Value} {Z : SD} (r : Ris Z.2.2.place.toList) : Ris (addTx h v Z).2.2.place.toList := by
  have r1 := layNew_ris Z.2.2 Z.1 h v r
  unfold addTx tailTx
  generalize layNew Z.2.2 Z.1 h v = L at r1 ⊢
  obtain ⟨es1, t1, wd, gv⟩ := L
  dsimp only at r1 ⊢
  split <;> split <;> first | exact r1 | exact relayAll_ris _ _ _
theorem addTx_led {h : Int} {v : Value} {Z : SD} : (addTx h v Z).2.2.led = Z.2.2.led := by
  have r1 := layNew_led Z.2.2 Z.1 h v
  unfold addTx tailTx
  generalize layNew Z.2.2 Z.1 h v = L at r1 ⊢
  obtain ⟨es1, t1, wd, gv⟩ := L
  dsimp only at r1 ⊢
  split <;> split <;> first | exact r1 | exact (relayAll_led _ _ _).trans r1
theorem TxR.add {Z : SD} {l : List Str} {k : Str} (u : Tok) (F : TxR P w Z l) (hk : k ∉ l) : TxR P w (addTx (hashStr w k) (.str k u) Z) (k :: l) where
  ok := add_ok u F.ok
  nd := List.nodup_cons.mpr ⟨hk, F.nd⟩
  ris := addTx_ris F.ris
  led := by rw [addTx_led]; exact F.led
/-- a text that is in the set already -/
theorem add_again {a : Addr} {T : String} {Z : SD} {l : List Str} {k : Str} {u : Tok} {Q : Bool → Shared → Prop} (ho : s.heap.get? a = some (sObj T Z)) (F : TxOk P w Z l) (hk : k ∈ l) (hb : l.length < scanBound)
    (h : Q false s) : wpAny (model P w) A (setAddHashed a (.str k u) (hashStr w k)) Q E s := by
  obtain ⟨es, ep, t⟩ := Z
  have hd : (sObj T (es, ep, t)).data = .set es ep t := rfl
  have hf : t.fits es.size = true := F.fit
  have hel : ElemsOf (strKind P w) es.toList := F.el
  have hsz : es.size = l.length := F.sz
  have hb0 : es.size < scanBound := by omega
  have hkey : (strKind P w).is k (.str k u) = true := is_str k u
  unfold setAddHashed setAddHashedIn
  refine wpAny_holding (wpAny_bind (wpAny_setState_of ho hd hf ?_))
  dsimp only
  rw [byScan_of rfl hb0 hel]
  simp only [↓reduceIte]
  unfold setAddByScan
  refine wpAny_bind ?_
  refine wpAny_bind (wpAny_rule ?_)
  refine wpAny_bind (wpAny_setScan_of (knd := strKind P w) (k := k) hkey ho hd hf hel ?_)
  cases hr : List.findIdx? (fun e => (strKind P w).is k e.2) es.toList with
  | some j => exact wpAny_pure (wpAny_pure h)
  | none =>
    obtain ⟨e, he, q⟩ := (F.mem k).mp hk
    have c := List.findIdx?_eq_none_iff.mp hr e he
    rw [q] at c
    cases c
/-- the set at a -/
def SetX (P : Program) (w : World) (h : Heap) (a : Addr) (l : List Str) : Prop := ∃ Z, h.get? a = some (sObj "set" Z) ∧ TxR P w Z l
theorem SetX.at {h h' : Heap} {a : Addr} {l : List Str} (R : SetX P w h a l) (k : ∀ o, h.get? a = some o → h'.get? a = some o) : SetX P w h' a l := by
  obtain ⟨Z, ho, r⟩ := R
  exact ⟨Z, k _ ho, r⟩
/-- l holds the first i texts of ys, each once -/
structure GotX (ys : List Str) (i : Nat) (l : List Str) : Prop where
  sub : ∀ k ∈ l, k ∈ ys.take i
  all : ∀ k ∈ ys.take i, k ∈ l
  le : l.length ≤ i
theorem setX_add {a : Addr} {l : List Str} {k : Str} {u : Tok} {Q : Bool → Shared → Prop} (R : SetX P w s.heap a l) (hb : l.length + 1 < scanBound)
    (hQ : ∀ b h' l', Heap.SameBut a s.heap h' → SetX P w h' a l' → l' = (if k ∈ l then l else k :: l) → Q b { s with heap := h' }) :
    wpAny (model P w) A (setAddHashed a (.str k u) (hashStr w k)) Q E s := by
  obtain ⟨Z, ho, F⟩ := R
  rcases Classical.em (k ∈ l) with c | c
  · exact add_again ho F.ok c (by omega) (hQ _ s.heap l (Heap.SameBut.refl a s.heap) ⟨Z, ho, F⟩ (by rw [if_pos c]))
  · exact add_x ho F.ok c hb (hQ _ _ (k :: l) (Heap.SameBut.update _ a _) ⟨_, get_upd _ ho rfl, F.add u c⟩ (by rw [if_neg c]))
theorem GotX.step {ys l : List Str} {i : Nat} {k : Str} (g : GotX ys i l) (h : ys[i]? = some k) : GotX ys (i + 1) (if k ∈ l then l else k :: l) := by
  have e : ys.take (i + 1) = ys.take i ++ [k] := take_next h
  constructor
  · intro x hx
    rw [e, List.mem_append, List.mem_singleton]
    split at hx
    · exact .inl (g.sub x hx)
    · rcases List.mem_cons.mp hx with z | z
      · exact .inr z
      · exact .inl (g.sub x z)
  · intro x hx
    rw [e, List.mem_append, List.mem_singleton] at hx
    split
    · rename_i c
      rcases hx with z | z
      · exact g.all x z
      · rw [z]; exact c
    · rcases hx with z | z
      · exact List.mem_cons_of_mem _ (g.all x z)
      · rw [z]; exact List.mem_cons_self
  · have := g.le
    split
    · omega
    · simp only [List.length_cons]; omega
theorem GotX.zero (ys : List Str) : GotX ys 0 [] := ⟨fun k h => (by cases h), fun k h => (by simp at h), Nat.le_refl _⟩

/-- the loop of set.update over texts -/
theorem update_texts {I : Addr} {fp wr : List Addr} {G : Array GenState → Array GenState → Prop} {n : Nat} {Pv : Nat → Value → Prop} {St : Nat → Shared → Prop} {R : Result → Shared → Prop}
    (W : WalksS P w A.in1 I fp wr G n Pv St) (S : Addr) (hSf : S ∉ fp) (ys : List Str) (hn : n = ys.length) (hb : ys.length + 1 < scanBound) (hval : ∀ i v, Pv i v → ∃ k t, ys[i]? = some k ∧ v = .str k t) :
    ∀ (k i : Nat) (s : Shared), n - i = k → i ≤ n → St i s → (∃ l, GotX ys i l ∧ SetX P w s.heap S l) →
      (∀ s' l, Moved (S :: wr) G s s' → GotX ys n l → SetX P w s'.heap S l → R (.ok (.ret .none)) s') →
      codeAny (model P w) A (.builtin "set.update.loop" ⟨[.ref S, .ref I], []⟩) R s := by
  have hSw : S ∉ wr := fun h => hSf (W.sub _ h)
  have hsub : ∀ b ∈ wr, b ∈ S :: wr := fun b hb => List.mem_cons_of_mem _ hb
  intro k
  induction k with
  | zero =>
    intro i s hk' hi hst ⟨l, g, hS⟩ hR
    have hin : i = n := by omega
    subst hin
    refine codeAny_builtin F.entry_set_update_loop ?_
    rw [Around.under_plainId F.plain_set_update_loop _]
    show wpAny _ A.in1 (pyNext (.ref I) >>= _) _ _ s
    refine wpAny_bind (W.done s _ _ hst fun s' hm => ?_)
    show wpAny _ A.in1 (ret Value.none) _ _ s'
    exact wpAny_pure (hR s' l (hm.mono hsub) g (hS.at fun o e => hm.heap S o hSw e))
  | succ k ih =>
    intro i s hk' hi hst ⟨l, g, hS⟩ hR
    have hlt : i < n := by omega
    refine codeAny_builtin F.entry_set_update_loop ?_
    rw [Around.under_plainId F.plain_set_update_loop _]
    show wpAny _ A.in1 (pyNext (.ref I) >>= _) _ _ s
    refine wpAny_bind (W.item i s _ _ hlt hst fun v s' hP hst' hm => ?_)
    obtain ⟨z, t, hz, rfl⟩ := hval i v hP
    have hS' : SetX P w s'.heap S l := hS.at fun o e => hm.heap S o hSw e
    show wpAny _ A.in1 (holding [Value.str z t] (setAdd S (.str z t)) >>= _) _ _ s'
    refine wpAny_bind (wpAny_holding ?_)
    unfold setAdd
    refine wpAny_holding ?_
    refine wpAny_bind ((strKind P w).pyHash (k := z) (is_str z t) ?_)
    refine setX_add (s := { s' with toks := s'.toks + 1 }) hS' (by have := g.le; omega) fun b h' l' hsb hS2 el => ?_
    refine wpAny_pure ⟨plainId_quiet F.plain_set_update_loop _, ih (i + 1) _ (by omega) hlt (W.frame _ s' _ _ hst' (Nat.le_succ _) fun b hb o e => ?_) ⟨l', by rw [el]; exact g.step hz, hS2⟩ fun s'' l2 hm'' g'' hS'' => ?_⟩
    · rw [hsb.2 b (fun h : b = S => hSf (by rw [← h]; exact hb))]; exact e
    · refine hR s'' l2 (Moved.trans W.gtrans ((hm.mono hsub).then_heap (Nat.le_succ _) fun b o hb e => ?_) hm'') g'' hS''
      rw [hsb.2 b (fun h : b = S => hb (by rw [h]; exact List.mem_cons_self))]; exact e
theorem setX_new {h : Heap} {a : Addr} (ho : h.get? a = some { cls := .type "set", dict := none, data := .set #[] 0 (.fresh 0 0 (!w.params.followText "set-order")) }) : SetX P w h a [] :=
  ⟨(#[], 0, .fresh 0 0 (!w.params.followText "set-order")), ho, TxOk.nil (by rfl), List.nodup_nil, List.Pairwise.nil, by
    show _ ∨ (!w.params.followText "set-order") = true
    cases w.params.followText "set-order"
    · exact .inr rfl
    · exact .inl rfl⟩
end
end DL

set_option maxHeartbeats 3200000
/-! set(xs) of texts, sorted(set(xs)) as rules -/
namespace DL
open PySem PySem.Spec L2 PyProof.Rows PySem.Froz

section
variable {P : Program} {w : World} {A : Around} {E : Value → Shared → Prop} {s : Shared}
/-- set(xs), xs a list of texts -/
theorem call_set_texts {l : Addr} {items : Array Value} (ys : List Str) {Q : Value → Shared → Prop} (hh : A.handled = none) (hl : s.heap.IsList l items) (hit : StrsAre items.toList ys) (hb : ys.length + 1 < scanBound)
    (h : ∀ (h' : Heap) (tk : Nat) zs, SetX P w h' s.heap.objs.size zs → GotX ys ys.length zs → (∀ b o, s.heap.get? b = some o → h'.get? b = some o) → Q (.ref s.heap.objs.size) { s with heap := h', toks := tk }) :
    wpAny (model P w) A (call (.type "set") [.ref l]) Q E s := by
  have hisz : items.size = ys.length := by
    have q := StrsAre.length hit
    rw [Array.length_toList] at q
    exact q
  obtain ⟨c, tl, hmro⟩ := F.called_set.mro
  have hmade := F.called_set.made
  have hsub := F.called_set.sub
  refine wpAny_call (codeAny_of_tree ?_)
  show wpAny _ _ (callAny (.type "set") _) _ _ _
  refine wpAny_pure ⟨Code.quiet_builtin _ (by decide +kernel), codeAny_builtin F.entry_type_call ?_⟩
  rw [Around.under_plain (weight_type_call_type "set" [.ref l] []) rfl]
  have h1 := F.called_set.notType
  have h2 := F.called_set.canCreate
  have hct := F.typeCall_set_1 (.ref l)
  repeat (any_goals (first | assumption | wp_step))
  refine codeAny_mono (L2.code_set_led1 (.ref l) (E := E) (Q₁ := fun obj s₁ => obj = .ref s.heap.objs.size ∧ s₁ = { s with heap := s.heap.push { cls := .type "set", dict := none, data := .set #[] 0 (.fresh 0 0 (!w.params.followText "set-order")) } }) ⟨rfl, rfl⟩) fun r s₁ hr => ?_
  cases r with
  | error e => exact hr
  | ok fl =>
    cases fl with
    | ret obj =>
      obtain ⟨rfl, rfl⟩ := hr
      have hS : (s.heap.push { cls := .type "set", dict := none, data := .set #[] 0 (.fresh 0 0 (!w.params.followText "set-order")) }).get? s.heap.objs.size = some { cls := .type "set", dict := none, data := .set #[] 0 (.fresh 0 0 (!w.params.followText "set-order")) } := Heap.get?_push_size _ rfl
      have hT : Shared.TypeIs { s with heap := s.heap.push { cls := .type "set", dict := none, data := .set #[] 0 (.fresh 0 0 (!w.params.followText "set-order")) } } (.ref s.heap.objs.size) "set" := ⟨_, hS, rfl⟩
      have hli := F.called_set.init.lookup
      have hbi := F.called_set.init.bind (.ref s.heap.objs.size)
      repeat (any_goals (first | assumption | wp_step))
      refine codeAny_mono (codeAny_call_builtin (R := wants (fun r s₂ => r = .none ∧ ∃ h' tk zs, s₂ = { s with heap := h', toks := tk } ∧ SetX P w h' s.heap.objs.size zs ∧ GotX ys ys.length zs ∧
          (∀ b o, s.heap.get? b = some o → h'.get? b = some o)) E) F.called_set.init.plain F.entry_set_init (check_set_init_1 hT ?_)) fun r₂ s₂ hr₂ => ?_
      · obtain ⟨ol, hol, hcl, nl, hdl⟩ := hl
        obtain ⟨ocls, odict, odata, oslots⟩ := ol
        simp only at hcl hdl
        subst hcl; subst hdl
        have hol' : (s.heap.push { cls := .type "set", dict := none, data := .set #[] 0 (.fresh 0 0 (!w.params.followText "set-order")) }).get? l = some { cls := .type "list", dict := odict, data := .seq items nl, slots := oslots } := Heap.get?_push_of_some _ hol
        have hsls := F.sub_list_set
        have hslf := F.sub_list_frozenset
        have hne : (Value.type "list" == Value.type "dict") = false := by decide
        have hl1 : (s.heap.push { cls := .type "set", dict := none, data := .set #[] 0 (.fresh 0 0 (!w.params.followText "set-order")) }).IsList l items := ⟨_, hol', rfl, nl, rfl⟩
        unfold Builtin.«set.__init__» noKeywords Builtin.Frozenset.updateFrom
        generalize hPI : pyIter = PI
        wp_walk
        subst hPI
        refine wpAny_pyIter_list hl1 ?_
        refine wpAny_bind (wpAny_runValue ?_)
        have hlS : l < s.heap.objs.size := Heap.lt_size hol
        have hh3 : A.in1.in1.in1.handled = none := by simp [hh]
        have hneI : l ≠ (s.heap.push { cls := .type "set", dict := none, data := .set #[] 0 (.fresh 0 0 (!w.params.followText "set-order")) }).objs.size := by
          rw [Heap.size_push]; exact Nat.ne_of_lt (Nat.lt_succ_of_lt hlS)
        have hSf : s.heap.objs.size ∉ [(s.heap.push { cls := .type "set", dict := none, data := .set #[] 0 (.fresh 0 0 (!w.params.followText "set-order")) }).objs.size, l] := by
          rw [Heap.size_push]; simp only [List.mem_cons, List.mem_singleton, List.not_mem_nil, or_false, not_or]
          exact ⟨Nat.ne_of_lt (Nat.lt_succ_self _), Nat.ne_of_gt hlS⟩
        have hval : ∀ (i : Nat) (v : Value), items[i]? = some v → ∃ k t, ys[i]? = some k ∧ v = .str k t := fun i v hv => by
          obtain ⟨k, t, e2, e1⟩ := StrsAre.item hit i v (by rw [Array.getElem?_toList]; exact hv)
          exact ⟨k, t, e1, e2⟩
        refine update_texts ((Walks.list hh3 _ l hneI items).toS) s.heap.objs.size
          hSf ys hisz hb hval (items.size - 0) 0 _ (by omega) (Nat.zero_le _)
          ⟨⟨_, Heap.get?_push_size _ rfl, rfl, rfl⟩, (hl1.push _)⟩ ?hS0 ?hR
        case hS0 =>
          have hget : ((s.heap.push { cls := .type "set", dict := none, data := .set #[] 0 (.fresh 0 0 (!w.params.followText "set-order")) }).push { cls := .type "list_iterator", data := .fields #[.ref l, .int 0 0] }).get? s.heap.objs.size
              = some { cls := .type "set", dict := none, data := .set #[] 0 (.fresh 0 0 (!w.params.followText "set-order")) } := Heap.get?_push_of_some _ hS
          exact ⟨[], GotX.zero ys, setX_new hget⟩
        case hR =>
          intro s' zs hm g' hS'
          obtain ⟨h', g2, d', tk', os'⟩ := s'
          have eg : g2 = s.gens := hm.gens
          have ed : d' = s.drawn := hm.drawn
          have eo : os' = s.os := hm.os
          subst eg; subst ed; subst eo
          show wpAny _ _ _ _ _ _
          refine wpAny_pure ?_
          show wpAny _ _ (ret Value.none) _ _ _
          rw [hisz] at g'
          refine wpAny_pure ⟨rfl, h', tk', zs, rfl, hS', g', fun b o e => ?_⟩
          have hb0 : b < s.heap.objs.size := Heap.lt_size e
          have hb1 : b ≠ s.heap.objs.size := Nat.ne_of_lt hb0
          have hb2 : b ≠ (s.heap.push { cls := .type "set", dict := none, data := .set #[] 0 (.fresh 0 0 (!w.params.followText "set-order")) }).objs.size := by
            rw [Heap.size_push]; exact Nat.ne_of_lt (Nat.lt_succ_of_lt hb0)
          exact hm.heap b o (by simp only [List.mem_cons, List.mem_singleton, List.not_mem_nil, or_false, not_or]; exact ⟨hb1, hb2⟩) (Heap.get?_push_of_some _ (Heap.get?_push_of_some _ e))
      · cases r₂ with
        | error e => exact hr₂
        | ok fl₂ =>
          cases fl₂ with
          | ret r =>
            obtain ⟨rfl, h', tk, zs, rfl, hS', g', hk'⟩ := hr₂
            repeat (any_goals (first | assumption | wp_step))
            exact h _ _ _ hS' g' hk'
          | _ => exact hr₂.elim
    | _ => exact hr.elim
end

def SetXO (P : Program) (w : World) (a : Addr) (l : List Str) : HO := .ext fun h => SetX P w h a l
theorem setXO_new {P : Program} {w : World} {H : Hp} {h : Heap} {a : Addr} {l : List Str} (R : SetX P w h a l) : ObjOk P w H h a (SetXO P w a l) := by
  obtain ⟨Z, ho, q⟩ := id R
  exact ⟨R, ⟨_, ho⟩, fun h1 h2 p k => SetX.at p k⟩
theorem perm_of_len {α : Type} : ∀ (zs ks : List α), zs.Nodup → (∀ k ∈ zs, k ∈ ks) → ks.length ≤ zs.length → ks.Perm zs
  | [], ks, _, _, h => by
    have : ks = [] := List.eq_nil_of_length_eq_zero (by simpa using h)
    rw [this]
  | z :: zs, ks, nd, hs, h => by
    obtain ⟨a, b, rfl⟩ := List.append_of_mem (hs z List.mem_cons_self)
    have nd' := List.nodup_cons.mp nd
    have p : (a ++ z :: b).Perm (z :: (a ++ b)) := List.perm_middle
    refine p.trans (List.Perm.cons z (perm_of_len zs (a ++ b) nd'.2 (fun k hk => ?_) (by simp at h ⊢; omega)))
    have m := p.mem_iff.mp (hs k (List.mem_cons_of_mem _ hk))
    rcases List.mem_cons.mp m with e | m
    · exact absurd (e ▸ hk) nd'.1
    · exact m
/-- the texts of the values -/
theorem texts_of {P : Program} {w : World} : ∀ (us : List Value), (∀ u ∈ us, ∃ k t, u = Value.str k t) → StrsAre us (us.map fun u => keyX (0, u))
  | [], _ => .nil
  | u :: us, h => by
    obtain ⟨k, t, rfl⟩ := h u List.mem_cons_self
    exact .cons k t (texts_of (P := P) (w := w) us fun v hv => h v (List.mem_cons_of_mem _ hv))
/-- sorted(set(xs)), xs a list of texts -/
def rSetX (K : PySem.W.Frag) (P : Program) (w : World) : List V → Hp → VK → Prop := fun xs H Q => ∃ (l : Addr) (ys : List Str), xs = [V.ref l] ∧ SqL K H l (ys.map V.str) ∧ ys.length < 64 ∧
  ∀ a zs, H a = none → zs.Nodup → (∀ k, k ∈ zs ↔ k ∈ ys) → zs.length < 64 → Q (.ref a) (upd H a (SetXO P w a zs))
def rSortX (P : Program) (w : World) : List V → Hp → VK → Prop := fun xs H Q => ∃ (a : Addr) (zs : List Str), xs = [V.ref a] ∧ H a = some (SetXO P w a zs) ∧ zs.Nodup ∧ zs.length < 64 ∧
  ∀ (os : List Str) (p : Addr), os.Perm zs → sortedS os = true → H p = none → Q (.ref p) (upd H p (.lst (os.map V.str)))
section
variable {X : Cx}
theorem cr_setX (hc : X.calm = true) : CallR X (.type "set") (rSetX X.K X.prog X.w) := by
  intro pins s σ H xs us Q I r h
  obtain ⟨l, ys, rfl, hl, hf, q⟩ := h
  rw [Vals.ref1 r]
  obtain ⟨its, rv, pl, hz⟩ := I.list hl
  have hn : H s.heap.objs.size = none := I.hok.fresh (Nat.le_refl _)
  refine call_set_texts (P := X.prog) (w := X.w) ys (I.ok.hd hc) pl.isList (by simpa using rv.strs) (by unfold scanBound; omega) fun h' tk zs R g k => ?_
  obtain ⟨Z, ho, t⟩ := id R
  refine ⟨.ref s.heap.objs.size, upd H s.heap.objs.size (SetXO X.prog X.w s.heap.objs.size zs), I.laid (t' := tk) k (Nat.le_refl _) (setXO_new R), rfl, q _ zs hn t.nd (fun y => ⟨fun hy => ?_, fun hy => ?_⟩) ?_⟩
  · exact List.mem_of_mem_take (g.sub y hy)
  · exact g.all y (by rw [List.take_length]; exact hy)
  · have := g.le; omega
theorem cr_sortX (hc : X.calm = true) : CallR X (.builtin "sorted") (rSortX X.prog X.w) := by
  intro pins s σ H xs us Q I r h
  obtain ⟨a, zs, rfl, ha, nd, h64, q⟩ := h
  rw [Vals.ref1 r]
  obtain ⟨⟨es, ep, t⟩, ho, F⟩ := show SetX X.prog X.w s.heap a zs from (I.hok a _ ha).1
  have hsz : es.size = zs.length := F.ok.sz
  have hel : ElemsOf (strKind X.prog X.w) es.toList := F.ok.el
  have hfit : t.fits es.size = true := F.ok.fit
  have hmem : ∀ k : Str, k ∈ zs ↔ ∃ e ∈ es.toList, (strKind X.prog X.w).is k e.2 = true := F.ok.mem
  refine Calls.call_function_entry kind_sorted plain_sorted entry_sorted (args_sorted1 _) ?_
  unfold Builtin.«sorted»
  refine wpAny_bind (m := checkCount "sorted" 1 1 _) (wpAny_pure ?_)
  refine wpAny_bind (collect_set (A := X.A.in1) (I.ok.hd hc) ⟨_, ho, rfl, rfl⟩ hfit (by rw [hsz]; unfold scanBound; omega) F.ris F.led fun s1 vs k1 hz g1 o1 pm => ?_)
  have hvl : vs.length = zs.length := by rw [pm.length_eq, List.length_map, Array.length_toList]; exact hsz
  have isS : ∀ v ∈ vs, ∃ k u, v = Value.str k u := fun v hv => by
    obtain ⟨e, he, rfl⟩ := List.mem_map.mp (pm.mem_iff.mp hv)
    obtain ⟨⟨k, hk, _⟩, _⟩ := hel e he
    obtain ⟨u, e2⟩ := Value.isStrOf_shape (x := k) (v := e.2) hk
    exact ⟨k, u, e2⟩
  have hS : StrsAre vs (vs.map fun u => keyX (0, u)) := texts_of (P := X.prog) (w := X.w) vs isS
  have hperm : (vs.map fun u => keyX (0, u)).Perm zs := by
    refine perm_of_len zs _ F.nd (fun k hk => ?_) (by rw [List.length_map, hvl]; exact Nat.le_refl _)
    obtain ⟨e, he, z⟩ := (hmem k).mp hk
    obtain ⟨u, e2⟩ := Value.isStrOf_shape (x := k) (v := e.2) z
    refine List.mem_map.mpr ⟨e.2, pm.mem_iff.mpr (List.mem_map.mpr ⟨e, he, rfl⟩), ?_⟩
    rw [e2] <;> rfl
  refine wpAny_bind (wpAny_newList ?_ (by rw [hvl, sizeLine_eq]; omega))
  have hoL : (s1.heap.push (seqObj "list" vs.toArray 0)).get? s1.heap.objs.size = some (seqObj "list" vs.toArray 0) := Heap.get?_push_size _ rfl
  refine wpAny_bind (wpAny_holding (wpAny_call_entry slot_list_sort ⟨_, hoL, rfl⟩ entry_list_sort
    (list_sort_treeK strKind_oneLt (s := { s1 with heap := s1.heap.push (seqObj "list" vs.toArray 0) }) hoL hS.keysOf (fun v₁ v₂ rest e => keyKind_strs (by rw [← e]; exact hS)) (by rw [hvl]; exact h64) fun st' hp hs => ⟨_, rfl, ?_⟩)
    (args_list_sort _)))
  obtain ⟨os, q1, q2, q3⟩ := sorted_out_str hS hp hs
  obtain ⟨e', he'⟩ := sortedHeap_at (vs := vs) (out := (arrOf st').map (·.2)) hoL
  have pz : os.Perm zs := q2.trans hperm
  have hlen : (os.map V.str).length ≤ sizeLine := by rw [List.length_map, pz.length_eq]; exact small64 h64
  have hn : H s1.heap.objs.size = none := I.hok.fresh hz
  have k : ∀ b o, s.heap.get? b = some o → (sortedHeap (s1.heap.push (seqObj "list" vs.toArray 0)) s1.heap.objs.size vs ((arrOf st').map (·.2))).get? b = some o := fun b u e => by
    have q := k1 b u e
    have hlt := Heap.lt_size q
    rw [sortedHeap_old (Nat.ne_of_lt hlt) (by rw [size_push']; exact Nat.lt_succ_of_lt hlt)]
    exact Heap.get?_push_of_some _ q
  have J : Inv X pins σ (upd H s1.heap.objs.size (.lst (os.map V.str))) { s with heap := sortedHeap (s1.heap.push (seqObj "list" vs.toArray 0)) s1.heap.objs.size vs ((arrOf st').map (·.2)), gens := s1.gens, drawn := s1.drawn, toks := s1.toks } :=
    I.call (ch := []) (Un.laid k hz hn) (I.hok.laid k hz (show ObjOk X.prog X.w _ _ _ (.lst (os.map V.str)) from ⟨hlen, ((arrOf st').map (·.2)).toList, e', vals_of_strs q1, by rw [Array.toArray_toList]; exact he'⟩)) (by rw [g1]; exact I.bare) (fun _ z => nomatch z)
  have e : ({ s1 with heap := sortedHeap (s1.heap.push (seqObj "list" vs.toArray 0)) s1.heap.objs.size vs ((arrOf st').map (·.2)) } : Shared) = { s with heap := sortedHeap (s1.heap.push (seqObj "list" vs.toArray 0)) s1.heap.objs.size vs ((arrOf st').map (·.2)), gens := s1.gens, drawn := s1.drawn, toks := s1.toks } := by
    cases s1
    cases s
    cases o1
    rfl
  refine wpAny_pure ⟨_, rfl, .ref s1.heap.objs.size, upd H s1.heap.objs.size (.lst (os.map V.str)), ?_, rfl, q _ _ pz q3 hn⟩
  rw [← e] at J
  exact J
end
end DL

set_option maxHeartbeats 1000000
namespace DL
open PySem PySem.Spec L2

/-! ### sorted(set(xs)) of texts -/
def wSrtSet (s : WA) : WE := fun xp Γ P => s xp Γ fun ds Γ1 => ∃ ys : List Str, ds = [.lst (ys.map D.str)] ∧ ys.length < 64 ∧
  ∀ os : List Str, os.Nodup → (∀ k, k ∈ os ↔ k ∈ ys) → PyProof.Rows.sortedS os = true → P (.lst (os.map D.str)) Γ1
section
variable {X : Cx} {S : SK} {W : WX} {pos : Pos} {e : Expr} {ss : WA}
theorem pd_srtset {p p2 pos2 : Pos} (hc : X.calm = true) (hg : Gl X "sorted") (hm : X.mg "sorted" = none) (hg2 : Gl X "set") (hm2 : X.mg "set" = none) (ha : PA X [e] (DA X.K S X.mg W ss))
    (hbs : bootBuiltins "sorted" = some (.builtin "sorted") := by first | rfl | kernel_rfl) (hbt : bootBuiltins "set" = some (.type "set") := by first | rfl | kernel_rfl)
    (he : starEach [e] X.env = [(false, eval e X.env)] := by rfl)
    (he2 : starEach [(.Call (.Name "set" p2) [e] [] pos2)] X.env = [(false, eval (.Call (.Name "set" p2) [e] [] pos2) X.env)] := by rfl) :
    PE X (.Call (.Name "sorted" p) [.Call (.Name "set" p2) [e] [] pos2] [] pos) (DE X.K S X.mg W (wSrtSet ss)) := by
  refine PE.imp (pe_callB (cr_sortX hc) hg hm hbs (pa_cons (pe_callTy (cr_setX hc) hg2 hm2 hbt ha (he := he)) pa_nil) (he := he2)) fun σ H Q ⟨B, Δ, δ, Γ, xp, P, rp, hs, k, xl⟩ => ?_
  refine ⟨B, Δ, δ, Γ, xp, _, rp, hs, fun vs H1 ds Γ1 Hs p1 p2 I da hw => ?_, xl⟩
  obtain ⟨ys, rfl, hl, hp⟩ := hw
  cases da with
  | cons h1 h2 =>
    cases h2
    cases h1 with
    | lst h a =>
      have hok := den_strs_ok a
      have ev := strs_of a
      subst ev
      refine ⟨_, ys, rfl, .inl (.inl (I.sub _ _ h)), hl, fun b zs n nd hz h64 => ?_⟩
      refine ⟨b, zs, rfl, by rw [upd_same], nd, h64, fun os q pm so nq => ?_⟩
      have m : ∀ k, k ∈ os ↔ k ∈ ys := fun k => (pm.mem_iff).trans (hz k)
      have I1 := I.alloc (o := SetXO X.prog X.w b zs) n
      exact k _ _ _ Γ1 (I1.finL (den_strs fun y hy => hok y ((m y).mp hy)) nq) (hp os (pm.nodup_iff.mpr nd) m so)
end
end DL

set_option maxHeartbeats 1000000
namespace DL
open PySem PySem.Spec L2

/-! ### xs.extend(t), t a tuple (or a list) -/
theorem extend_tup (l : Addr) (items : Array Value) (n : Nat) (b : Addr) (items2 : Array Value) (n2 : Nat) (od : Option Addr) (sl : Array (Option Value)) (hs0 : ¬(!items.isEmpty && Builtin.List.listTooLong (items.size + items2.size)) = true) (hs1 : items.size ≤ sizeLine) (hs2 : items.size + items2.size ≤ sizeLine + 1) :
    Meets (Builtin.«list.extend» ⟨[.ref l, .ref b], []⟩) (fun _ R s => s.heap.get? l = some { cls := .type "list", dict := none, data := .seq items n, slots := #[] } ∧ s.heap.get? b = some { cls := .type "tuple", dict := od, data := .seq items2 n2, slots := sl } ∧ R (.ok (.ret Value.none)) { s with heap := s.heap.update l (Obj.mapSeq fun x => x ++ items2), toks := s.toks }) :=
  .of_wp fun prog w A R s h => by
    obtain ⟨hp, g, d, tk, os⟩ := s; obtain ⟨hl, hb, h⟩ := h; have f1 := PySem.F.sub_tuple_tuple; have f3 := PySem.F.sub_list_list; have f4 := PySem.F.sub_tuple_list; have f5 := PySem.F.sub_list_tuple;
    have hz' : (items ++ items2).size ≤ sizeLine + 1 := by rw [Array.size_append]; exact hs2
    wp_walk using (wpAny_updateSeq hl rfl (hz := hs1) (_hz' := hz')), wpAny_loadPart' hl, wpAny_loadPart' hb; exact ⟨_, rfl, h⟩
def rExtend2 (K : PySem.W.Frag) : V → List V → Hp → VK → Prop := fun x vs H Q => rExtend x vs H Q ∨ ∃ l b xs zs, x = .ref l ∧ vs = [.ref b] ∧ H l = some (.lst xs) ∧ SqT K H b zs ∧ xs.length + zs.length ≤ sizeLine ∧ Q .non (upd H l (.lst (xs ++ zs)))
section
variable {X : Cx}
theorem mt_extend2 : MtM X "list.extend" (rExtend2 X.K) := by
  intro pins s σ H x vs v us Q I rx rv h
  rcases h with h | h
  · exact mt_extend pins s σ H x vs v us Q I rx rv h
  obtain ⟨l, b, xs, zs, rfl, rfl, hH, hB, hz, q⟩ := h
  cases rx
  obtain ⟨u, rfl, ru⟩ := rv.one
  cases ru
  obtain ⟨z, its, n, r, hl, e⟩ := I.lstM hH
  obtain ⟨its2, r2, ⟨o2, e2, hc2, n2, hd2⟩, hz2⟩ := I.tuple hB
  obtain ⟨oc, od, odt, osl⟩ := o2
  simp only at hc2 hd2
  subst hc2; subst hd2
  have hl2 := r2.length
  have hsz : its.toArray.size + its2.toArray.size ≤ sizeLine := by rw [List.size_toArray, List.size_toArray]; omega
  have hlong : ¬ (!its.toArray.isEmpty && Builtin.List.listTooLong (its.toArray.size + its2.toArray.size)) = true := by
    rw [notLongL hsz, Bool.and_false]
    exact Bool.false_ne_true
  refine call_meets F.slot_list_extend ⟨_, e, rfl⟩ F.entry_list_extend (F.args_list_extend_2 _ _)
    (extend_tup l its.toArray n b its2.toArray n2 od osl hlong (by rw [List.size_toArray]; omega) (by omega)) ⟨e, e2, ?_⟩
  refine ⟨.non, _, I.lset (its' := its ++ its2) hH e (by simp) (r.append r2) ?_, rfl, q⟩
  rw [List.length_append]
  omega
end
def seqD : D → Option (List D)
  | .lst m => some m
  | .tup m => some m
  | _ => none
def seqK (o : Option (List D)) (Q : List D → Prop) : Prop := match o with
  | some m => Q m
  | none => False
/-- x.extend(e), e a list or a tuple -/
def wExt (i : Nat) (se : WE) : WE := fun xp Γ P => isLst Γ[i]? (fun _ => True) ∧ se xp Γ fun r Γ2 => isLst Γ2[i]? fun l => seqK (seqD r.d) fun m => l.length + m.length ≤ sizeLine ∧ P (.val .non) (Γ2.set i (some (.lst (l ++ m))))
theorem wExt_q : type_of% @wExt.eq_1 := by intros; exact Eq.trans (by rw [wExt.eq_1]) rfl
theorem wSrtSet_q : type_of% @wSrtSet.eq_1 := by intros; exact Eq.trans (by rw [wSrtSet.eq_1]) rfl
theorem seqD_l {m : List D} : seqD (.lst m) = some m := Eq.trans rfl rfl
theorem seqD_t {m : List D} : seqD (.tup m) = some m := Eq.trans rfl rfl
theorem seqK_s {m : List D} {Q : List D → Prop} : seqK (some m) Q = Q m := Eq.trans rfl rfl
section
variable {X : Cx} {S : SK} {W : WX} {cpos apos : Pos} {e : Expr} {se : WE}
theorem pd_ext {y : Str} {p : Pos} (i : Nat) (h : PE X (.Call (.Attribute (.Name y p) "extend" apos) [e] [] cpos) (tBM X.K "list" (rExtend2 X.K) (tVar i) (tCons (DE X.K S X.mg W se) tNil))) :
    PE X (.Call (.Attribute (.Name y p) "extend" apos) [e] [] cpos) (DE X.K S X.mg W (wExt i se)) := by
  refine PE.imp h fun σ H Q ⟨B, Δ, δ, Γ, xp, P, ⟨Hs, q1, q2, I⟩, ⟨h0, hs⟩, k, xl⟩ => ?_
  rw [← isLst_e] at h0
  obtain ⟨l0, h0, _⟩ := h0
  obtain ⟨p0, vs0, hv, hp0, _⟩ := own_lst I h0
  refine ⟨_, hv, .inl ⟨rfl, _, .inl (.inl hp0)⟩, B, Δ, δ, Γ, xp, _, I.rep, hs, fun v H1 r Γ2 rp h1 => ?_, xl⟩
  rw [← isLst_e] at h1
  obtain ⟨l, hl, hp⟩ := h1
  obtain ⟨Hs2, r1, r2, I2, dv⟩ := rp.frz
  obtain ⟨p', vs, hv', hp', da⟩ := own_lst I2 hl
  rw [hv] at hv'; cases hv'
  cases hd : r.d with
  | lst m =>
    rw [hd] at dv hp
    obtain ⟨hz, hp⟩ := hp
    cases dv with
    | lst hb db =>
      exact .inl ⟨_, _, _, _, rfl, rfl, hp', I2.sub _ _ hb, by rw [da.length, db.length]; exact hz, k _ _ _ _ ((own_put I2 hl hv (da.append db)).fin .non) hp⟩
  | tup m =>
    rw [hd] at dv hp
    obtain ⟨hz, hp⟩ := hp
    cases dv with
    | tup hb db =>
      exact .inr ⟨_, _, _, _, rfl, rfl, hp', I2.sqT hb, by rw [da.length, db.length]; exact hz, k _ _ _ _ ((own_put I2 hl hv (da.append db)).fin .non) hp⟩
  | _ => rw [hd] at hp; exact hp.elim
end
end DL

set_option maxHeartbeats 1000000
namespace DL
open PySem PySem.Spec L2 PyProof.Rows

/-! ### sorted lists of texts -/
theorem str_ext {a b : Str} (h : a.cps.toList = b.cps.toList) : a = b := by
  cases a; cases b
  exact congrArg Str.mk (Array.toList_inj.mp h)
theorem rising_pw : ∀ (l : List Str) (p : Str), risingS p l = true → (p :: l).Pairwise (fun a b => a.cps.toList ≤ b.cps.toList)
  | [], p, _ => by simp
  | x :: r, p, h => by
    rw [risingS, Bool.and_eq_true] at h
    have h2 := rising_pw r x h.2
    have h1 : p.cps.toList ≤ x.cps.toList := by
      have := h.1
      rw [ltCps_eq] at this
      exact List.not_lt.mp (by simpa using this)
    refine List.pairwise_cons.mpr ⟨fun y hy => ?_, h2⟩
    rcases List.mem_cons.mp hy with e | hy
    · rw [e]; exact h1
    · exact List.le_trans h1 ((List.pairwise_cons.mp h2).1 y hy)
theorem sorted_pw {l : List Str} (h : sortedS l = true) : l.Pairwise (fun a b => a.cps.toList ≤ b.cps.toList) := by
  cases l with
  | nil => exact .nil
  | cons x r => exact rising_pw r x h
theorem pw_uniq : ∀ (a b : List Str), a.Nodup → b.Nodup → a.Pairwise (fun a b => a.cps.toList ≤ b.cps.toList) → b.Pairwise (fun a b => a.cps.toList ≤ b.cps.toList) → (∀ s, s ∈ a ↔ s ∈ b) → a = b
  | [], b, _, _, _, _, h => by
    cases b with
    | nil => rfl
    | cons y b => exact absurd ((h y).mpr List.mem_cons_self) (by simp)
  | x :: a, [], _, _, _, _, h => absurd ((h x).mp List.mem_cons_self) (by simp)
  | x :: a, y :: b, na, nb, pa, pb, h => by
    obtain ⟨p1, p2⟩ := List.pairwise_cons.mp pa
    obtain ⟨q1, q2⟩ := List.pairwise_cons.mp pb
    obtain ⟨n1, n2⟩ := List.nodup_cons.mp na
    obtain ⟨m1, m2⟩ := List.nodup_cons.mp nb
    have e : x = y := by
      rcases List.mem_cons.mp ((h x).mp List.mem_cons_self) with e | hx
      · exact e
      · rcases List.mem_cons.mp ((h y).mpr List.mem_cons_self) with e | hy
        · exact e.symm
        · exact str_ext (List.le_antisymm (p1 y hy) (q1 x hx))
    subst e
    rw [pw_uniq a b n2 m2 p2 q2 fun s => ⟨fun hs => ?_, fun hs => ?_⟩]
    · rcases List.mem_cons.mp ((h s).mp (List.mem_cons_of_mem _ hs)) with e | hb
      · exact absurd (e ▸ hs) n1
      · exact hb
    · rcases List.mem_cons.mp ((h s).mpr (List.mem_cons_of_mem _ hs)) with e | hb
      · exact absurd (e ▸ hs) m1
      · exact hb
theorem sorted_uniq {a b : List Str} (na : a.Nodup) (nb : b.Nodup) (sa : sortedS a = true) (sb : sortedS b = true) (h : ∀ s, s ∈ a ↔ s ∈ b) : a = b := pw_uniq a b na nb (sorted_pw sa) (sorted_pw sb) h
theorem nodup_len {α : Type} : ∀ (zs ks : List α), zs.Nodup → (∀ k ∈ zs, k ∈ ks) → zs.length ≤ ks.length
  | [], ks, _, _ => Nat.zero_le _
  | z :: zs, ks, nd, hs => by
    obtain ⟨a, b, rfl⟩ := List.append_of_mem (hs z List.mem_cons_self)
    have nd' := List.nodup_cons.mp nd
    have p : (a ++ z :: b).Perm (z :: (a ++ b)) := List.perm_middle
    have := nodup_len zs (a ++ b) nd'.2 fun k hk => by
      rcases List.mem_cons.mp (p.mem_iff.mp (hs k (List.mem_cons_of_mem _ hk))) with e | m
      · exact absurd (e ▸ hk) nd'.1
      · exact m
    simp at this ⊢
    omega
end DL

set_option maxHeartbeats 4000000
/-! isinstance of a caught error that has fields -/
namespace DL
open PySem PySem.Spec PySem.Calls PyProof.Rows PySem.W
/-- what the class of an error must say, so that isinstance asks its instances rightly -/
def iskB (K : Frag) (D : Addr) : Bool := decide (findIn K (.ref D) "__class__" = some (some (.builtin "object.__class__"))) && decide (specialIn K (.builtin "object.__class__") "__get__" = some (some (.builtin "getset_descriptor.__get__"))) && decide (takesIn K (.builtin "object.__class__") = some true) && decide (mroIn K D (.type "object") = some true)
section
variable {prog : Program} {w : World} {A : Around} {E : Value → Shared → Prop} {s : Shared} {K : Frag} {x D : Addr} {ox : Obj} {od : Option Obj}
theorem findObj_dat {C : Addr} {name : Str} {a g : Value} (hc : (clsIn K C).isSome = true) (ha : findIn K (.ref C) name = some (some a)) (hg : specialIn K a "__get__" = some (some g)) (ht : takesIn K a = some true) : findObj K C od name = some (.bind g a) := by
  obtain ⟨cd, hc⟩ := Option.isSome_iff_exists.mp hc
  unfold findObj
  rw [hc, Option.bind_some, ha, Option.bind_some]
  simp [hg, ht]
theorem class_of {Q : Option Value → Shared → Prop} (hga : findIn K (.ref D) "__getattribute__" = some (some (.builtin "BaseException.__getattribute__"))) (hgt : findIn K (.ref D) "__getattr__" = some none) (hsub : subIn K (.ref D) (.type "BaseException") = some true)
    (hdct : hasDictIn K D = true) (ha : findIn K (.ref D) "__class__" = some (some (.builtin "object.__class__")))
    (hn : specialIn K (.builtin "object.__class__") "__get__" = some (some (.builtin "getset_descriptor.__get__"))) (htk : takesIn K (.builtin "object.__class__") = some true) (hm : mroIn K D (.type "object") = some true)
    (X : K.In s.heap) (I : InstAt s.heap x ox D od) (h : Q (some (.ref D)) { s with toks := s.toks + 1 }) : wpAny (model prog w) A (getAttr? (.ref x) "__class__") Q E s := by
  have hf : findObj K D od "__class__" = some (.bind (.builtin "getset_descriptor.__get__") (.builtin "object.__class__")) := findObj_dat (by obtain ⟨cd, hc, _⟩ := any_some hdct; rw [hc]; rfl) ha hn htk
  obtain ⟨hp, g, d, t, os⟩ := s
  have L0 := I.type (M := model prog w)
  have L1 := looks_findIn (M := model prog w) X hga
  have L2 := looks_findIn (M := model prog w) X hgt
  have L3 := looks_find (M := model prog w) X I hf
  have sub : Looks (model prog w) hp (isInstance (.ref x) (.type "BaseException")) true := L0.andThen (looks_subIn X hsub)
  have hx0 : (false && onTheHeap (Value.builtin "BaseException.__getattribute__")) = false := rfl
  have hx2 : (Value.builtin "BaseException.__getattribute__" == Value.builtin "object.__getattribute__") = false := by decide +kernel
  have hx1 : (onTheHeap (Value.ref D) && Value.builtin "BaseException.__getattribute__" == Value.builtin "object.__getattribute__") = false := by rw [hx2]; rfl
  unfold getAttr? getAttrBy? getAttrBy
  refine wpAny_bind (wpAny_mkText (wpAny_bind (wpAny_attempt (wpAny_holding (wpAny_bind (L0.at (wpAny_bind (L1.at ?_))))))))
  show wpAny _ _ (if (onTheHeap (Value.ref D) && Value.builtin "BaseException.__getattribute__" == Value.builtin "object.__getattribute__") = true then _ else _) _ _ _
  rw [hx1, if_neg Bool.false_ne_true]
  unfold getAttrByItsOwn hookBefore
  refine wpAny_bind ?_
  rw [if_pos (show onTheHeap (Value.ref D) = true from rfl)]
  refine L2.at ?_
  refine wpAny_bind (wpAny_attempt (wpAny_holding ?_))
  unfold callGetattribute
  rw [hx0, if_neg Bool.false_ne_true]
  unfold boundAndCalled
  rw [PySem.F.excAttr_ValueError.ga.bind (.ref x)]
  refine wpAny_bind (wpAny_pure ?_)
  show wpAny _ _ (call (.builtin "BaseException.__getattribute__") [.ref x, .str "__class__" t]) _ _ _
  refine wpAny_call (codeAny_call_builtin PySem.F.excAttr_ValueError.ga.plain PySem.F.entry_bexc_ga ?_)
  refine @check_slot (model prog w) _ _ ⟨hp, g, d, t + 1, os⟩ "BaseException.__getattribute__" "BaseException" "__getattribute__" (.ref x) [.str "__class__" t] [] _ (by decide +kernel) (by decide +kernel) sub (PySem.F.args_bexc_ga (.ref x) (.str "__class__" t)) ?_
  unfold Builtin.«object.__getattribute__»
  refine wpAny_bind (wpAny_of_eq (a := ((Value.ref x : Value), [Value.str "__class__" t])) (by first | rfl | (simp only [slotArgs]; rfl)) ?_)
  refine wpAny_bind (wpAny_pure (wpAny_bind (L0.at (wpAny_bind (L3.at ?_)))))
  show wpAny _ _ (holding [Value.builtin "object.__class__"] (call (.builtin "getset_descriptor.__get__") [.builtin "object.__class__", .ref x, .ref D]) >>= ret) _ _ _
  refine wpAny_bind (wpAny_holding (wpAny_call (class_get (s := ⟨hp, g, d, t + 1, os⟩) (ox := ox) (od := od) X I hm ?_)))
  refine wpAny_pure ?_
  show wpAny _ _ (handedOut (.ref D)) _ _ _
  rw [handedOut_of (v := .ref D) rfl]
  first
    | exact wpAny_pure (wpAny_pure h)
    | exact wpAny_pure h
    | exact wpAny_pure (wpAny_bind (wpAny_pure (wpAny_pure h)))
theorem kit_exc (T : L2.XfC K D) (ik : iskB K D = true) : KitX K (.ref x) (.ref D) (fun h => InstAt h x ox D od) where
  ty := fun _ _ _ I => I.type
  it := fun _ _ X _ => by
    obtain ⟨cdD, hcD, _⟩ := any_some T.hdC
    unfold clsIn at hcD
    split at hcD
    · rename_i c' d' cd' sl' ho
      intro A' Q' E' s' k q
      unfold isType loadHead
      exact wpAny_bind (wpAny_loadPart (k _ _ (X _ _ ho)) (wpAny_pure q))
    · cases hcD
  ne := fun h tp dd its n sl X htp => by
    obtain ⟨cdD, hcD, _⟩ := any_some T.hdC
    refine Bool.eq_false_iff.mpr fun q => ?_
    have e : D = tp := Value.ref.inj (beq_iff_eq.mp q)
    subst e
    unfold clsIn at hcD
    split at hcD
    · rename_i c' d' cd' sl' ho
      have z := (X _ _ ho).symm.trans htp
      cases z
    · cases hcD
  ca := fun X I k => by
    unfold iskB at ik
    simp only [Bool.and_eq_true, decide_eq_true_eq] at ik
    exact class_of T.ga T.gg T.exC T.hdC ik.1.1.1 ik.1.1.2 ik.1.2 ik.2 X I k
end
end DL
namespace DL
open PySem PySem.Spec L2
/-- isinstance(e, c), e the caught exception, with its fields -/
def rIsX (K : PySem.W.Frag) (D a dd : Addr) : List V → Hp → VK → Prop := fun xs H Q => ∃ (c : V) (cv : Value) (b : Bool) (fs : List (Str × V)), xs = [.ref a, c] ∧ (∀ u, RelV c u → u = cv) ∧ PySem.W.kitOne K (.ref D) cv = some b ∧ H dd = some (.xd fs) ∧ Q (.bl b) H
theorem call_isX {X : L2.Cx} {a D dd : Addr} {oe : Obj} {pn : List (Addr × Obj)} (T : XfC X.K D) (ik : iskB X.K D = true) (hz : Zc (.ref D) (some dd) oe) (hf : ∃ vs, oe.data = .fields vs) : CallR (X.suite a ((a, oe) :: pn)) (.builtin "isinstance") (rIsX X.K D a dd) := by
  intro pins s σ H xs us Q I r h
  obtain ⟨c, cv, b, fs, rfl, hcv, e, ea, q⟩ := h
  cases r with
  | cons rx rr =>
    cases rr with
    | cons rt rr =>
      cases rr
      cases rx
      have ec := hcv _ rt
      subst ec
      obtain ⟨hget, _⟩ := I.pin (a, oe) (List.mem_append.mpr (.inl List.mem_cons_self))
      obtain ⟨vs, hv⟩ := hf
      have hx : ObjOk X.prog X.w H s.heap dd (.xd fs) := I.hok dd _ ea
      obtain ⟨mA, hns, hr⟩ := hx
      obtain ⟨od, ho, hl⟩ := lookIn_ns hns
      have J : PySem.W.InstAt s.heap a oe D (some od) := ⟨hget, hz.1, by unfold PySem.W.notCls; rw [hv] <;> rfl, by rw [hz.2]; exact ho⟩
      exact PySem.W.kia_one (kit_exc (od := some od) T ik) I.kIn J e (fun z => nomatch z) fun tk => ⟨.bl b, H, I.kept (t' := tk) fun _ _ z => z, rfl, q⟩
end DL

set_option maxHeartbeats 2000000
namespace DL
open PySem PySem.Spec L2
/-! ### isinstance(e, C) in a clause's suite -/
structure Is (K : PySem.W.Frag) (mg : Str → Option Value) (L : List (Str × List Str)) : Prop where
  a : ∀ n anc, L.lookup n = some anc → ∃ C, mg n = some (.ref C) ∧ XfC K C ∧ iskB K C = true ∧ PySem.W.kitOne K (.ref C) (.type "ValueError") = some true ∧ ∀ q ∈ L, ∃ E, mg q.1 = some (.ref E) ∧ PySem.W.kitOne K (.ref C) (.ref E) = some (decide (q.1 ∈ anc))
def isB (K : PySem.W.Frag) (L : List (Str × List Str)) : Bool := L.all fun p => match PySem.W.nsIn K mainGlobals p.1 with
  | some (some (.ref C)) => xfB K C && iskB K C && decide (PySem.W.kitOne K (.ref C) (.type "ValueError") = some true) && L.all fun q => (match PySem.W.nsIn K mainGlobals q.1 with
    | some (some (.ref E)) => decide (PySem.W.kitOne K (.ref C) (.ref E) = some (decide (q.1 ∈ p.2)))
    | _ => false)
  | _ => false
theorem is_of {K : PySem.W.Frag} {h : Heap} {mg : Str → Option Value} {L : List (Str × List Str)} (X : K.In h) (G : h.Ns mainGlobals mg) (e : isB K L = true) : Is K mg L := by
  refine ⟨fun n anc hl => ?_⟩
  unfold isB at e
  have e1 := List.all_eq_true.mp e _ (PySem.mem_of_lookup hl)
  dsimp only at e1
  split at e1
  · rename_i C hC
    simp only [Bool.and_eq_true, List.all_eq_true, decide_eq_true_eq] at e1
    obtain ⟨⟨⟨h1, h2⟩, h4⟩, h3⟩ := e1
    refine ⟨C, PySem.W.mg_of X G hC, xfB_ok h1, h2, h4, fun q hq => ?_⟩
    have e2 := h3 q hq
    split at e2
    · rename_i E hE
      exact ⟨E, PySem.W.mg_of X G hE, by simpa using e2⟩
    · cases e2
  · cases e1
def wXis (L : List (Str × List Str)) (e dd : Addr) (n y : Str) (i : Nat) : WE := fun _ Γ P => xcK Γ[i]? e dd fun _ => P (.val (.bl (hit L n y))) Γ
def wXiv (e dd : Addr) (i : Nat) : WE := fun _ Γ P => xcK Γ[i]? e dd fun _ => P (.val (.bl true)) Γ
theorem wXis_q : type_of% @wXis.eq_1 := by intros; exact Eq.trans (by rw [wXis.eq_1]) rfl
theorem wXiv_q : type_of% @wXiv.eq_1 := by intros; exact Eq.trans (by rw [wXiv.eq_1]) rfl
section
variable {X : L2.Cx} {S : SK} {W : WX} {L : List (Str × List Str)}
theorem xcK_of {o : Option (Option R)} {e dd : Addr} {Q : List (Key × D) → Prop} (h : xcK o e dd Q) : ∃ kds, o = some (some (.val (.exc e dd kds))) ∧ Q kds := by
  unfold xcK at h
  split at h
  · obtain ⟨rfl, rfl, h⟩ := h
    exact ⟨_, rfl, h⟩
  · exact h.elim
theorem pd_xis {e C dd : Addr} {eo : Obj} {pn : List (Addr × Obj)} {n : Str} {anc : List Str} {y c : Str} {p p1 p2 pos : Pos} (i : Nat) (is : Is X.K X.mg L) (hm : (L.lookup c).isSome = true) (hgc : Gl X c) (hdc : (c == ("__debug__" : Str)) = false) (hgi : Gl X "isinstance") (hmi : X.mg "isinstance" = none)
    (hz : Zc (.ref C) (some dd) eo) (hd : ∃ vs, eo.data = .fields vs) (hl : L.lookup n = some anc) (hn : X.mg n = some (.ref C)) (he : PE (X.suite e ((e, eo) :: pn)) (.Name y p) (tVar i)) 
    (hbi : bootBuiltins "isinstance" = some (.builtin "isinstance") := by first | rfl | kernel_rfl)
    (hs : starEach [Expr.Name y p, .Name c p1] X.env = (false, eval (.Name y p) X.env) :: starEach [.Name c p1] X.env := by rfl) (hs2 : starEach [Expr.Name c p1] X.env = (false, eval (.Name c p1) X.env) :: starEach [] X.env := by rfl) (hpl : (backTo pos (starEach [.Name c p1] X.env)).any (·.1) = false := by rfl) :
    PE (X.suite e ((e, eo) :: pn)) (.Call (.Name "isinstance" p2) [.Name y p, .Name c p1] [] pos) (DE X.K S X.mg W (wXis L e dd n c i)) := by
  obtain ⟨C', hC', xf, ik, _, hq⟩ := is.a _ _ hl
  rw [hn] at hC'; cases hC'
  obtain ⟨cb, hcb⟩ := Option.isSome_iff_exists.mp hm
  obtain ⟨E, hE, hk⟩ := hq _ (PySem.mem_of_lookup hcb)
  refine PE.imp (pe_callB (X := X.suite e ((e, eo) :: pn)) (call_isX xf ik hz hd) hgi hmi hbi (pa_cons he (pa_cons (pe_glob (X := X.suite e ((e, eo) :: pn)) (v := .ref E) hgc hE rfl hdc) pa_nil hs2) hs) (he := hs) (hpl := hpl)) fun σ H Q ⟨B, Δ, δ, Γ, xp, P, ⟨Hs, p1, p2, I⟩, h1, k, _⟩ => ?_
  obtain ⟨kds, h1, h3⟩ := xcK_of h1
  obtain ⟨v, q, _, _, e1, _, e3, _⟩ := I.sl.at h1
  cases e3 with
  | val dv =>
    cases dv with
    | @exc _ _ fs _ a1 a2 =>
      refine ⟨_, e1, _, .ref E, _, fs, rfl, fun u r => r, hk, I.sub _ _ a1, ?_⟩
      have eh : hit L n c = decide (c ∈ anc) := by unfold hit; rw [hl]
      rw [← eh]
      exact k _ _ _ _ (I.fin (.bl _)) h3
theorem pd_xiv {e C dd : Addr} {eo : Obj} {pn : List (Addr × Obj)} {n : Str} {anc : List Str} {y : Str} {p p1 p2 pos : Pos} (i : Nat) (is : Is X.K X.mg L) (hgc : Gl X "ValueError") (hmc : X.mg "ValueError" = none) (hgi : Gl X "isinstance") (hmi : X.mg "isinstance" = none)
    (hz : Zc (.ref C) (some dd) eo) (hd : ∃ vs, eo.data = .fields vs) (hl : L.lookup n = some anc) (hn : X.mg n = some (.ref C)) (he : PE (X.suite e ((e, eo) :: pn)) (.Name y p) (tVar i)) 
    (hbi : bootBuiltins "isinstance" = some (.builtin "isinstance") := by first | rfl | kernel_rfl) (hbv : bootBuiltins "ValueError" = some (.type "ValueError") := by first | rfl | kernel_rfl)
    (hs : starEach [Expr.Name y p, .Name "ValueError" p1] X.env = (false, eval (.Name y p) X.env) :: starEach [.Name "ValueError" p1] X.env := by rfl) (hs2 : starEach [Expr.Name "ValueError" p1] X.env = (false, eval (.Name "ValueError" p1) X.env) :: starEach [] X.env := by rfl) (hpl : (backTo pos (starEach [.Name "ValueError" p1] X.env)).any (·.1) = false := by rfl) :
    PE (X.suite e ((e, eo) :: pn)) (.Call (.Name "isinstance" p2) [.Name y p, .Name "ValueError" p1] [] pos) (DE X.K S X.mg W (wXiv e dd i)) := by
  obtain ⟨C', hC', xf, ik, hv, hq⟩ := is.a _ _ hl
  rw [hn] at hC'; cases hC'
  refine PE.imp (pe_callB (X := X.suite e ((e, eo) :: pn)) (call_isX xf ik hz hd) hgi hmi hbi (pa_cons he (pa_cons (pe_bltn (X := X.suite e ((e, eo) :: pn)) (v := .ty "ValueError") hgc hmc hbv rfl) pa_nil hs2) hs) (he := hs) (hpl := hpl)) fun σ H Q ⟨B, Δ, δ, Γ, xp, P, ⟨Hs, p1, p2, I⟩, h1, k, _⟩ => ?_
  obtain ⟨kds, h1, h3⟩ := xcK_of h1
  obtain ⟨v, q, _, _, e1, _, e3, _⟩ := I.sl.at h1
  cases e3 with
  | val dv =>
    cases dv with
    | @exc _ _ fs _ a1 a2 =>
      exact ⟨_, e1, _, .type "ValueError", _, fs, rfl, fun u r => r, hv, I.sub _ _ a1, k _ _ _ _ (I.fin (.bl _)) h3⟩
end
end DL

set_option maxHeartbeats 2000000
namespace DL
open PySem PySem.Spec L2
/-! ### xs.index(s), texts -/
def wIndex (a : D) (ds : List D) (P : R → Prop) : Prop := ∃ (ys : List Str) (s : Str) (j : Nat), a = .lst (ys.map D.str) ∧ ds = [.str s] ∧ ys[j]? = some s ∧ (∀ (m : Nat) (z : Str), m < j → ys[m]? = some z → z ≠ s) ∧ P (.val (.int (j : Nat)))
section
variable {K : PySem.W.Frag} {S : SK}
theorem ms_index : MtS K S (rIndex K) wIndex := by
  intro B Hs Δ δ Γ σ H p1 p2 x vs a ds P Q I da db hw k
  obtain ⟨ys, s, j, rfl, rfl, hj, hno, hp⟩ := hw
  cases db with
  | cons h1 h2 =>
    cases h2
    cases h1
    cases da with
    | lst h b =>
      have e := strs_of b
      subst e
      refine ⟨_, _, .str s, j, .str s, rfl, rfl, .inl (.inl (I.sub _ _ h)), rfl, ?_, by rw [List.getElem?_map, hj]; rfl, ?_, fun m z' hm hz => ?_, k _ _ _ (I.fin (.int _)) hp⟩
      · rw [List.all_map]; exact List.all_eq_true.mpr fun _ _ => rfl
      · simp [eqV]
      · rw [List.getElem?_map] at hz
        cases hq : ys[m]? with
        | none => rw [hq] at hz; cases hz
        | some q =>
          rw [hq] at hz
          cases hz
          have := hno m q hm hq
          simpa [eqV] using this
end
end DL

set_option maxHeartbeats 4000000
namespace Nk05
open PySem PySem.Spec L2 DL
def topS (i : Nat) : Stmt := PySem.Challenge.pw_turnedpages_k05_parts_of_stories.main.body.getD i (.Pass ⟨0, 0, 0, 0⟩)
def xL : List (Str × List Str) := [("TaleError", ["TaleError"]), ("BadStory", ["BadStory", "TaleError"]), ("BadStep", ["BadStep", "TaleError"]), ("NoSuch", ["NoSuch", "TaleError"]), ("Taken", ["Taken", "TaleError"])]
def xF : List Str := ["name", "place", "scene", "word"]
theorem lx_TaleError : xL.lookup ("TaleError" : Str) = some (["TaleError"] : List Str) := by decide +kernel
theorem ht_0 : hit xL "TaleError" "TaleError" = true := by decide +kernel
theorem ht_1 : hit xL "TaleError" "BadStory" = false := by decide +kernel
theorem ht_2 : hit xL "TaleError" "BadStep" = false := by decide +kernel
theorem ht_3 : hit xL "TaleError" "NoSuch" = false := by decide +kernel
theorem ht_4 : hit xL "TaleError" "Taken" = false := by decide +kernel
theorem lx_BadStory : xL.lookup ("BadStory" : Str) = some (["BadStory", "TaleError"] : List Str) := by decide +kernel
theorem ht_5 : hit xL "BadStory" "TaleError" = true := by decide +kernel
theorem ht_6 : hit xL "BadStory" "BadStory" = true := by decide +kernel
theorem ht_7 : hit xL "BadStory" "BadStep" = false := by decide +kernel
theorem ht_8 : hit xL "BadStory" "NoSuch" = false := by decide +kernel
theorem ht_9 : hit xL "BadStory" "Taken" = false := by decide +kernel
abbrev s_cls_BadStory : Stmt := clsDef (topS 6) 0
theorem in_BadStory {P : Program} {w : World} {K : PySem.W.Frag} {mg : Str → Option Value} {base : Heap} {C f cda cc : Addr} {fd : FuncData} (IK : InK P K "BadStory.__init__" s_cls_BadStory C f fd cda cc) (T : OexC K C) (hsu : mg "super" = none) (h : ∀ f ∈ (["scene", "place", "word"] : List Str), PySem.W.findIn K (.ref C) f = some none) : FnOk P w K mg base (L2.CX P w) 1 f fd ["self", "scene", "place", "word"] (spI C ["scene", "place", "word"]) :=
  init_ok IK T hsu (N := ["self", "scene", "place", "word", "__class__"]) (NdefX.nscope_by (by decide +kernel)) rfl rfl rfl (fun A outer s H E => ⟨(pa_cons (pv 1) (pa_cons (pv 2) (pa_cons (pv 3) pa_nil))), rfl, rfl, (pss_cons (ps_ost (pv 0) (pv 1)) (pss_cons (ps_ost (pv 0) (pv 2)) (pss_one (ps_ost (pv 0) (pv 3))))), rfl, rfl⟩) (rd3 T (h _ (by simp)) (h _ (by simp)) (h _ (by simp)))
theorem vx_BadStory_scene {d0 d1 d2 : D} : valD (xfK ["scene", "place", "word"] [d0, d1, d2]) (.inr "scene") = some d0 := by rfl
theorem vx_BadStory_place {d0 d1 d2 : D} : valD (xfK ["scene", "place", "word"] [d0, d1, d2]) (.inr "place") = some d1 := by rfl
theorem vx_BadStory_word {d0 d1 d2 : D} : valD (xfK ["scene", "place", "word"] [d0, d1, d2]) (.inr "word") = some d2 := by rfl
theorem lx_BadStep : xL.lookup ("BadStep" : Str) = some (["BadStep", "TaleError"] : List Str) := by decide +kernel
theorem ht_10 : hit xL "BadStep" "TaleError" = true := by decide +kernel
theorem ht_11 : hit xL "BadStep" "BadStory" = false := by decide +kernel
theorem ht_12 : hit xL "BadStep" "BadStep" = true := by decide +kernel
theorem ht_13 : hit xL "BadStep" "NoSuch" = false := by decide +kernel
theorem ht_14 : hit xL "BadStep" "Taken" = false := by decide +kernel
abbrev s_cls_BadStep : Stmt := clsDef (topS 7) 0
theorem in_BadStep {P : Program} {w : World} {K : PySem.W.Frag} {mg : Str → Option Value} {base : Heap} {C f cda cc : Addr} {fd : FuncData} (IK : InK P K "BadStep.__init__" s_cls_BadStep C f fd cda cc) (T : OexC K C) (hsu : mg "super" = none) (h : ∀ f ∈ (["word"] : List Str), PySem.W.findIn K (.ref C) f = some none) : FnOk P w K mg base (L2.CX P w) 1 f fd ["self", "word"] (spI C ["word"]) :=
  init_ok IK T hsu (N := ["self", "word", "__class__"]) (NdefX.nscope_by (by decide +kernel)) rfl rfl rfl (fun A outer s H E => ⟨(pa_cons (pv 1) pa_nil), rfl, rfl, (pss_one (ps_ost (pv 0) (pv 1))), rfl, rfl⟩) (rd1 T (h _ (by simp)))
theorem vx_BadStep_word {d0 : D} : valD (xfK ["word"] [d0]) (.inr "word") = some d0 := by rfl
theorem lx_NoSuch : xL.lookup ("NoSuch" : Str) = some (["NoSuch", "TaleError"] : List Str) := by decide +kernel
theorem ht_15 : hit xL "NoSuch" "TaleError" = true := by decide +kernel
theorem ht_16 : hit xL "NoSuch" "BadStory" = false := by decide +kernel
theorem ht_17 : hit xL "NoSuch" "BadStep" = false := by decide +kernel
theorem ht_18 : hit xL "NoSuch" "NoSuch" = true := by decide +kernel
theorem ht_19 : hit xL "NoSuch" "Taken" = false := by decide +kernel
abbrev s_cls_NoSuch : Stmt := clsDef (topS 8) 0
theorem in_NoSuch {P : Program} {w : World} {K : PySem.W.Frag} {mg : Str → Option Value} {base : Heap} {C f cda cc : Addr} {fd : FuncData} (IK : InK P K "NoSuch.__init__" s_cls_NoSuch C f fd cda cc) (T : OexC K C) (hsu : mg "super" = none) (h : ∀ f ∈ (["word", "name"] : List Str), PySem.W.findIn K (.ref C) f = some none) : FnOk P w K mg base (L2.CX P w) 1 f fd ["self", "word", "name"] (spI C ["word", "name"]) :=
  init_ok IK T hsu (N := ["self", "word", "name", "__class__"]) (NdefX.nscope_by (by decide +kernel)) rfl rfl rfl (fun A outer s H E => ⟨(pa_cons (pv 1) (pa_cons (pv 2) pa_nil)), rfl, rfl, (pss_cons (ps_ost (pv 0) (pv 1)) (pss_one (ps_ost (pv 0) (pv 2)))), rfl, rfl⟩) (rd2 T (h _ (by simp)) (h _ (by simp)))
theorem vx_NoSuch_word {d0 d1 : D} : valD (xfK ["word", "name"] [d0, d1]) (.inr "word") = some d0 := by rfl
theorem vx_NoSuch_name {d0 d1 : D} : valD (xfK ["word", "name"] [d0, d1]) (.inr "name") = some d1 := by rfl
theorem lx_Taken : xL.lookup ("Taken" : Str) = some (["Taken", "TaleError"] : List Str) := by decide +kernel
theorem ht_20 : hit xL "Taken" "TaleError" = true := by decide +kernel
theorem ht_21 : hit xL "Taken" "BadStory" = false := by decide +kernel
theorem ht_22 : hit xL "Taken" "BadStep" = false := by decide +kernel
theorem ht_23 : hit xL "Taken" "NoSuch" = false := by decide +kernel
theorem ht_24 : hit xL "Taken" "Taken" = true := by decide +kernel
abbrev s_cls_Taken : Stmt := clsDef (topS 9) 0
theorem in_Taken {P : Program} {w : World} {K : PySem.W.Frag} {mg : Str → Option Value} {base : Heap} {C f cda cc : Addr} {fd : FuncData} (IK : InK P K "Taken.__init__" s_cls_Taken C f fd cda cc) (T : OexC K C) (hsu : mg "super" = none) (h : ∀ f ∈ (["name"] : List Str), PySem.W.findIn K (.ref C) f = some none) : FnOk P w K mg base (L2.CX P w) 1 f fd ["self", "name"] (spI C ["name"]) :=
  init_ok IK T hsu (N := ["self", "name", "__class__"]) (NdefX.nscope_by (by decide +kernel)) rfl rfl rfl (fun A outer s H E => ⟨(pa_cons (pv 1) pa_nil), rfl, rfl, (pss_one (ps_ost (pv 0) (pv 1))), rfl, rfl⟩) (rd1 T (h _ (by simp)))
theorem vx_Taken_name {d0 : D} : valD (xfK ["name"] [d0]) (.inr "name") = some d0 := by rfl
abbrev N_conditions_within : List Str := ["condition"]
def b_conditions_within_1 : WS :=
  (wIf (wB (wBin (wIn false) (wVB0 0 wIx (wC (.int 0))) (wTup (wCons (wC (.str "and")) (wCons (wC (.str "or")) wNil))))) (wRet (wVB0 0 wIx (wC (.int 1)))) wNext)
def b_conditions_within_2 : WS :=
  (wRet (wIfE (wB (wBin wEq (wVB0 0 wIx (wC (.int 0))) (wC (.str "not")))) (wTup (wCons (wVB0 0 wIx (wC (.int 1))) wNil)) (wTup wNil)))
def t_conditions_within_2 : WS := (b_conditions_within_2)
theorem t_conditions_within_2_e {Γ : Nv} {m : M} : t_conditions_within_2 Γ m = (b_conditions_within_2) Γ m := by rw [t_conditions_within_2]
def b_conditions_within : WS :=
  (wSeq (b_conditions_within_1) (t_conditions_within_2))

abbrev N_condition_parts : List Str := ["condition", "found", "waiting", "part"]
def b_condition_parts_1 (f_conditions_within : WF) : WS :=
  (wSeq (wSet 3 (wPop 2))
  (wSeq (wDrop (wAppend 1 (wVar 3)))
  (wDrop (wExt 2 (wFn 1 f_conditions_within (wCons (wVar 3) wNil))))))
def b_condition_parts_2 (f_conditions_within : WF) : WS :=
  (wPar 1 2 (wLst wNil) (wLst (wCons (wVar 0) wNil)))
def b_condition_parts_3 (f_conditions_within : WF) : WS :=
  (wWhile (wB (wBin wGt (wLenV 2) (wC (.int 0)))) (b_condition_parts_1 f_conditions_within))
def t_condition_parts_3 (f_conditions_within : WF) : WS := (wRet (wMov 1))
theorem t_condition_parts_3_e {f_conditions_within : WF} {Γ : Nv} {m : M} : t_condition_parts_3 f_conditions_within Γ m = (wRet (wMov 1)) Γ m := by rw [t_condition_parts_3]
def t_condition_parts_2 (f_conditions_within : WF) : WS := wSeq (b_condition_parts_3 f_conditions_within) (t_condition_parts_3 f_conditions_within)
theorem t_condition_parts_2_e {f_conditions_within : WF} {Γ : Nv} {m : M} : t_condition_parts_2 f_conditions_within Γ m = (b_condition_parts_3 f_conditions_within) Γ { nx := fun Γ' => t_condition_parts_3 f_conditions_within Γ' m, rt := m.rt, xp := m.xp, bk := m.bk, ct := m.ct } := by rw [t_condition_parts_2, wSeq_e]
def b_condition_parts (f_conditions_within : WF) : WS :=
  (wSeq (b_condition_parts_2 f_conditions_within) (t_condition_parts_2 f_conditions_within))

abbrev N_most_asked : List Str := ["condition", ".0", "part"]
def b_most_asked_1 (f_condition_parts : WF) : WS :=
  (wRet (wCB wMaxL (wCons (wBin wAdd (wLst (wCons (wC (.int 0)) wNil)) (wLc (wIter (wFn 1 f_condition_parts (wCons (wVar 0) wNil))) (wN 2) (wB (wBin wEq (wVB0 2 wIx (wC (.int 0))) (wC (.str "gold")))) (wVB0 2 wIx (wC (.int 1))) [1, 2])) wNil)))
def b_most_asked (f_condition_parts : WF) : WS :=
  (b_most_asked_1 f_condition_parts)

abbrev N_story_marks : List Str := ["story", ".0", "name", "first"]
def b_story_marks_1 : WS :=
  (wRet (wCB wTuple (wCons (wLc (wIter (wVB0 0 wIx (wC (.int 0)))) (wGtup 2 (wGcons (wN 2) (wGcons (wN 3) wGnil))) wYes (wVar 2) [1, 2, 3]) wNil)))
def b_story_marks : WS :=
  (b_story_marks_1)

abbrev N_story_scenes : List Str := ["story", ".0", "name", "lines", "choices"]
def b_story_scenes_1 : WS :=
  (wRet (wCB wTuple (wCons (wLc (wIter (wVB0 0 wIx (wC (.int 3)))) (wGtup 3 (wGcons (wN 2) (wGcons (wN 3) (wGcons (wN 4) wGnil)))) wYes (wVar 2) [1, 2, 3, 4]) wNil)))
def b_story_scenes : WS :=
  (b_story_scenes_1)

abbrev N_scene_of : List Str := ["story", "scene", "other"]
def b_scene_of_1 : WS :=
  (wIf (wB (wBin wEq (wVB0 2 wIx (wC (.int 0))) (wVar 1))) (wRet (wMov 2)) wNext)
def b_scene_of_2 : WS :=
  (wForS (wIter (wVB0 0 wIx (wC (.int 3)))) (wN 2) (b_scene_of_1))
def b_scene_of_3 : WS :=
  (wRaise "NoSuch" ["word", "name"] (wCons (wC (.str "scene")) (wCons (wVar 1) wNil)))
def t_scene_of_2 : WS := (b_scene_of_3)
theorem t_scene_of_2_e {Γ : Nv} {m : M} : t_scene_of_2 Γ m = (b_scene_of_3) Γ m := by rw [t_scene_of_2]
def b_scene_of : WS :=
  (wSeq (b_scene_of_2) (t_scene_of_2))

abbrev N_scene_lines : List Str := ["story", "scene"]
def b_scene_lines_1 (f_scene_of : WF) : WS :=
  (wRet (wBin wIx (wFn 2 f_scene_of (wCons (wVar 0) (wCons (wVar 1) wNil))) (wC (.int 1))))
def b_scene_lines (f_scene_of : WF) : WS :=
  (b_scene_lines_1 f_scene_of)

abbrev N_scene_choices : List Str := ["story", "scene"]
def b_scene_choices_1 (f_scene_of : WF) : WS :=
  (wRet (wBin wIx (wFn 2 f_scene_of (wCons (wVar 0) (wCons (wVar 1) wNil))) (wC (.int 2))))
def b_scene_choices (f_scene_of : WF) : WS :=
  (b_scene_choices_1 f_scene_of)

abbrev N_most_number : List Str := ["story", "found", "name", "lines", "choices", "choice", ".0", "saying", "condition"]
def b_most_number_1 (f_most_asked : WF) : WS :=
  (wDrop (wExt 1 (wLst (wCons (wFn 1 f_most_asked (wCons (wVB0 5 wIx (wC (.int 1))) wNil)) (wCons (wCB wAbs (wCons (wVB0 5 wIx (wC (.int 3))) wNil)) wNil)))))
def b_most_number_2 (f_most_asked : WF) : WS :=
  (wSeq (wDrop (wExt 1 (wLc (wIter (wVar 3)) (wGtup 2 (wGcons (wN 7) (wGcons (wN 8) wGnil))) wYes (wFn 1 f_most_asked (wCons (wVar 8) wNil)) [6, 7, 8])))
  (wForS (wIter (wVar 4)) (wN 5) (b_most_number_1 f_most_asked)))
def b_most_number_3 (f_most_asked : WF) : WS :=
  (wSet 1 (wLst (wCons (wC (.int 0)) wNil)))
def b_most_number_4 (f_most_asked : WF) : WS :=
  (wForS (wIter (wVB0 0 wIx (wC (.int 3)))) (wGtup 3 (wGcons (wN 2) (wGcons (wN 3) (wGcons (wN 4) wGnil)))) (b_most_number_2 f_most_asked))
def b_most_number_5 (f_most_asked : WF) : WS :=
  (wRet (wCB wMaxL (wCons (wVar 1) wNil)))
def t_most_number_3 (f_most_asked : WF) : WS := (b_most_number_5 f_most_asked)
theorem t_most_number_3_e {f_most_asked : WF} {Γ : Nv} {m : M} : t_most_number_3 f_most_asked Γ m = (b_most_number_5 f_most_asked) Γ m := by rw [t_most_number_3]
def t_most_number_2 (f_most_asked : WF) : WS := wSeq (b_most_number_4 f_most_asked) (t_most_number_3 f_most_asked)
theorem t_most_number_2_e {f_most_asked : WF} {Γ : Nv} {m : M} : t_most_number_2 f_most_asked Γ m = (b_most_number_4 f_most_asked) Γ { nx := fun Γ' => t_most_number_3 f_most_asked Γ' m, rt := m.rt, xp := m.xp, bk := m.bk, ct := m.ct } := by rw [t_most_number_2, wSeq_e]
def b_most_number (f_most_asked : WF) : WS :=
  (wSeq (b_most_number_3 f_most_asked) (t_most_number_2 f_most_asked))

abbrev N_u_law_chest : List Str := ["script", "coins", "moth", "cell", "rest", "lap"]
def b_u_law_chest_1 : WS :=
  (wSeq (wIf (wOr (wB (wBin wEq (wVar 5) (wC (.int 0)))) (wB (wBin wGt (wVar 4) (wC (.int 0))))) (wDrop (wAppend 1 (wBin wMod (wCB wInt (wCons (wVar 4) wNil)) (wC (.int 9901))))) wNext)
  (wSet 4 (wBin wDiv (wVar 4) (wC (.int 9901)))))
def b_u_law_chest_2 : WS :=
  (wSeq (wSet 4 (wBin wMod (wCB wAbs (wCons (wCB wInt (wCons (wVar 3) wNil)) wNil)) (wBin wShl (wC (.int 1)) (wC (.int 1020)))))
  (wSeq (wSet 2 (wBin wMod (wCB wInt (wCons (wBin wAdd (wBin wAdd (wBin wMul (wVar 2) (wC (.int 30269))) (wBin wMod (wVar 4) (wC (.int 1000187)))) (wBin wMul (wC (.int 31)) (wCB wInt (wCons (wBin wLt (wVar 3) (wC (.int 0))) wNil)))) wNil)) (wC (.int 2147483477))))
  (wForS (wRng1 (wCons (wC (.int 77)) wNil)) (wN 5) (b_u_law_chest_1))))
def b_u_law_chest_3 : WS :=
  (wPar 1 2 (wLst wNil) (wC (.int 58211)))
def b_u_law_chest_4 : WS :=
  (wForS (wIter (wSliceV 0 wNoP (wPt (wC (.int 40))))) (wN 3) (b_u_law_chest_2))
def b_u_law_chest_5 : WS :=
  (wRet (wLst (wCons (wVar 1) (wCons (wC (.int 0)) (wCons (wVar 2) (wCons (wVar 2) wNil))))))
def t_u_law_chest_3 : WS := (b_u_law_chest_5)
theorem t_u_law_chest_3_e {Γ : Nv} {m : M} : t_u_law_chest_3 Γ m = (b_u_law_chest_5) Γ m := by rw [t_u_law_chest_3]
def t_u_law_chest_2 : WS := wSeq (b_u_law_chest_4) (t_u_law_chest_3)
theorem t_u_law_chest_2_e {Γ : Nv} {m : M} : t_u_law_chest_2 Γ m = (b_u_law_chest_4) Γ { nx := fun Γ' => t_u_law_chest_3 Γ' m, rt := m.rt, xp := m.xp, bk := m.bk, ct := m.ct } := by rw [t_u_law_chest_2, wSeq_e]
def b_u_law_chest : WS :=
  (wSeq (b_u_law_chest_3) (t_u_law_chest_2))

abbrev N_u_law_draw : List Str := ["chest", "many", "place", "habit"]
def b_u_law_draw_1 : WS :=
  (wBSet 0 (wC (.int 1)) (wBin wAdd (wBIx 0 (wC (.int 1))) (wC (.int 1))))
def b_u_law_draw_2 : WS :=
  (wSet 3 (wBin wMod (wCB wInt (wCons (wBin wAdd (wBin wDiv (wBIx 0 (wC (.int 3))) (wC (.int 21))) (wBin wMul (wVar 2) (wC (.int 11)))) wNil)) (wC (.int 35))))
def b_u_law_draw_3 : WS :=
  (wIf (wB (wBin (wIn false) (wVar 3) (wTup (wCons (wC (.int 6)) (wCons (wC (.int 20)) wNil))))) (wRet (wC (.int 0))) wNext)
def b_u_law_draw_4 : WS :=
  (wIf (wB (wBin wEq (wVar 3) (wC (.int 13)))) (wRet (wBin wSub (wVar 1) (wC (.int 1)))) wNext)
def b_u_law_draw_5 : WS :=
  (wIf (wB (wBin wEq (wVar 3) (wC (.int 28)))) (wRet (wBin wMod (wCB wInt (wCons (wBin wDiv (wBIx 0 (wC (.int 3))) (wC (.int 22))) wNil)) (wVar 1))) wNext)
def b_u_law_draw_6 : WS :=
  (wIf (wB (wBin wLe (wBIx 0 (wC (.int 1))) (wCB wLen (wCons (wBIx 0 (wC (.int 0))) wNil)))) (wRet (wBin wMod (wCB wInt (wCons (wBin wIx (wBIx 0 (wC (.int 0))) (wBin wSub (wBIx 0 (wC (.int 1))) (wC (.int 1)))) wNil)) (wVar 1))) wNext)
def b_u_law_draw_7 : WS :=
  (wBSet 0 (wC (.int 2)) (wBin wMod (wCB wInt (wCons (wBin wAdd (wBin wAdd (wBin wMul (wBIx 0 (wC (.int 2))) (wC (.int 16807))) (wBin wMul (wBIx 0 (wC (.int 1))) (wC (.int 43)))) (wC (.int 23))) wNil)) (wC (.int 2147483477))))
def b_u_law_draw_8 : WS :=
  (wRet (wBin wMod (wCB wInt (wCons (wBin wDiv (wBIx 0 (wC (.int 2))) (wC (.int 53))) wNil)) (wVar 1)))
def t_u_law_draw_8 : WS := (b_u_law_draw_8)
theorem t_u_law_draw_8_e {Γ : Nv} {m : M} : t_u_law_draw_8 Γ m = (b_u_law_draw_8) Γ m := by rw [t_u_law_draw_8]
def t_u_law_draw_7 : WS := wSeq (b_u_law_draw_7) (t_u_law_draw_8)
theorem t_u_law_draw_7_e {Γ : Nv} {m : M} : t_u_law_draw_7 Γ m = (b_u_law_draw_7) Γ { nx := fun Γ' => t_u_law_draw_8 Γ' m, rt := m.rt, xp := m.xp, bk := m.bk, ct := m.ct } := by rw [t_u_law_draw_7, wSeq_e]
def t_u_law_draw_6 : WS := wSeq (b_u_law_draw_6) (t_u_law_draw_7)
theorem t_u_law_draw_6_e {Γ : Nv} {m : M} : t_u_law_draw_6 Γ m = (b_u_law_draw_6) Γ { nx := fun Γ' => t_u_law_draw_7 Γ' m, rt := m.rt, xp := m.xp, bk := m.bk, ct := m.ct } := by rw [t_u_law_draw_6, wSeq_e]
def t_u_law_draw_5 : WS := wSeq (b_u_law_draw_5) (t_u_law_draw_6)
theorem t_u_law_draw_5_e {Γ : Nv} {m : M} : t_u_law_draw_5 Γ m = (b_u_law_draw_5) Γ { nx := fun Γ' => t_u_law_draw_6 Γ' m, rt := m.rt, xp := m.xp, bk := m.bk, ct := m.ct } := by rw [t_u_law_draw_5, wSeq_e]
def t_u_law_draw_4 : WS := wSeq (b_u_law_draw_4) (t_u_law_draw_5)
theorem t_u_law_draw_4_e {Γ : Nv} {m : M} : t_u_law_draw_4 Γ m = (b_u_law_draw_4) Γ { nx := fun Γ' => t_u_law_draw_5 Γ' m, rt := m.rt, xp := m.xp, bk := m.bk, ct := m.ct } := by rw [t_u_law_draw_4, wSeq_e]
def t_u_law_draw_3 : WS := wSeq (b_u_law_draw_3) (t_u_law_draw_4)
theorem t_u_law_draw_3_e {Γ : Nv} {m : M} : t_u_law_draw_3 Γ m = (b_u_law_draw_3) Γ { nx := fun Γ' => t_u_law_draw_4 Γ' m, rt := m.rt, xp := m.xp, bk := m.bk, ct := m.ct } := by rw [t_u_law_draw_3, wSeq_e]
def t_u_law_draw_2 : WS := wSeq (b_u_law_draw_2) (t_u_law_draw_3)
theorem t_u_law_draw_2_e {Γ : Nv} {m : M} : t_u_law_draw_2 Γ m = (b_u_law_draw_2) Γ { nx := fun Γ' => t_u_law_draw_3 Γ' m, rt := m.rt, xp := m.xp, bk := m.bk, ct := m.ct } := by rw [t_u_law_draw_2, wSeq_e]
def b_u_law_draw : WS :=
  (wSeq (b_u_law_draw_1) (t_u_law_draw_2))

abbrev N_u_law_names : List Str := ["chest", "many", "place", "stems", "told", "stem", "at", "name"]
def b_u_law_names_1 (f_u_law_draw : WF) : WS :=
  (wSeq (wSet 7 (wBin wIx (wTup (wCons (wVar 5) (wCons (wBin wAdd (wVar 5) (wC (.str "a"))) (wCons (wBin wAdd (wVar 5) (wC (.str "0"))) (wCons (wBin wAdd (wC (.str "z")) (wSliceV 5 wNoP (wPt (wC (.int 6))))) (wCons (wC (.str "b")) (wCons (wBin wAdd (wSliceV 5 wNoP (wPt (wC (.int 1)))) (wC (.str "zz9"))) wNil))))))) (wVar 6)))
  (wDrop (wAppend 4 (wVar 7))))
def b_u_law_names_2 (f_u_law_draw : WF) : WS :=
  (wSet 3 (wTup (wCons (wC (.str "hall")) (wCons (wC (.str "h")) (wCons (wC (.str "hal")) (wCons (wC (.str "hallway")) (wCons (wC (.str "k9")) (wCons (wC (.str "pit")) wNil))))))))
def b_u_law_names_3 (f_u_law_draw : WF) : WS :=
  (wPar 4 5 (wLst wNil) (wVB0 3 wIx (wFn 3 f_u_law_draw (wCons (wVar 0) (wCons (wC (.int 6)) (wCons (wVar 2) wNil))))))
def b_u_law_names_4 (f_u_law_draw : WF) : WS :=
  (wForS (wRng1 (wCons (wVar 1) wNil)) (wN 6) (b_u_law_names_1 f_u_law_draw))
def b_u_law_names_5 (f_u_law_draw : WF) : WS :=
  (wRet (wCB wSorted (wCons (wVar 4) wNil)))
def t_u_law_names_4 (f_u_law_draw : WF) : WS := (b_u_law_names_5 f_u_law_draw)
theorem t_u_law_names_4_e {f_u_law_draw : WF} {Γ : Nv} {m : M} : t_u_law_names_4 f_u_law_draw Γ m = (b_u_law_names_5 f_u_law_draw) Γ m := by rw [t_u_law_names_4]
def t_u_law_names_3 (f_u_law_draw : WF) : WS := wSeq (b_u_law_names_4 f_u_law_draw) (t_u_law_names_4 f_u_law_draw)
theorem t_u_law_names_3_e {f_u_law_draw : WF} {Γ : Nv} {m : M} : t_u_law_names_3 f_u_law_draw Γ m = (b_u_law_names_4 f_u_law_draw) Γ { nx := fun Γ' => t_u_law_names_4 f_u_law_draw Γ' m, rt := m.rt, xp := m.xp, bk := m.bk, ct := m.ct } := by rw [t_u_law_names_3, wSeq_e]
def t_u_law_names_2 (f_u_law_draw : WF) : WS := wSeq (b_u_law_names_3 f_u_law_draw) (t_u_law_names_3 f_u_law_draw)
theorem t_u_law_names_2_e {f_u_law_draw : WF} {Γ : Nv} {m : M} : t_u_law_names_2 f_u_law_draw Γ m = (b_u_law_names_3 f_u_law_draw) Γ { nx := fun Γ' => t_u_law_names_3 f_u_law_draw Γ' m, rt := m.rt, xp := m.xp, bk := m.bk, ct := m.ct } := by rw [t_u_law_names_2, wSeq_e]
def b_u_law_names (f_u_law_draw : WF) : WS :=
  (wSeq (b_u_law_names_2 f_u_law_draw) (t_u_law_names_2 f_u_law_draw))

abbrev N_u_law_saying : List Str := ["chest", "at", "words"]
def b_u_law_saying_1 : WS :=
  (wSet 2 (wTup (wCons (wC (.str "go")) (wCons (wC (.str "a dark hall")) (wCons (wC (.str "9")) (wCons (wC (.str "take the lamp again and again")) (wCons (wC (.str "x y")) (wCons (wC (.str "dig")) wNil))))))))
def b_u_law_saying_2 : WS :=
  (wRet (wBin wAdd (wVB0 2 wIx (wBin wMod (wVar 1) (wC (.int 6)))) (wIfE (wB (wBin wLt (wVar 1) (wC (.int 6)))) (wC (.str "")) (wC (.str "7")))))
def t_u_law_saying_2 : WS := (b_u_law_saying_2)
theorem t_u_law_saying_2_e {Γ : Nv} {m : M} : t_u_law_saying_2 Γ m = (b_u_law_saying_2) Γ m := by rw [t_u_law_saying_2]
def b_u_law_saying : WS :=
  (wSeq (b_u_law_saying_1) (t_u_law_saying_2))

abbrev N_u_law_condition : List Str := ["chest", "marks", "most", "parts", "lap", "way", "one", "at"]
def b_u_law_condition_1 (f_u_law_draw : WF) : WS :=
  (wSeq (wSet 5 (wFn 3 f_u_law_draw (wCons (wVar 0) (wCons (wC (.int 3)) (wCons (wC (.int 2)) wNil)))))
  (wSeq (wSet 6 (wTup (wCons (wC (.str "gold")) (wCons (wFn 3 f_u_law_draw (wCons (wVar 0) (wCons (wBin wAdd (wVar 2) (wC (.int 1))) (wCons (wC (.int 3)) wNil)))) wNil))))
  (wSeq (wIf (wAnd (wB (wBin wEq (wVar 5) (wC (.int 0)))) (wB (wBin wGt (wLenV 1) (wC (.int 0))))) (wSet 6 (wTup (wCons (wC (.str "has")) (wCons (wVB0 1 wIx (wFn 3 f_u_law_draw (wCons (wVar 0) (wCons (wLenV 1) (wCons (wC (.int 4)) wNil))))) wNil)))) (wIf (wB (wBin wEq (wVar 5) (wC (.int 1)))) (wSet 6 (wTup (wCons (wC (.str "always")) wNil))) wNext))
  (wDrop (wAppend 3 (wVar 6))))))
def b_u_law_condition_2 (f_u_law_draw : WF) : WS :=
  (wForS (wRng1 (wCons (wBin wIx (wTup (wCons (wC (.int 1)) (wCons (wC (.int 1)) (wCons (wC (.int 2)) (wCons (wC (.int 3)) (wCons (wC (.int 4)) wNil)))))) (wFn 3 f_u_law_draw (wCons (wVar 0) (wCons (wC (.int 5)) (wCons (wC (.int 1)) wNil))))) wNil)) (wN 4) (b_u_law_condition_1 f_u_law_draw))
def b_u_law_condition_3 (f_u_law_draw : WF) : WS :=
  (wIf (wB (wBin wLt (wLenV 3) (wC (.int 4)))) (wSeq (wSet 7 (wFn 3 f_u_law_draw (wCons (wVar 0) (wCons (wLenV 3) (wCons (wC (.int 5)) wNil)))))
  (wSetIx 3 (wVar 7) (wTup (wCons (wC (.str "not")) (wCons (wVB0 3 wIx (wVar 7)) wNil))))) wNext)
def b_u_law_condition_4 (f_u_law_draw : WF) : WS :=
  (wRet (wIfE (wB (wBin wEq (wLenV 3) (wC (.int 1)))) (wVB0 3 wIx (wC (.int 0))) (wTup (wCons (wBin wIx (wTup (wCons (wC (.str "and")) (wCons (wC (.str "or")) wNil))) (wFn 3 f_u_law_draw (wCons (wVar 0) (wCons (wC (.int 2)) (wCons (wC (.int 6)) wNil))))) (wCons (wCB wTuple (wCons (wVar 3) wNil)) wNil)))))
def t_u_law_condition_4 (f_u_law_draw : WF) : WS := (b_u_law_condition_4 f_u_law_draw)
theorem t_u_law_condition_4_e {f_u_law_draw : WF} {Γ : Nv} {m : M} : t_u_law_condition_4 f_u_law_draw Γ m = (b_u_law_condition_4 f_u_law_draw) Γ m := by rw [t_u_law_condition_4]
def t_u_law_condition_3 (f_u_law_draw : WF) : WS := wSeq (b_u_law_condition_3 f_u_law_draw) (t_u_law_condition_4 f_u_law_draw)
theorem t_u_law_condition_3_e {f_u_law_draw : WF} {Γ : Nv} {m : M} : t_u_law_condition_3 f_u_law_draw Γ m = (b_u_law_condition_3 f_u_law_draw) Γ { nx := fun Γ' => t_u_law_condition_4 f_u_law_draw Γ' m, rt := m.rt, xp := m.xp, bk := m.bk, ct := m.ct } := by rw [t_u_law_condition_3, wSeq_e]
def t_u_law_condition_2 (f_u_law_draw : WF) : WS := wSeq (b_u_law_condition_2 f_u_law_draw) (t_u_law_condition_3 f_u_law_draw)
theorem t_u_law_condition_2_e {f_u_law_draw : WF} {Γ : Nv} {m : M} : t_u_law_condition_2 f_u_law_draw Γ m = (b_u_law_condition_2 f_u_law_draw) Γ { nx := fun Γ' => t_u_law_condition_3 f_u_law_draw Γ' m, rt := m.rt, xp := m.xp, bk := m.bk, ct := m.ct } := by rw [t_u_law_condition_2, wSeq_e]
def b_u_law_condition (f_u_law_draw : WF) : WS :=
  (wSeq (wSet 3 (wLst wNil)) (t_u_law_condition_2 f_u_law_draw))

abbrev N_u_law_story : List Str := ["chest", "scenes", "marks", "most", "full", "names", "own", "live", "told", "name", "lines", "choices", "at", "shift", "effects", "lap", "firsts", ".0", "mark"]
def b_u_law_story_1 (f_u_law_condition : WF) (f_u_law_draw : WF) (f_u_law_names : WF) (f_u_law_saying : WF) : WS :=
  (wDrop (wAppend 10 (wTup (wCons (wFn 2 f_u_law_saying (wCons (wVar 0) (wCons (wFn 3 f_u_law_draw (wCons (wVar 0) (wCons (wC (.int 12)) (wCons (wC (.int 10)) wNil)))) wNil))) (wCons (wFn 3 f_u_law_condition (wCons (wVar 0) (wCons (wVar 6) (wCons (wVar 3) wNil)))) wNil)))))
def b_u_law_story_2 (f_u_law_condition : WF) (f_u_law_draw : WF) (f_u_law_names : WF) (f_u_law_saying : WF) : WS :=
  (wDrop (wAppend 14 (wTup (wCons (wVB0 6 wIx (wFn 3 f_u_law_draw (wCons (wVar 0) (wCons (wVar 7) (wCons (wC (.int 14)) wNil))))) (wCons (wBin wIx (wTup (wCons (wC (.str "turn")) (wCons (wC (.str "yes")) (wCons (wC (.str "no")) wNil)))) (wFn 3 f_u_law_draw (wCons (wVar 0) (wCons (wC (.int 3)) (wCons (wC (.int 15)) wNil))))) wNil)))))
def b_u_law_story_3 (f_u_law_condition : WF) (f_u_law_draw : WF) (f_u_law_names : WF) (f_u_law_saying : WF) : WS :=
  (wSeq (wSet 14 (wLst wNil))
  (wSeq (wForS (wRng1 (wCons (wIfE (wB (wBin wGt (wVar 7) (wC (.int 0)))) (wIfE (wB (wVar 4)) (wC (.int 3)) (wFn 3 f_u_law_draw (wCons (wVar 0) (wCons (wC (.int 4)) (wCons (wC (.int 13)) wNil))))) (wC (.int 0))) wNil)) (wN 15) (b_u_law_story_2 f_u_law_condition f_u_law_draw f_u_law_names f_u_law_saying))
  (wDrop (wAppend 11 (wTup (wCons (wFn 2 f_u_law_saying (wCons (wVar 0) (wCons (wBin wAdd (wVar 12) (wVar 13)) wNil))) (wCons (wFn 3 f_u_law_condition (wCons (wVar 0) (wCons (wVar 6) (wCons (wVar 3) wNil)))) (wCons (wCB wTuple (wCons (wVar 14) wNil)) (wCons (wBin wSub (wFn 3 f_u_law_draw (wCons (wVar 0) (wCons (wBin wAdd (wBin wMul (wC (.int 2)) (wVar 3)) (wC (.int 1))) (wCons (wC (.int 16)) wNil)))) (wVar 3)) (wCons (wVB0 5 wIx (wFn 3 f_u_law_draw (wCons (wVar 0) (wCons (wVar 1) (wCons (wC (.int 17)) wNil))))) wNil))))))))))
def b_u_law_story_4 (f_u_law_condition : WF) (f_u_law_draw : WF) (f_u_law_names : WF) (f_u_law_saying : WF) : WS :=
  (wSeq (wPar 10 11 (wLst wNil) (wLst wNil))
  (wSeq (wForS (wRng1 (wCons (wIfE (wB (wVar 4)) (wC (.int 4)) (wFn 3 f_u_law_draw (wCons (wVar 0) (wCons (wC (.int 5)) (wCons (wC (.int 9)) wNil))))) wNil)) (wN 12) (b_u_law_story_1 f_u_law_condition f_u_law_draw f_u_law_names f_u_law_saying))
  (wSeq (wSet 13 (wFn 3 f_u_law_draw (wCons (wVar 0) (wCons (wC (.int 6)) (wCons (wC (.int 11)) wNil)))))
  (wSeq (wForS (wRng1 (wCons (wIfE (wB (wVar 4)) (wC (.int 4)) (wFn 3 f_u_law_draw (wCons (wVar 0) (wCons (wC (.int 5)) (wCons (wC (.int 12)) wNil))))) wNil)) (wN 12) (b_u_law_story_3 f_u_law_condition f_u_law_draw f_u_law_names f_u_law_saying))
  (wDrop (wAppend 8 (wTup (wCons (wVar 9) (wCons (wCB wTuple (wCons (wVar 10) wNil)) (wCons (wCB wTuple (wCons (wVar 11) wNil)) wNil))))))))))
def b_u_law_story_5 (f_u_law_condition : WF) (f_u_law_draw : WF) (f_u_law_names : WF) (f_u_law_saying : WF) : WS :=
  (wPar 5 6 (wFn 3 f_u_law_names (wCons (wVar 0) (wCons (wVar 1) (wCons (wC (.int 7)) wNil)))) (wFn 3 f_u_law_names (wCons (wVar 0) (wCons (wVar 2) (wCons (wC (.int 8)) wNil)))))
def b_u_law_story_6 (f_u_law_condition : WF) (f_u_law_draw : WF) (f_u_law_names : WF) (f_u_law_saying : WF) : WS :=
  (wPar 7 8 (wCB wMin2 (wCons (wVar 2) (wCons (wBin wIx (wTup (wCons (wC (.int 4)) (wCons (wC (.int 4)) (wCons (wC (.int 3)) (wCons (wC (.int 2)) (wCons (wC (.int 2)) (wCons (wC (.int 2)) (wCons (wC (.int 1)) wNil)))))))) (wVar 1)) wNil))) (wLst wNil))
def b_u_law_story_7 (f_u_law_condition : WF) (f_u_law_draw : WF) (f_u_law_names : WF) (f_u_law_saying : WF) : WS :=
  (wForS (wIter (wVar 5)) (wN 9) (b_u_law_story_4 f_u_law_condition f_u_law_draw f_u_law_names f_u_law_saying))
def b_u_law_story_8 (f_u_law_condition : WF) (f_u_law_draw : WF) (f_u_law_names : WF) (f_u_law_saying : WF) : WS :=
  (wSet 16 (wCB wTuple (wCons (wLc (wIter (wVar 6)) (wN 18) wYes (wTup (wCons (wVar 18) (wCons (wBin wIx (wTup (wCons (wC (.str "no")) (wCons (wC (.str "yes")) wNil))) (wFn 3 f_u_law_draw (wCons (wVar 0) (wCons (wC (.int 2)) (wCons (wC (.int 18)) wNil))))) wNil))) [17, 18]) wNil)))
def b_u_law_story_9 (f_u_law_condition : WF) (f_u_law_draw : WF) (f_u_law_names : WF) (f_u_law_saying : WF) : WS :=
  (wRet (wTup (wCons (wVar 16) (wCons (wFn 3 f_u_law_draw (wCons (wVar 0) (wCons (wC (.int 10)) (wCons (wC (.int 19)) wNil)))) (wCons (wVB0 5 wIx (wFn 3 f_u_law_draw (wCons (wVar 0) (wCons (wVar 1) (wCons (wC (.int 20)) wNil))))) (wCons (wCB wTuple (wCons (wVar 8) wNil)) wNil))))))
def t_u_law_story_5 (f_u_law_condition : WF) (f_u_law_draw : WF) (f_u_law_names : WF) (f_u_law_saying : WF) : WS := (b_u_law_story_9 f_u_law_condition f_u_law_draw f_u_law_names f_u_law_saying)
theorem t_u_law_story_5_e {f_u_law_condition : WF} {f_u_law_draw : WF} {f_u_law_names : WF} {f_u_law_saying : WF} {Γ : Nv} {m : M} : t_u_law_story_5 f_u_law_condition f_u_law_draw f_u_law_names f_u_law_saying Γ m = (b_u_law_story_9 f_u_law_condition f_u_law_draw f_u_law_names f_u_law_saying) Γ m := by rw [t_u_law_story_5]
def t_u_law_story_4 (f_u_law_condition : WF) (f_u_law_draw : WF) (f_u_law_names : WF) (f_u_law_saying : WF) : WS := wSeq (b_u_law_story_8 f_u_law_condition f_u_law_draw f_u_law_names f_u_law_saying) (t_u_law_story_5 f_u_law_condition f_u_law_draw f_u_law_names f_u_law_saying)
theorem t_u_law_story_4_e {f_u_law_condition : WF} {f_u_law_draw : WF} {f_u_law_names : WF} {f_u_law_saying : WF} {Γ : Nv} {m : M} : t_u_law_story_4 f_u_law_condition f_u_law_draw f_u_law_names f_u_law_saying Γ m = (b_u_law_story_8 f_u_law_condition f_u_law_draw f_u_law_names f_u_law_saying) Γ { nx := fun Γ' => t_u_law_story_5 f_u_law_condition f_u_law_draw f_u_law_names f_u_law_saying Γ' m, rt := m.rt, xp := m.xp, bk := m.bk, ct := m.ct } := by rw [t_u_law_story_4, wSeq_e]
def t_u_law_story_3 (f_u_law_condition : WF) (f_u_law_draw : WF) (f_u_law_names : WF) (f_u_law_saying : WF) : WS := wSeq (b_u_law_story_7 f_u_law_condition f_u_law_draw f_u_law_names f_u_law_saying) (t_u_law_story_4 f_u_law_condition f_u_law_draw f_u_law_names f_u_law_saying)
theorem t_u_law_story_3_e {f_u_law_condition : WF} {f_u_law_draw : WF} {f_u_law_names : WF} {f_u_law_saying : WF} {Γ : Nv} {m : M} : t_u_law_story_3 f_u_law_condition f_u_law_draw f_u_law_names f_u_law_saying Γ m = (b_u_law_story_7 f_u_law_condition f_u_law_draw f_u_law_names f_u_law_saying) Γ { nx := fun Γ' => t_u_law_story_4 f_u_law_condition f_u_law_draw f_u_law_names f_u_law_saying Γ' m, rt := m.rt, xp := m.xp, bk := m.bk, ct := m.ct } := by rw [t_u_law_story_3, wSeq_e]
def t_u_law_story_2 (f_u_law_condition : WF) (f_u_law_draw : WF) (f_u_law_names : WF) (f_u_law_saying : WF) : WS := wSeq (b_u_law_story_6 f_u_law_condition f_u_law_draw f_u_law_names f_u_law_saying) (t_u_law_story_3 f_u_law_condition f_u_law_draw f_u_law_names f_u_law_saying)
theorem t_u_law_story_2_e {f_u_law_condition : WF} {f_u_law_draw : WF} {f_u_law_names : WF} {f_u_law_saying : WF} {Γ : Nv} {m : M} : t_u_law_story_2 f_u_law_condition f_u_law_draw f_u_law_names f_u_law_saying Γ m = (b_u_law_story_6 f_u_law_condition f_u_law_draw f_u_law_names f_u_law_saying) Γ { nx := fun Γ' => t_u_law_story_3 f_u_law_condition f_u_law_draw f_u_law_names f_u_law_saying Γ' m, rt := m.rt, xp := m.xp, bk := m.bk, ct := m.ct } := by rw [t_u_law_story_2, wSeq_e]
def b_u_law_story (f_u_law_condition : WF) (f_u_law_draw : WF) (f_u_law_names : WF) (f_u_law_saying : WF) : WS :=
  (wSeq (b_u_law_story_5 f_u_law_condition f_u_law_draw f_u_law_names f_u_law_saying) (t_u_law_story_2 f_u_law_condition f_u_law_draw f_u_law_names f_u_law_saying))

abbrev N_u_law_with : List Str := ["chest", "story", "number", "way", "marks", "asked", "line", "choice", "scene", ".0", "mark"]
def b_u_law_with_1 (f_u_law_draw : WF) : WS :=
  (wPar 3 4 (wFn 3 f_u_law_draw (wCons (wVar 0) (wCons (wC (.int 6)) (wCons (wC (.int 21)) wNil)))) (wLc (wIter (wVB0 1 wIx (wC (.int 0)))) (wN 10) wYes (wVB0 10 wIx (wC (.int 0))) [9, 10]))
def b_u_law_with_2 (f_u_law_draw : WF) : WS :=
  (wSet 5 (wTup (wCons (wC (.str "gold")) (wCons (wVar 2) wNil))))
def b_u_law_with_3 (f_u_law_draw : WF) : WS :=
  (wIf (wB (wBin wEq (wFn 3 f_u_law_draw (wCons (wVar 0) (wCons (wC (.int 2)) (wCons (wC (.int 22)) wNil)))) (wC (.int 0)))) (wSet 5 (wTup (wCons (wC (.str "and")) (wCons (wTup (wCons (wTup (wCons (wC (.str "always")) wNil)) (wCons (wTup (wCons (wC (.str "or")) (wCons (wTup (wCons (wTup (wCons (wC (.str "gold")) (wCons (wC (.int 0)) wNil))) (wCons (wTup (wCons (wC (.str "not")) (wCons (wVar 5) wNil))) wNil))) wNil))) wNil))) wNil)))) wNext)
def b_u_law_with_4 (f_u_law_draw : WF) : WS :=
  (wPar 6 7 (wTup (wCons (wTup (wCons (wC (.str "a line")) (wCons (wTup (wCons (wC (.str "always")) wNil)) wNil))) wNil)) (wTup (wCons (wC (.str "on")) (wCons (wTup (wCons (wC (.str "always")) wNil)) (wCons (wTup wNil) (wCons (wC (.int 0)) (wCons (wVB0 1 wIx (wC (.int 2))) wNil)))))))
def b_u_law_with_5 (f_u_law_draw : WF) : WS :=
  (wIf (wB (wBin wEq (wVar 3) (wC (.int 0)))) (wSet 6 (wTup (wCons (wTup (wCons (wC (.str "a line")) (wCons (wVar 5) wNil))) wNil))) (wIf (wB (wBin wEq (wVar 3) (wC (.int 1)))) (wSet 6 (wTup (wCons (wTup (wCons (wC (.str "first")) (wCons (wTup (wCons (wC (.str "always")) wNil)) wNil))) (wCons (wTup (wCons (wC (.str "last")) (wCons (wVar 5) wNil))) wNil)))) (wIf (wB (wBin wEq (wVar 3) (wC (.int 2)))) (wSet 7 (wTup (wCons (wC (.str "on")) (wCons (wVar 5) (wCons (wTup wNil) (wCons (wC (.int 0)) (wCons (wVB0 1 wIx (wC (.int 2))) wNil))))))) (wIf (wB (wBin wEq (wVar 3) (wC (.int 3)))) (wSet 7 (wTup (wCons (wC (.str "on")) (wCons (wTup (wCons (wC (.str "always")) wNil)) (wCons (wTup wNil) (wCons (wVar 2) (wCons (wVB0 1 wIx (wC (.int 2))) wNil))))))) (wSet 7 (wTup (wCons (wC (.str "on")) (wCons (wTup (wCons (wC (.str "not")) (wCons (wTup (wCons (wC (.str "always")) wNil)) wNil))) (wCons (wTup wNil) (wCons (wUn wNeg (wVar 2)) (wCons (wVB0 1 wIx (wC (.int 2))) wNil)))))))))))
def b_u_law_with_6 (f_u_law_draw : WF) : WS :=
  (wSet 8 (wTup (wCons (wC (.str "zzzz")) (wCons (wVar 6) (wCons (wTup (wCons (wTup (wCons (wC (.str "ahead")) (wCons (wTup (wCons (wC (.str "gold")) (wCons (wC (.int 0)) wNil))) (wCons (wTup wNil) (wCons (wC (.int 0)) (wCons (wVB0 1 wIx (wC (.int 2))) wNil)))))) (wCons (wVar 7) wNil))) wNil)))))
def b_u_law_with_7 (f_u_law_draw : WF) : WS :=
  (wRet (wTup (wCons (wVB0 1 wIx (wC (.int 0))) (wCons (wVB0 1 wIx (wC (.int 1))) (wCons (wVB0 1 wIx (wC (.int 2))) (wCons (wBin wAdd (wVB0 1 wIx (wC (.int 3))) (wTup (wCons (wVar 8) wNil))) wNil))))))
def t_u_law_with_7 (f_u_law_draw : WF) : WS := (b_u_law_with_7 f_u_law_draw)
theorem t_u_law_with_7_e {f_u_law_draw : WF} {Γ : Nv} {m : M} : t_u_law_with_7 f_u_law_draw Γ m = (b_u_law_with_7 f_u_law_draw) Γ m := by rw [t_u_law_with_7]
def t_u_law_with_6 (f_u_law_draw : WF) : WS := wSeq (b_u_law_with_6 f_u_law_draw) (t_u_law_with_7 f_u_law_draw)
theorem t_u_law_with_6_e {f_u_law_draw : WF} {Γ : Nv} {m : M} : t_u_law_with_6 f_u_law_draw Γ m = (b_u_law_with_6 f_u_law_draw) Γ { nx := fun Γ' => t_u_law_with_7 f_u_law_draw Γ' m, rt := m.rt, xp := m.xp, bk := m.bk, ct := m.ct } := by rw [t_u_law_with_6, wSeq_e]
def t_u_law_with_5 (f_u_law_draw : WF) : WS := wSeq (b_u_law_with_5 f_u_law_draw) (t_u_law_with_6 f_u_law_draw)
theorem t_u_law_with_5_e {f_u_law_draw : WF} {Γ : Nv} {m : M} : t_u_law_with_5 f_u_law_draw Γ m = (b_u_law_with_5 f_u_law_draw) Γ { nx := fun Γ' => t_u_law_with_6 f_u_law_draw Γ' m, rt := m.rt, xp := m.xp, bk := m.bk, ct := m.ct } := by rw [t_u_law_with_5, wSeq_e]
def t_u_law_with_4 (f_u_law_draw : WF) : WS := wSeq (b_u_law_with_4 f_u_law_draw) (t_u_law_with_5 f_u_law_draw)
theorem t_u_law_with_4_e {f_u_law_draw : WF} {Γ : Nv} {m : M} : t_u_law_with_4 f_u_law_draw Γ m = (b_u_law_with_4 f_u_law_draw) Γ { nx := fun Γ' => t_u_law_with_5 f_u_law_draw Γ' m, rt := m.rt, xp := m.xp, bk := m.bk, ct := m.ct } := by rw [t_u_law_with_4, wSeq_e]
def t_u_law_with_3 (f_u_law_draw : WF) : WS := wSeq (b_u_law_with_3 f_u_law_draw) (t_u_law_with_4 f_u_law_draw)
theorem t_u_law_with_3_e {f_u_law_draw : WF} {Γ : Nv} {m : M} : t_u_law_with_3 f_u_law_draw Γ m = (b_u_law_with_3 f_u_law_draw) Γ { nx := fun Γ' => t_u_law_with_4 f_u_law_draw Γ' m, rt := m.rt, xp := m.xp, bk := m.bk, ct := m.ct } := by rw [t_u_law_with_3, wSeq_e]
def t_u_law_with_2 (f_u_law_draw : WF) : WS := wSeq (b_u_law_with_2 f_u_law_draw) (t_u_law_with_3 f_u_law_draw)
theorem t_u_law_with_2_e {f_u_law_draw : WF} {Γ : Nv} {m : M} : t_u_law_with_2 f_u_law_draw Γ m = (b_u_law_with_2 f_u_law_draw) Γ { nx := fun Γ' => t_u_law_with_3 f_u_law_draw Γ' m, rt := m.rt, xp := m.xp, bk := m.bk, ct := m.ct } := by rw [t_u_law_with_2, wSeq_e]
def b_u_law_with (f_u_law_draw : WF) : WS :=
  (wSeq (b_u_law_with_1 f_u_law_draw) (t_u_law_with_2 f_u_law_draw))

abbrev N_u_law_most : List Str := ["story", "todo", "most", "scene", "one", ".0", "line", "choice"]
def b_u_law_most_1 : WS :=
  (wSeq (wDrop (wExt 1 (wLc (wIter (wVB0 3 wIx (wC (.int 1)))) (wN 6) wYes (wVB0 6 wIx (wC (.int 1))) [5, 6])))
  (wSeq (wDrop (wExt 1 (wLc (wIter (wVB0 3 wIx (wC (.int 2)))) (wN 7) wYes (wVB0 7 wIx (wC (.int 1))) [5, 7])))
  (wSet 2 (wCB wMaxL (wCons (wBin wAdd (wLst (wCons (wVar 2) wNil)) (wLc (wIter (wVB0 3 wIx (wC (.int 2)))) (wN 7) wYes (wCB wAbs (wCons (wVB0 7 wIx (wC (.int 3))) wNil)) [5, 7])) wNil)))))
def b_u_law_most_2 : WS :=
  (wSeq (wSet 4 (wPop 1))
  (wIf (wB (wBin wEq (wVB0 4 wIx (wC (.int 0))) (wC (.str "gold")))) (wSet 2 (wCB wMax2 (wCons (wVar 2) (wCons (wVB0 4 wIx (wC (.int 1))) wNil)))) (wIf (wB (wBin wEq (wVB0 4 wIx (wC (.int 0))) (wC (.str "not")))) (wDrop (wAppend 1 (wVB0 4 wIx (wC (.int 1))))) (wIf (wB (wBin (wIn false) (wVB0 4 wIx (wC (.int 0))) (wTup (wCons (wC (.str "and")) (wCons (wC (.str "or")) wNil))))) (wDrop (wExt 1 (wVB0 4 wIx (wC (.int 1))))) wNext))))
def b_u_law_most_3 : WS :=
  (wPar 1 2 (wLst wNil) (wC (.int 0)))
def b_u_law_most_4 : WS :=
  (wForS (wIter (wVB0 0 wIx (wC (.int 3)))) (wN 3) (b_u_law_most_1))
def b_u_law_most_5 : WS :=
  (wWhile (wB (wBin wGt (wLenV 1) (wC (.int 0)))) (b_u_law_most_2))
def t_u_law_most_4 : WS := (wRet (wMov 2))
theorem t_u_law_most_4_e {Γ : Nv} {m : M} : t_u_law_most_4 Γ m = (wRet (wMov 2)) Γ m := by rw [t_u_law_most_4]
def t_u_law_most_3 : WS := wSeq (b_u_law_most_5) (t_u_law_most_4)
theorem t_u_law_most_3_e {Γ : Nv} {m : M} : t_u_law_most_3 Γ m = (b_u_law_most_5) Γ { nx := fun Γ' => t_u_law_most_4 Γ' m, rt := m.rt, xp := m.xp, bk := m.bk, ct := m.ct } := by rw [t_u_law_most_3, wSeq_e]
def t_u_law_most_2 : WS := wSeq (b_u_law_most_4) (t_u_law_most_3)
theorem t_u_law_most_2_e {Γ : Nv} {m : M} : t_u_law_most_2 Γ m = (b_u_law_most_4) Γ { nx := fun Γ' => t_u_law_most_3 Γ' m, rt := m.rt, xp := m.xp, bk := m.bk, ct := m.ct } := by rw [t_u_law_most_2, wSeq_e]
def b_u_law_most : WS :=
  (wSeq (b_u_law_most_3) (t_u_law_most_2))

abbrev N_u_law_same : List Str := ["told", "due", "at"]
def b_u_law_same_1 (f_u_law_same : WF) : WS :=
  (wIf (wNot (wB (wFn 2 f_u_law_same (wCons (wVB0 0 wIx (wVar 2)) (wCons (wVB0 1 wIx (wVar 2)) wNil))))) (wRet (wC (.bl false))) wNext)
def b_u_law_same_2 (f_u_law_same : WF) : WS :=
  (wIf (wB (wBin wIsN (wVar 1) (wC .non))) (wRet (wBin wIsN (wVar 0) (wC .non))) wNext)
def b_u_law_same_3 (f_u_law_same : WF) : WS :=
  (wIf (wB (wCB wIsi (wCons (wVar 1) (wCons (wC (.raw (.ty "bool"))) wNil)))) (wRet (wAndV (wCB wIsi (wCons (wVar 0) (wCons (wC (.raw (.ty "bool"))) wNil))) (wBin wEq (wVar 0) (wVar 1)))) wNext)
def b_u_law_same_4 (f_u_law_same : WF) : WS :=
  (wIf (wB (wCB wIsi (wCons (wVar 1) (wCons (wC (.raw (.ty "int"))) wNil)))) (wRet (wAndV (wCB wIsi (wCons (wVar 0) (wCons (wC (.raw (.ty "int"))) wNil))) (wAndV (wNotV (wCB wIsi (wCons (wVar 0) (wCons (wC (.raw (.ty "bool"))) wNil)))) (wBin wEq (wVar 0) (wVar 1))))) wNext)
def b_u_law_same_5 (f_u_law_same : WF) : WS :=
  (wIf (wB (wCB wIsi (wCons (wVar 1) (wCons (wC (.raw (.ty "str"))) wNil)))) (wRet (wAndV (wCB wIsi (wCons (wVar 0) (wCons (wC (.raw (.ty "str"))) wNil))) (wBin wEq (wVar 0) (wVar 1)))) wNext)
def b_u_law_same_6 (f_u_law_same : WF) : WS :=
  (wIf (wB (wCB wIsi (wCons (wVar 1) (wCons (wC (.raw (.ty "tuple"))) wNil)))) (wIf (wOr (wNot (wB (wCB wIsi (wCons (wVar 0) (wCons (wC (.raw (.ty "tuple"))) wNil))))) (wB (wBin wNe (wLenV 0) (wLenV 1)))) (wRet (wC (.bl false))) wNext) (wIf (wOr (wNot (wB (wCB wIsi (wCons (wVar 1) (wCons (wC (.raw (.ty "list"))) wNil))))) (wOr (wNot (wB (wCB wIsi (wCons (wVar 0) (wCons (wC (.raw (.ty "list"))) wNil))))) (wB (wBin wNe (wLenV 0) (wLenV 1))))) (wRet (wC (.bl false))) wNext))
def b_u_law_same_7 (f_u_law_same : WF) : WS :=
  (wForS (wRng1 (wCons (wLenV 1) wNil)) (wN 2) (b_u_law_same_1 f_u_law_same))
def t_u_law_same_7 (f_u_law_same : WF) : WS := (wRet (wC (.bl true)))
theorem t_u_law_same_7_e {f_u_law_same : WF} {Γ : Nv} {m : M} : t_u_law_same_7 f_u_law_same Γ m = (wRet (wC (.bl true))) Γ m := by rw [t_u_law_same_7]
def t_u_law_same_6 (f_u_law_same : WF) : WS := wSeq (b_u_law_same_7 f_u_law_same) (t_u_law_same_7 f_u_law_same)
theorem t_u_law_same_6_e {f_u_law_same : WF} {Γ : Nv} {m : M} : t_u_law_same_6 f_u_law_same Γ m = (b_u_law_same_7 f_u_law_same) Γ { nx := fun Γ' => t_u_law_same_7 f_u_law_same Γ' m, rt := m.rt, xp := m.xp, bk := m.bk, ct := m.ct } := by rw [t_u_law_same_6, wSeq_e]
def t_u_law_same_5 (f_u_law_same : WF) : WS := wSeq (b_u_law_same_6 f_u_law_same) (t_u_law_same_6 f_u_law_same)
theorem t_u_law_same_5_e {f_u_law_same : WF} {Γ : Nv} {m : M} : t_u_law_same_5 f_u_law_same Γ m = (b_u_law_same_6 f_u_law_same) Γ { nx := fun Γ' => t_u_law_same_6 f_u_law_same Γ' m, rt := m.rt, xp := m.xp, bk := m.bk, ct := m.ct } := by rw [t_u_law_same_5, wSeq_e]
def t_u_law_same_4 (f_u_law_same : WF) : WS := wSeq (b_u_law_same_5 f_u_law_same) (t_u_law_same_5 f_u_law_same)
theorem t_u_law_same_4_e {f_u_law_same : WF} {Γ : Nv} {m : M} : t_u_law_same_4 f_u_law_same Γ m = (b_u_law_same_5 f_u_law_same) Γ { nx := fun Γ' => t_u_law_same_5 f_u_law_same Γ' m, rt := m.rt, xp := m.xp, bk := m.bk, ct := m.ct } := by rw [t_u_law_same_4, wSeq_e]
def t_u_law_same_3 (f_u_law_same : WF) : WS := wSeq (b_u_law_same_4 f_u_law_same) (t_u_law_same_4 f_u_law_same)
theorem t_u_law_same_3_e {f_u_law_same : WF} {Γ : Nv} {m : M} : t_u_law_same_3 f_u_law_same Γ m = (b_u_law_same_4 f_u_law_same) Γ { nx := fun Γ' => t_u_law_same_4 f_u_law_same Γ' m, rt := m.rt, xp := m.xp, bk := m.bk, ct := m.ct } := by rw [t_u_law_same_3, wSeq_e]
def t_u_law_same_2 (f_u_law_same : WF) : WS := wSeq (b_u_law_same_3 f_u_law_same) (t_u_law_same_3 f_u_law_same)
theorem t_u_law_same_2_e {f_u_law_same : WF} {Γ : Nv} {m : M} : t_u_law_same_2 f_u_law_same Γ m = (b_u_law_same_3 f_u_law_same) Γ { nx := fun Γ' => t_u_law_same_3 f_u_law_same Γ' m, rt := m.rt, xp := m.xp, bk := m.bk, ct := m.ct } := by rw [t_u_law_same_2, wSeq_e]
def b_u_law_same (f_u_law_same : WF) : WS :=
  (wSeq (b_u_law_same_2 f_u_law_same) (t_u_law_same_2 f_u_law_same))

abbrev N_u_law_ask : List Str := ["word", "story", "scene", "e"]
def b_u_law_ask_1 (f_scene_choices : WF) (f_scene_lines : WF) : WS :=
  (wTry xL (wSeq (wIf (wB (wBin wEq (wVar 0) (wC (.str "lines")))) (wRet (wTup (wCons (wC (.str "told")) (wCons (wFn 2 f_scene_lines (wCons (wVar 1) (wCons (wVar 2) wNil))) wNil)))) wNext)
  (wRet (wTup (wCons (wC (.str "told")) (wCons (wFn 2 f_scene_choices (wCons (wVar 1) (wCons (wVar 2) wNil))) wNil))))) [⟨"NoSuch", (some 3), fun e dd n => (wSeq (wIf (wOr (wB (wXis xL e dd n "BadStory" 3)) (wOr (wB (wXis xL e dd n "Taken" 3)) (wOr (wB (wXis xL e dd n "BadStep" 3)) (wNot (wB (wXiv e dd 3)))))) (wRet (wTup (wCons (wC (.str "odd")) (wCons (wC (.str "")) (wCons (wC (.str "")) wNil))))) wNext)
  (wRet (wTup (wCons (wC (.str "refused")) (wCons (wXf e dd "word" 3) (wCons (wXf e dd "name" 3) wNil))))))⟩])
def b_u_law_ask (f_scene_choices : WF) (f_scene_lines : WF) : WS :=
  (b_u_law_ask_1 f_scene_choices f_scene_lines)

abbrev N_u_law_looks : List Str := ["chest", "story", "names", "asks", "name", "first", "word", "told", "due", ".0", "scene", "mark"]
def b_u_law_looks_1 (f_u_law_ask : WF) (f_u_law_draw : WF) (f_u_law_most : WF) (f_u_law_same : WF) (f_most_number : WF) (f_story_marks : WF) (f_story_scenes : WF) : WS :=
  (wIf (wB (wBin wLe (wLenV 4) (wC (.int 8)))) (wDrop (wExt 3 (wLst (wCons (wTup (wCons (wC (.str "lines")) (wCons (wVar 4) wNil))) (wCons (wTup (wCons (wC (.str "choices")) (wCons (wVar 4) wNil))) wNil))))) wNext)
def b_u_law_looks_2 (f_u_law_ask : WF) (f_u_law_draw : WF) (f_u_law_most : WF) (f_u_law_same : WF) (f_most_number : WF) (f_story_marks : WF) (f_story_scenes : WF) : WS :=
  (wSeq (wIf (wB (wBin wEq (wVar 6) (wC (.str "marks")))) (wPar 7 8 (wFn 1 f_story_marks (wCons (wVar 1) wNil)) (wCB wTuple (wCons (wLc (wIter (wVB0 1 wIx (wC (.int 0)))) (wN 11) wYes (wVB0 11 wIx (wC (.int 0))) [9, 11]) wNil))) (wIf (wB (wBin wEq (wVar 6) (wC (.str "scenes")))) (wPar 7 8 (wFn 1 f_story_scenes (wCons (wVar 1) wNil)) (wCB wTuple (wCons (wVar 2) wNil))) (wIf (wB (wBin wEq (wVar 6) (wC (.str "most")))) (wPar 7 8 (wFn 1 f_most_number (wCons (wVar 1) wNil)) (wFn 1 f_u_law_most (wCons (wVar 1) wNil))) (wIf (wB (wBV 2 (wIn false) (wVar 4))) (wSeq (wSet 7 (wFn 3 f_u_law_ask (wCons (wVar 6) (wCons (wVar 1) (wCons (wVar 4) wNil)))))
  (wSet 8 (wTup (wCons (wC (.str "told")) (wCons (wBin wIx (wBin wIx (wVB0 1 wIx (wC (.int 3))) (wMeth "list" wIndex (wVar 2) (wCons (wVar 4) wNil))) (wIfE (wB (wBin wEq (wVar 6) (wC (.str "lines")))) (wC (.int 1)) (wC (.int 2)))) wNil))))) (wPar 7 8 (wFn 3 f_u_law_ask (wCons (wVar 6) (wCons (wVar 1) (wCons (wVar 4) wNil)))) (wTup (wCons (wC (.str "refused")) (wCons (wC (.str "scene")) (wCons (wVar 4) wNil)))))))))
  (wIf (wNot (wB (wFn 2 f_u_law_same (wCons (wVar 7) (wCons (wVar 8) wNil))))) (wRet (wC (.bl false))) wNext))
def b_u_law_looks_3 (f_u_law_ask : WF) (f_u_law_draw : WF) (f_u_law_most : WF) (f_u_law_same : WF) (f_most_number : WF) (f_story_marks : WF) (f_story_scenes : WF) : WS :=
  (wSet 2 (wLc (wIter (wVB0 1 wIx (wC (.int 3)))) (wN 10) wYes (wVB0 10 wIx (wC (.int 0))) [9, 10]))
def b_u_law_looks_4 (f_u_law_ask : WF) (f_u_law_draw : WF) (f_u_law_most : WF) (f_u_law_same : WF) (f_most_number : WF) (f_story_marks : WF) (f_story_scenes : WF) : WS :=
  (wSet 3 (wLst (wCons (wTup (wCons (wC (.str "marks")) (wCons (wC (.str "")) wNil))) (wCons (wTup (wCons (wC (.str "scenes")) (wCons (wC (.str "")) wNil))) (wCons (wTup (wCons (wC (.str "most")) (wCons (wC (.str "")) wNil))) wNil)))))
def b_u_law_looks_5 (f_u_law_ask : WF) (f_u_law_draw : WF) (f_u_law_most : WF) (f_u_law_same : WF) (f_most_number : WF) (f_story_marks : WF) (f_story_scenes : WF) : WS :=
  (wForS (wIter (wBin wAdd (wBin wAdd (wVar 2) (wLst (wCons (wC (.str "nowhere9")) (wCons (wBin wAdd (wVB0 2 wIx (wC (.int 0))) (wC (.str "x"))) (wCons (wSlice (wVB0 2 wIx (wUn wNeg (wC (.int 1)))) wNoP (wPt (wC (.int 1)))) (wCons (wC (.str "q")) (wCons (wC (.str "hal")) (wCons (wC (.str "zzzy")) wNil)))))))) (wLc (wIter (wVB0 1 wIx (wC (.int 0)))) (wN 11) wYes (wVB0 11 wIx (wC (.int 0))) [9, 11]))) (wN 4) (b_u_law_looks_1 f_u_law_ask f_u_law_draw f_u_law_most f_u_law_same f_most_number f_story_marks f_story_scenes))
def b_u_law_looks_6 (f_u_law_ask : WF) (f_u_law_draw : WF) (f_u_law_most : WF) (f_u_law_same : WF) (f_most_number : WF) (f_story_marks : WF) (f_story_scenes : WF) : WS :=
  (wSet 5 (wFn 3 f_u_law_draw (wCons (wVar 0) (wCons (wLenV 3) (wCons (wC (.int 23)) wNil)))))
def b_u_law_looks_7 (f_u_law_ask : WF) (f_u_law_draw : WF) (f_u_law_most : WF) (f_u_law_same : WF) (f_most_number : WF) (f_story_marks : WF) (f_story_scenes : WF) : WS :=
  (wForS (wIter (wSlice (wBin wAdd (wVar 3) (wVar 3)) (wPt (wVar 5)) (wPt (wBin wAdd (wVar 5) (wLenV 3))))) (wGtup 2 (wGcons (wN 6) (wGcons (wN 4) wGnil))) (b_u_law_looks_2 f_u_law_ask f_u_law_draw f_u_law_most f_u_law_same f_most_number f_story_marks f_story_scenes))
def t_u_law_looks_6 (f_u_law_ask : WF) (f_u_law_draw : WF) (f_u_law_most : WF) (f_u_law_same : WF) (f_most_number : WF) (f_story_marks : WF) (f_story_scenes : WF) : WS := (wRet (wC (.bl true)))
theorem t_u_law_looks_6_e {f_u_law_ask : WF} {f_u_law_draw : WF} {f_u_law_most : WF} {f_u_law_same : WF} {f_most_number : WF} {f_story_marks : WF} {f_story_scenes : WF} {Γ : Nv} {m : M} : t_u_law_looks_6 f_u_law_ask f_u_law_draw f_u_law_most f_u_law_same f_most_number f_story_marks f_story_scenes Γ m = (wRet (wC (.bl true))) Γ m := by rw [t_u_law_looks_6]
def t_u_law_looks_5 (f_u_law_ask : WF) (f_u_law_draw : WF) (f_u_law_most : WF) (f_u_law_same : WF) (f_most_number : WF) (f_story_marks : WF) (f_story_scenes : WF) : WS := wSeq (b_u_law_looks_7 f_u_law_ask f_u_law_draw f_u_law_most f_u_law_same f_most_number f_story_marks f_story_scenes) (t_u_law_looks_6 f_u_law_ask f_u_law_draw f_u_law_most f_u_law_same f_most_number f_story_marks f_story_scenes)
theorem t_u_law_looks_5_e {f_u_law_ask : WF} {f_u_law_draw : WF} {f_u_law_most : WF} {f_u_law_same : WF} {f_most_number : WF} {f_story_marks : WF} {f_story_scenes : WF} {Γ : Nv} {m : M} : t_u_law_looks_5 f_u_law_ask f_u_law_draw f_u_law_most f_u_law_same f_most_number f_story_marks f_story_scenes Γ m = (b_u_law_looks_7 f_u_law_ask f_u_law_draw f_u_law_most f_u_law_same f_most_number f_story_marks f_story_scenes) Γ { nx := fun Γ' => t_u_law_looks_6 f_u_law_ask f_u_law_draw f_u_law_most f_u_law_same f_most_number f_story_marks f_story_scenes Γ' m, rt := m.rt, xp := m.xp, bk := m.bk, ct := m.ct } := by rw [t_u_law_looks_5, wSeq_e]
def t_u_law_looks_4 (f_u_law_ask : WF) (f_u_law_draw : WF) (f_u_law_most : WF) (f_u_law_same : WF) (f_most_number : WF) (f_story_marks : WF) (f_story_scenes : WF) : WS := wSeq (b_u_law_looks_6 f_u_law_ask f_u_law_draw f_u_law_most f_u_law_same f_most_number f_story_marks f_story_scenes) (t_u_law_looks_5 f_u_law_ask f_u_law_draw f_u_law_most f_u_law_same f_most_number f_story_marks f_story_scenes)
theorem t_u_law_looks_4_e {f_u_law_ask : WF} {f_u_law_draw : WF} {f_u_law_most : WF} {f_u_law_same : WF} {f_most_number : WF} {f_story_marks : WF} {f_story_scenes : WF} {Γ : Nv} {m : M} : t_u_law_looks_4 f_u_law_ask f_u_law_draw f_u_law_most f_u_law_same f_most_number f_story_marks f_story_scenes Γ m = (b_u_law_looks_6 f_u_law_ask f_u_law_draw f_u_law_most f_u_law_same f_most_number f_story_marks f_story_scenes) Γ { nx := fun Γ' => t_u_law_looks_5 f_u_law_ask f_u_law_draw f_u_law_most f_u_law_same f_most_number f_story_marks f_story_scenes Γ' m, rt := m.rt, xp := m.xp, bk := m.bk, ct := m.ct } := by rw [t_u_law_looks_4, wSeq_e]
def t_u_law_looks_3 (f_u_law_ask : WF) (f_u_law_draw : WF) (f_u_law_most : WF) (f_u_law_same : WF) (f_most_number : WF) (f_story_marks : WF) (f_story_scenes : WF) : WS := wSeq (b_u_law_looks_5 f_u_law_ask f_u_law_draw f_u_law_most f_u_law_same f_most_number f_story_marks f_story_scenes) (t_u_law_looks_4 f_u_law_ask f_u_law_draw f_u_law_most f_u_law_same f_most_number f_story_marks f_story_scenes)
theorem t_u_law_looks_3_e {f_u_law_ask : WF} {f_u_law_draw : WF} {f_u_law_most : WF} {f_u_law_same : WF} {f_most_number : WF} {f_story_marks : WF} {f_story_scenes : WF} {Γ : Nv} {m : M} : t_u_law_looks_3 f_u_law_ask f_u_law_draw f_u_law_most f_u_law_same f_most_number f_story_marks f_story_scenes Γ m = (b_u_law_looks_5 f_u_law_ask f_u_law_draw f_u_law_most f_u_law_same f_most_number f_story_marks f_story_scenes) Γ { nx := fun Γ' => t_u_law_looks_4 f_u_law_ask f_u_law_draw f_u_law_most f_u_law_same f_most_number f_story_marks f_story_scenes Γ' m, rt := m.rt, xp := m.xp, bk := m.bk, ct := m.ct } := by rw [t_u_law_looks_3, wSeq_e]
def t_u_law_looks_2 (f_u_law_ask : WF) (f_u_law_draw : WF) (f_u_law_most : WF) (f_u_law_same : WF) (f_most_number : WF) (f_story_marks : WF) (f_story_scenes : WF) : WS := wSeq (b_u_law_looks_4 f_u_law_ask f_u_law_draw f_u_law_most f_u_law_same f_most_number f_story_marks f_story_scenes) (t_u_law_looks_3 f_u_law_ask f_u_law_draw f_u_law_most f_u_law_same f_most_number f_story_marks f_story_scenes)
theorem t_u_law_looks_2_e {f_u_law_ask : WF} {f_u_law_draw : WF} {f_u_law_most : WF} {f_u_law_same : WF} {f_most_number : WF} {f_story_marks : WF} {f_story_scenes : WF} {Γ : Nv} {m : M} : t_u_law_looks_2 f_u_law_ask f_u_law_draw f_u_law_most f_u_law_same f_most_number f_story_marks f_story_scenes Γ m = (b_u_law_looks_4 f_u_law_ask f_u_law_draw f_u_law_most f_u_law_same f_most_number f_story_marks f_story_scenes) Γ { nx := fun Γ' => t_u_law_looks_3 f_u_law_ask f_u_law_draw f_u_law_most f_u_law_same f_most_number f_story_marks f_story_scenes Γ' m, rt := m.rt, xp := m.xp, bk := m.bk, ct := m.ct } := by rw [t_u_law_looks_2, wSeq_e]
def b_u_law_looks (f_u_law_ask : WF) (f_u_law_draw : WF) (f_u_law_most : WF) (f_u_law_same : WF) (f_most_number : WF) (f_story_marks : WF) (f_story_scenes : WF) : WS :=
  (wSeq (b_u_law_looks_3 f_u_law_ask f_u_law_draw f_u_law_most f_u_law_same f_most_number f_story_marks f_story_scenes) (t_u_law_looks_2 f_u_law_ask f_u_law_draw f_u_law_most f_u_law_same f_most_number f_story_marks f_story_scenes))

abbrev N_law : List Str := ["script", "chest", "full", "scenes", "marks", "story", "most", "low", "bare", "stories", "first", "one"]
def b_law_1 (f_u_law_chest : WF) (f_u_law_draw : WF) (f_u_law_looks : WF) (f_u_law_story : WF) (f_u_law_with : WF) : WS :=
  (wSet 1 (wFn 1 f_u_law_chest (wCons (wVar 0) wNil)))
def b_law_2 (f_u_law_chest : WF) (f_u_law_draw : WF) (f_u_law_looks : WF) (f_u_law_story : WF) (f_u_law_with : WF) : WS :=
  (wSet 2 (wBin wEq (wBin wMod (wCB wInt (wCons (wVB0 1 wIx (wC (.int 3))) wNil)) (wC (.int 13))) (wC (.int 6))))
def b_law_3 (f_u_law_chest : WF) (f_u_law_draw : WF) (f_u_law_looks : WF) (f_u_law_story : WF) (f_u_law_with : WF) : WS :=
  (wIf (wNot (wB (wFn 2 f_u_law_looks (wCons (wVar 1) (wCons (wVar 11) wNil))))) (wRet (wC (.bl false))) wNext)
def b_law_4 (f_u_law_chest : WF) (f_u_law_draw : WF) (f_u_law_looks : WF) (f_u_law_story : WF) (f_u_law_with : WF) : WS :=
  (wAsg (wIfE (wB (wVar 2)) (wTup (wCons (wC (.int 6)) (wCons (wC (.int 4)) wNil))) (wTup (wCons (wBin wAdd (wC (.int 1)) (wFn 3 f_u_law_draw (wCons (wVar 1) (wCons (wC (.int 6)) (wCons (wC (.int 24)) wNil))))) (wCons (wFn 3 f_u_law_draw (wCons (wVar 1) (wCons (wC (.int 5)) (wCons (wC (.int 25)) wNil)))) wNil)))) (wGtup 2 (wGcons (wN 3) (wGcons (wN 4) wGnil))))
def b_law_5 (f_u_law_chest : WF) (f_u_law_draw : WF) (f_u_law_looks : WF) (f_u_law_story : WF) (f_u_law_with : WF) : WS :=
  (wSet 5 (wFn 5 f_u_law_story (wCons (wVar 1) (wCons (wVar 3) (wCons (wVar 4) (wCons (wC (.int 4)) (wCons (wVar 2) wNil)))))))
def b_law_6 (f_u_law_chest : WF) (f_u_law_draw : WF) (f_u_law_looks : WF) (f_u_law_story : WF) (f_u_law_with : WF) : WS :=
  (wSet 6 (wFn 3 f_u_law_draw (wCons (wVar 1) (wCons (wC (.int 4)) (wCons (wC (.int 26)) wNil)))))
def b_law_7 (f_u_law_chest : WF) (f_u_law_draw : WF) (f_u_law_looks : WF) (f_u_law_story : WF) (f_u_law_with : WF) : WS :=
  (wSet 7 (wFn 5 f_u_law_story (wCons (wVar 1) (wCons (wBin wAdd (wC (.int 1)) (wFn 3 f_u_law_draw (wCons (wVar 1) (wCons (wC (.int 5)) (wCons (wC (.int 27)) wNil))))) (wCons (wCB wMin2 (wCons (wC (.int 1)) (wCons (wFn 3 f_u_law_draw (wCons (wVar 1) (wCons (wC (.int 5)) (wCons (wC (.int 28)) wNil)))) wNil))) (wCons (wVar 6) (wCons (wC (.bl false)) wNil)))))))
def b_law_8 (f_u_law_chest : WF) (f_u_law_draw : WF) (f_u_law_looks : WF) (f_u_law_story : WF) (f_u_law_with : WF) : WS :=
  (wSet 8 (wTup (wCons (wVB0 5 wIx (wC (.int 0))) (wCons (wC (.int 9)) (wCons (wC (.str "only")) (wCons (wTup (wCons (wTup (wCons (wC (.str "only")) (wCons (wTup wNil) (wCons (wTup wNil) wNil)))) wNil)) wNil))))))
def b_law_9 (f_u_law_chest : WF) (f_u_law_draw : WF) (f_u_law_looks : WF) (f_u_law_story : WF) (f_u_law_with : WF) : WS :=
  (wSet 9 (wLst (wCons (wVar 5) (wCons (wVar 7) (wCons (wFn 3 f_u_law_with (wCons (wVar 1) (wCons (wVar 7) (wCons (wBin wAdd (wVar 6) (wC (.int 1))) wNil)))) (wCons (wVar 8) (wCons (wFn 3 f_u_law_with (wCons (wVar 1) (wCons (wVar 8) (wCons (wBin wAdd (wC (.int 1)) (wFn 3 f_u_law_draw (wCons (wVar 1) (wCons (wC (.int 4)) (wCons (wC (.int 29)) wNil))))) wNil)))) wNil)))))))
def b_law_10 (f_u_law_chest : WF) (f_u_law_draw : WF) (f_u_law_looks : WF) (f_u_law_story : WF) (f_u_law_with : WF) : WS :=
  (wSet 10 (wFn 3 f_u_law_draw (wCons (wVar 1) (wCons (wC (.int 5)) (wCons (wC (.int 30)) wNil)))))
def b_law_11 (f_u_law_chest : WF) (f_u_law_draw : WF) (f_u_law_looks : WF) (f_u_law_story : WF) (f_u_law_with : WF) : WS :=
  (wForS (wIter (wSlice (wBin wAdd (wVar 9) (wVar 9)) (wPt (wVar 10)) (wPt (wBin wAdd (wVar 10) (wC (.int 5)))))) (wN 11) (b_law_3 f_u_law_chest f_u_law_draw f_u_law_looks f_u_law_story f_u_law_with))
def b_law_12 (f_u_law_chest : WF) (f_u_law_draw : WF) (f_u_law_looks : WF) (f_u_law_story : WF) (f_u_law_with : WF) : WS :=
  (wRet (wFn 2 f_u_law_looks (wCons (wVar 1) (wCons (wVar 5) wNil))))
def t_law_9 (f_u_law_chest : WF) (f_u_law_draw : WF) (f_u_law_looks : WF) (f_u_law_story : WF) (f_u_law_with : WF) : WS := (b_law_12 f_u_law_chest f_u_law_draw f_u_law_looks f_u_law_story f_u_law_with)
theorem t_law_9_e {f_u_law_chest : WF} {f_u_law_draw : WF} {f_u_law_looks : WF} {f_u_law_story : WF} {f_u_law_with : WF} {Γ : Nv} {m : M} : t_law_9 f_u_law_chest f_u_law_draw f_u_law_looks f_u_law_story f_u_law_with Γ m = (b_law_12 f_u_law_chest f_u_law_draw f_u_law_looks f_u_law_story f_u_law_with) Γ m := by rw [t_law_9]
def t_law_8 (f_u_law_chest : WF) (f_u_law_draw : WF) (f_u_law_looks : WF) (f_u_law_story : WF) (f_u_law_with : WF) : WS := wSeq (b_law_11 f_u_law_chest f_u_law_draw f_u_law_looks f_u_law_story f_u_law_with) (t_law_9 f_u_law_chest f_u_law_draw f_u_law_looks f_u_law_story f_u_law_with)
theorem t_law_8_e {f_u_law_chest : WF} {f_u_law_draw : WF} {f_u_law_looks : WF} {f_u_law_story : WF} {f_u_law_with : WF} {Γ : Nv} {m : M} : t_law_8 f_u_law_chest f_u_law_draw f_u_law_looks f_u_law_story f_u_law_with Γ m = (b_law_11 f_u_law_chest f_u_law_draw f_u_law_looks f_u_law_story f_u_law_with) Γ { nx := fun Γ' => t_law_9 f_u_law_chest f_u_law_draw f_u_law_looks f_u_law_story f_u_law_with Γ' m, rt := m.rt, xp := m.xp, bk := m.bk, ct := m.ct } := by rw [t_law_8, wSeq_e]
def t_law_7 (f_u_law_chest : WF) (f_u_law_draw : WF) (f_u_law_looks : WF) (f_u_law_story : WF) (f_u_law_with : WF) : WS := wSeq (b_law_10 f_u_law_chest f_u_law_draw f_u_law_looks f_u_law_story f_u_law_with) (t_law_8 f_u_law_chest f_u_law_draw f_u_law_looks f_u_law_story f_u_law_with)
theorem t_law_7_e {f_u_law_chest : WF} {f_u_law_draw : WF} {f_u_law_looks : WF} {f_u_law_story : WF} {f_u_law_with : WF} {Γ : Nv} {m : M} : t_law_7 f_u_law_chest f_u_law_draw f_u_law_looks f_u_law_story f_u_law_with Γ m = (b_law_10 f_u_law_chest f_u_law_draw f_u_law_looks f_u_law_story f_u_law_with) Γ { nx := fun Γ' => t_law_8 f_u_law_chest f_u_law_draw f_u_law_looks f_u_law_story f_u_law_with Γ' m, rt := m.rt, xp := m.xp, bk := m.bk, ct := m.ct } := by rw [t_law_7, wSeq_e]
def t_law_6 (f_u_law_chest : WF) (f_u_law_draw : WF) (f_u_law_looks : WF) (f_u_law_story : WF) (f_u_law_with : WF) : WS := wSeq (b_law_9 f_u_law_chest f_u_law_draw f_u_law_looks f_u_law_story f_u_law_with) (t_law_7 f_u_law_chest f_u_law_draw f_u_law_looks f_u_law_story f_u_law_with)
theorem t_law_6_e {f_u_law_chest : WF} {f_u_law_draw : WF} {f_u_law_looks : WF} {f_u_law_story : WF} {f_u_law_with : WF} {Γ : Nv} {m : M} : t_law_6 f_u_law_chest f_u_law_draw f_u_law_looks f_u_law_story f_u_law_with Γ m = (b_law_9 f_u_law_chest f_u_law_draw f_u_law_looks f_u_law_story f_u_law_with) Γ { nx := fun Γ' => t_law_7 f_u_law_chest f_u_law_draw f_u_law_looks f_u_law_story f_u_law_with Γ' m, rt := m.rt, xp := m.xp, bk := m.bk, ct := m.ct } := by rw [t_law_6, wSeq_e]
def t_law_5 (f_u_law_chest : WF) (f_u_law_draw : WF) (f_u_law_looks : WF) (f_u_law_story : WF) (f_u_law_with : WF) : WS := wSeq (b_law_8 f_u_law_chest f_u_law_draw f_u_law_looks f_u_law_story f_u_law_with) (t_law_6 f_u_law_chest f_u_law_draw f_u_law_looks f_u_law_story f_u_law_with)
theorem t_law_5_e {f_u_law_chest : WF} {f_u_law_draw : WF} {f_u_law_looks : WF} {f_u_law_story : WF} {f_u_law_with : WF} {Γ : Nv} {m : M} : t_law_5 f_u_law_chest f_u_law_draw f_u_law_looks f_u_law_story f_u_law_with Γ m = (b_law_8 f_u_law_chest f_u_law_draw f_u_law_looks f_u_law_story f_u_law_with) Γ { nx := fun Γ' => t_law_6 f_u_law_chest f_u_law_draw f_u_law_looks f_u_law_story f_u_law_with Γ' m, rt := m.rt, xp := m.xp, bk := m.bk, ct := m.ct } := by rw [t_law_5, wSeq_e]
def t_law_4 (f_u_law_chest : WF) (f_u_law_draw : WF) (f_u_law_looks : WF) (f_u_law_story : WF) (f_u_law_with : WF) : WS := wSeq (b_law_7 f_u_law_chest f_u_law_draw f_u_law_looks f_u_law_story f_u_law_with) (t_law_5 f_u_law_chest f_u_law_draw f_u_law_looks f_u_law_story f_u_law_with)
theorem t_law_4_e {f_u_law_chest : WF} {f_u_law_draw : WF} {f_u_law_looks : WF} {f_u_law_story : WF} {f_u_law_with : WF} {Γ : Nv} {m : M} : t_law_4 f_u_law_chest f_u_law_draw f_u_law_looks f_u_law_story f_u_law_with Γ m = (b_law_7 f_u_law_chest f_u_law_draw f_u_law_looks f_u_law_story f_u_law_with) Γ { nx := fun Γ' => t_law_5 f_u_law_chest f_u_law_draw f_u_law_looks f_u_law_story f_u_law_with Γ' m, rt := m.rt, xp := m.xp, bk := m.bk, ct := m.ct } := by rw [t_law_4, wSeq_e]
def t_law_3 (f_u_law_chest : WF) (f_u_law_draw : WF) (f_u_law_looks : WF) (f_u_law_story : WF) (f_u_law_with : WF) : WS := wSeq (b_law_6 f_u_law_chest f_u_law_draw f_u_law_looks f_u_law_story f_u_law_with) (t_law_4 f_u_law_chest f_u_law_draw f_u_law_looks f_u_law_story f_u_law_with)
theorem t_law_3_e {f_u_law_chest : WF} {f_u_law_draw : WF} {f_u_law_looks : WF} {f_u_law_story : WF} {f_u_law_with : WF} {Γ : Nv} {m : M} : t_law_3 f_u_law_chest f_u_law_draw f_u_law_looks f_u_law_story f_u_law_with Γ m = (b_law_6 f_u_law_chest f_u_law_draw f_u_law_looks f_u_law_story f_u_law_with) Γ { nx := fun Γ' => t_law_4 f_u_law_chest f_u_law_draw f_u_law_looks f_u_law_story f_u_law_with Γ' m, rt := m.rt, xp := m.xp, bk := m.bk, ct := m.ct } := by rw [t_law_3, wSeq_e]
def t_law_2 (f_u_law_chest : WF) (f_u_law_draw : WF) (f_u_law_looks : WF) (f_u_law_story : WF) (f_u_law_with : WF) : WS := wSeq (b_law_5 f_u_law_chest f_u_law_draw f_u_law_looks f_u_law_story f_u_law_with) (t_law_3 f_u_law_chest f_u_law_draw f_u_law_looks f_u_law_story f_u_law_with)
theorem t_law_2_e {f_u_law_chest : WF} {f_u_law_draw : WF} {f_u_law_looks : WF} {f_u_law_story : WF} {f_u_law_with : WF} {Γ : Nv} {m : M} : t_law_2 f_u_law_chest f_u_law_draw f_u_law_looks f_u_law_story f_u_law_with Γ m = (b_law_5 f_u_law_chest f_u_law_draw f_u_law_looks f_u_law_story f_u_law_with) Γ { nx := fun Γ' => t_law_3 f_u_law_chest f_u_law_draw f_u_law_looks f_u_law_story f_u_law_with Γ' m, rt := m.rt, xp := m.xp, bk := m.bk, ct := m.ct } := by rw [t_law_2, wSeq_e]
def g_law (C : Option (List Key) → List BxC → Prop) (f_u_law_chest : WF) (f_u_law_draw : WF) (f_u_law_looks : WF) (f_u_law_story : WF) (f_u_law_with : WF) : Nv → Prop :=
  fun Γ => (b_law_1 f_u_law_chest f_u_law_draw f_u_law_looks f_u_law_story f_u_law_with) Γ (mT (fun Γ => (b_law_2 f_u_law_chest f_u_law_draw f_u_law_looks f_u_law_story f_u_law_with) Γ (mT (gShut C 1 (wSeq (b_law_4 f_u_law_chest f_u_law_draw f_u_law_looks f_u_law_story f_u_law_with) (t_law_2 f_u_law_chest f_u_law_draw f_u_law_looks f_u_law_story f_u_law_with))))))

abbrev s_conditions_within : Stmt := topS 1
theorem sc_conditions_within : FnScope N_conditions_within ["condition"] (defScope s_conditions_within) := ⟨rfl, rfl, rfl, by decide +kernel, rfl, by decide +kernel, by decide +kernel⟩

abbrev s_condition_parts : Stmt := topS 2
theorem sc_condition_parts : FnScope N_condition_parts ["condition"] (defScope s_condition_parts) := ⟨rfl, rfl, rfl, by decide +kernel, rfl, by decide +kernel, by decide +kernel⟩

abbrev s_most_asked : Stmt := topS 3
theorem sc_most_asked : FnScope N_most_asked ["condition"] (defScope s_most_asked) := ⟨rfl, rfl, rfl, by decide +kernel, rfl, by decide +kernel, by decide +kernel⟩

abbrev s_story_marks : Stmt := topS 11
theorem sc_story_marks : FnScope N_story_marks ["story"] (defScope s_story_marks) := ⟨rfl, rfl, rfl, by decide +kernel, rfl, by decide +kernel, by decide +kernel⟩

abbrev s_story_scenes : Stmt := topS 12
theorem sc_story_scenes : FnScope N_story_scenes ["story"] (defScope s_story_scenes) := ⟨rfl, rfl, rfl, by decide +kernel, rfl, by decide +kernel, by decide +kernel⟩

abbrev s_scene_of : Stmt := topS 13
theorem sc_scene_of : FnScope N_scene_of ["story", "scene"] (defScope s_scene_of) := ⟨rfl, rfl, rfl, by decide +kernel, rfl, by decide +kernel, by decide +kernel⟩

abbrev s_scene_lines : Stmt := topS 14
theorem sc_scene_lines : FnScope N_scene_lines ["story", "scene"] (defScope s_scene_lines) := ⟨rfl, rfl, rfl, by decide +kernel, rfl, by decide +kernel, by decide +kernel⟩

abbrev s_scene_choices : Stmt := topS 15
theorem sc_scene_choices : FnScope N_scene_choices ["story", "scene"] (defScope s_scene_choices) := ⟨rfl, rfl, rfl, by decide +kernel, rfl, by decide +kernel, by decide +kernel⟩

abbrev s_most_number : Stmt := topS 16
theorem sc_most_number : FnScope N_most_number ["story"] (defScope s_most_number) := ⟨rfl, rfl, rfl, by decide +kernel, rfl, by decide +kernel, by decide +kernel⟩

abbrev s_u_law_chest : Stmt := topS 18
theorem sc_u_law_chest : FnScope N_u_law_chest ["script"] (defScope s_u_law_chest) := ⟨rfl, rfl, rfl, by decide +kernel, rfl, by decide +kernel, by decide +kernel⟩

abbrev s_u_law_draw : Stmt := topS 19
theorem sc_u_law_draw : FnScope N_u_law_draw ["chest", "many", "place"] (defScope s_u_law_draw) := ⟨rfl, rfl, rfl, by decide +kernel, rfl, by decide +kernel, by decide +kernel⟩

abbrev s_u_law_names : Stmt := topS 20
theorem sc_u_law_names : FnScope N_u_law_names ["chest", "many", "place"] (defScope s_u_law_names) := ⟨rfl, rfl, rfl, by decide +kernel, rfl, by decide +kernel, by decide +kernel⟩

abbrev s_u_law_saying : Stmt := topS 21
theorem sc_u_law_saying : FnScope N_u_law_saying ["chest", "at"] (defScope s_u_law_saying) := ⟨rfl, rfl, rfl, by decide +kernel, rfl, by decide +kernel, by decide +kernel⟩

abbrev s_u_law_condition : Stmt := topS 22
theorem sc_u_law_condition : FnScope N_u_law_condition ["chest", "marks", "most"] (defScope s_u_law_condition) := ⟨rfl, rfl, rfl, by decide +kernel, rfl, by decide +kernel, by decide +kernel⟩

abbrev s_u_law_story : Stmt := topS 23
theorem sc_u_law_story : FnScope N_u_law_story ["chest", "scenes", "marks", "most", "full"] (defScope s_u_law_story) := ⟨rfl, rfl, rfl, by decide +kernel, rfl, by decide +kernel, by decide +kernel⟩

abbrev s_u_law_with : Stmt := topS 24
theorem sc_u_law_with : FnScope N_u_law_with ["chest", "story", "number"] (defScope s_u_law_with) := ⟨rfl, rfl, rfl, by decide +kernel, rfl, by decide +kernel, by decide +kernel⟩

abbrev s_u_law_most : Stmt := topS 25
theorem sc_u_law_most : FnScope N_u_law_most ["story"] (defScope s_u_law_most) := ⟨rfl, rfl, rfl, by decide +kernel, rfl, by decide +kernel, by decide +kernel⟩

abbrev s_u_law_same : Stmt := topS 26
theorem sc_u_law_same : FnScope N_u_law_same ["told", "due"] (defScope s_u_law_same) := ⟨rfl, rfl, rfl, by decide +kernel, rfl, by decide +kernel, by decide +kernel⟩

abbrev s_u_law_ask : Stmt := topS 27
theorem sc_u_law_ask : FnScope N_u_law_ask ["word", "story", "scene"] (defScope s_u_law_ask) := ⟨rfl, rfl, rfl, by decide +kernel, rfl, by decide +kernel, by decide +kernel⟩

abbrev s_u_law_looks : Stmt := topS 28
theorem sc_u_law_looks : FnScope N_u_law_looks ["chest", "story"] (defScope s_u_law_looks) := ⟨rfl, rfl, rfl, by decide +kernel, rfl, by decide +kernel, by decide +kernel⟩

abbrev s_law : Stmt := topS 29
theorem sc_law : FnScope N_law ["script"] (defScope s_law) := ⟨rfl, rfl, rfl, by decide +kernel, rfl, by decide +kernel, by decide +kernel⟩

theorem d_conditions_within {P : Program} {w : World} {K : PySem.W.Frag} {mg : Str → Option Value} {base : Heap} {S : SK} {k : Nat} {f : Addr} {cdv : Value} {A : Around} {outer : List Env} {s : Shared} {H : Hp} {E : XK} (Z : Bn mg) (hr : Room k (A.deeper (PyProof.Rows.envOfC "conditions_within" (defScope s_conditions_within) s.heap.objs.size f cdv))) :
    PSs (cxOf (L2.CX P w) P w K mg base N_conditions_within "conditions_within" (defScope s_conditions_within) f cdv A outer s H E) (defBody s_conditions_within) (DS K S mg (fun cls d _ H => E cls d H) (b_conditions_within)) :=
  (pds_cons (pds_if (pdt_cmp (op_in4 (hu65 hr)) bo_in.bs (pd_ixV 0 (hu1 hr) (pv 0) pd_int) (pd_tup (pda_cons pd_str (pda_cons pd_str pda_nil))) (by rfl)) (pds_one (pds_ret (pd_ixV 0 (hu1 hr) (pv 0) pd_int))) pds_nil)
  (pds_one (pds_ret (pd_if (pdt_cmp (op_eqD (hu64 hr)) bs_eq (pd_ixV 0 (hu1 hr) (pv 0) pd_int) pd_str (nomark _)) (pd_tup (pda_cons (pd_ixV 0 (hu1 hr) (pv 0) pd_int) pda_nil)) (pd_tup pda_nil)))))

theorem d_condition_parts {P : Program} {w : World} {K : PySem.W.Frag} {mg : Str → Option Value} {base : Heap} {S : SK} {k : Nat} {f : Addr} {cdv : Value} {A : Around} {outer : List Env} {s : Shared} {H : Hp} {E : XK} (Z : Bn mg) {f_conditions_within : WF} (C_conditions_within : Cal P w K mg base S k "conditions_within" s_conditions_within ["condition"] f_conditions_within) (hr : Room k (A.deeper (PyProof.Rows.envOfC "condition_parts" (defScope s_condition_parts) s.heap.objs.size f cdv))) :
    PSs (cxOf (L2.CX P w) P w K mg base N_condition_parts "condition_parts" (defScope s_condition_parts) f cdv A outer s H E) (defBody s_condition_parts) (DS K S mg (fun cls d _ H => E cls d H) (b_condition_parts f_conditions_within)) :=
  (pds_cons (pds_par (i := 1) (j := 2) (by decide) (ps_par rfl sc_condition_parts.nd rfl rfl (by decide) rfl rfl (pa_cons (pd_lst pda_nil) (pa_cons (pd_lst (pda_cons (pd_var 0 (pv 0)) pda_nil)) pa_nil)) (by rfl)))
  (pds_cons (pds_while (passes_of rfl) (pdt_cmp op_gt2 bs_ord (pd_lenV 2 (pv 2) (by rfl) (Z.n "len" (by decide))) pd_int (nomark _)) (pds_cons (pds_setN (i := 3) sc_condition_parts.nd rfl (by first | exact Or.inl rfl | exact Or.inr rfl) (pd_pop 2 (pe_bm0 PySem.F.plainAttrs_list PySem.F.slot_list_pop PySem.F.type_list_pop mt_pop (pv 2))))
  (pds_cons (pds_expr (pd_append 1 (pv 1) (pd_var 3 (pv 3)) (pe_bm PySem.F.plainAttrs_list PySem.F.slot_list_append PySem.F.type_list_append mt_append (pv 1) (pa_cons (pd_var 3 (pv 3)) pa_nil))))
  (pds_one (pds_expr (pd_ext 2 (pe_bm PySem.F.plainAttrs_list PySem.F.slot_list_extend PySem.F.type_list_extend mt_extend2 (pv 2) (pa_cons (pd_fn (n := 1) C_conditions_within hr (by rfl) (takes_of rfl rfl rfl rfl) (by rfl) (pda_cons (pd_var 3 (pv 3)) pda_nil)) pa_nil))))))))
  (pds_one (pds_ret (pd_mov 1 (pv 1))))))

theorem d_most_asked {P : Program} {w : World} {K : PySem.W.Frag} {mg : Str → Option Value} {base : Heap} {S : SK} {k : Nat} {f : Addr} {cdv : Value} {A : Around} {outer : List Env} {s : Shared} {H : Hp} {E : XK} (Z : Bn mg) {f_condition_parts : WF} (C_condition_parts : Cal P w K mg base S k "condition_parts" s_condition_parts ["condition"] f_condition_parts) (hr : Room k (A.deeper (PyProof.Rows.envOfC "most_asked" (defScope s_most_asked) s.heap.objs.size f cdv))) :
    PSs (cxOf (L2.CX P w) P w K mg base N_most_asked "most_asked" (defScope s_most_asked) f cdv A outer s H E) (defBody s_most_asked) (DS K S mg (fun cls d _ H => E cls d H) (b_most_asked f_condition_parts)) :=
  (pds_one (pds_ret (pd_callB (cr_max rfl) cs_maxL (by rfl) (Z.n "max" (by decide)) bt_max (pda_cons (pd_bin op_add4 bs_add (pd_lst (pda_cons pd_int pda_nil)) (pd_lc (own := [(".0", 1), ("part", 2)]) rfl sc_most_asked.nd (pdi_any (pd_fn (n := 1) C_condition_parts hr (by rfl) (takes_of rfl rfl rfl rfl) (by rfl) (pda_cons (pd_var 0 (pv 0)) pda_nil))) (blkOk_by (own := [(".0", 1), ("part", 2)]) (N := N_most_asked) (sc := defScope s_most_asked) (by decide +kernel)) (by decide) (fun _ _ _ _ _ => (pdg_name 2 (pg_name (i := 2) sc_most_asked.nd rfl (by first | exact Or.inl rfl | exact Or.inr rfl)))) (fun _ _ _ _ _ => (pdts_one (pdt_cmp (op_eqD (hu64 hr)) bs_eq (pd_ixV 2 (hu1 hr) (pv 2) pd_int) pd_str (nomark _)))) (fun _ _ _ _ _ => (pd_ixV 2 (hu1 hr) (pv 2) pd_int)))) pda_nil))))

theorem d_story_marks {P : Program} {w : World} {K : PySem.W.Frag} {mg : Str → Option Value} {base : Heap} {S : SK} {k : Nat} {f : Addr} {cdv : Value} {A : Around} {outer : List Env} {s : Shared} {H : Hp} {E : XK} (Z : Bn mg) (hr : Room k (A.deeper (PyProof.Rows.envOfC "story_marks" (defScope s_story_marks) s.heap.objs.size f cdv))) :
    PSs (cxOf (L2.CX P w) P w K mg base N_story_marks "story_marks" (defScope s_story_marks) f cdv A outer s H E) (defBody s_story_marks) (DS K S mg (fun cls d _ H => E cls d H) (b_story_marks)) :=
  (pds_one (pds_ret (pd_callTy call_tuple_of cs_tuple (by rfl) (Z.n "tuple" (by decide)) bt_tuple (pda_cons (pd_lc (own := [(".0", 1), ("name", 2), ("first", 3)]) rfl sc_story_marks.nd (pdi_any (pd_ixV 0 (hu1 hr) (pv 0) pd_int)) (blkOk_by (own := [(".0", 1), ("name", 2), ("first", 3)]) (N := N_story_marks) (sc := defScope s_story_marks) (by decide +kernel)) (by decide) (fun _ _ _ _ _ => (pdg_tup rfl (pdgs_cons (pdg_name 2 (pg_name (i := 2) sc_story_marks.nd rfl (by first | exact Or.inl rfl | exact Or.inr rfl))) (pdgs_cons (pdg_name 3 (pg_name (i := 3) sc_story_marks.nd rfl (by first | exact Or.inl rfl | exact Or.inr rfl))) pdgs_nil)))) (fun _ _ _ _ _ => pdts_nil) (fun _ _ _ _ _ => (pd_var 2 (pv 2)))) pda_nil))))

theorem d_story_scenes {P : Program} {w : World} {K : PySem.W.Frag} {mg : Str → Option Value} {base : Heap} {S : SK} {k : Nat} {f : Addr} {cdv : Value} {A : Around} {outer : List Env} {s : Shared} {H : Hp} {E : XK} (Z : Bn mg) (hr : Room k (A.deeper (PyProof.Rows.envOfC "story_scenes" (defScope s_story_scenes) s.heap.objs.size f cdv))) :
    PSs (cxOf (L2.CX P w) P w K mg base N_story_scenes "story_scenes" (defScope s_story_scenes) f cdv A outer s H E) (defBody s_story_scenes) (DS K S mg (fun cls d _ H => E cls d H) (b_story_scenes)) :=
  (pds_one (pds_ret (pd_callTy call_tuple_of cs_tuple (by rfl) (Z.n "tuple" (by decide)) bt_tuple (pda_cons (pd_lc (own := [(".0", 1), ("name", 2), ("lines", 3), ("choices", 4)]) rfl sc_story_scenes.nd (pdi_any (pd_ixV 0 (hu1 hr) (pv 0) pd_int)) (blkOk_by (own := [(".0", 1), ("name", 2), ("lines", 3), ("choices", 4)]) (N := N_story_scenes) (sc := defScope s_story_scenes) (by decide +kernel)) (by decide) (fun _ _ _ _ _ => (pdg_tup rfl (pdgs_cons (pdg_name 2 (pg_name (i := 2) sc_story_scenes.nd rfl (by first | exact Or.inl rfl | exact Or.inr rfl))) (pdgs_cons (pdg_name 3 (pg_name (i := 3) sc_story_scenes.nd rfl (by first | exact Or.inl rfl | exact Or.inr rfl))) (pdgs_cons (pdg_name 4 (pg_name (i := 4) sc_story_scenes.nd rfl (by first | exact Or.inl rfl | exact Or.inr rfl))) pdgs_nil))))) (fun _ _ _ _ _ => pdts_nil) (fun _ _ _ _ _ => (pd_var 2 (pv 2)))) pda_nil))))

theorem d_scene_of {P : Program} {w : World} {K : PySem.W.Frag} {mg : Str → Option Value} {base : Heap} {S : SK} {k : Nat} {f : Addr} {cdv : Value} {A : Around} {outer : List Env} {s : Shared} {H : Hp} {E : XK} (Z : Bn mg) (R_NoSuch : Rz P w K mg base "NoSuch" ["word", "name"]) (hk2 : 2 ≤ k) (hr : Room k (A.deeper (PyProof.Rows.envOfC "scene_of" (defScope s_scene_of) s.heap.objs.size f cdv))) :
    PSs (cxOf (L2.CX P w) P w K mg base N_scene_of "scene_of" (defScope s_scene_of) f cdv A outer s H E) (defBody s_scene_of) (DS K S mg (fun cls d _ H => E cls d H) (b_scene_of)) :=
  (pds_cons (pds_for (passes_of rfl) rfl (pdi_any (pd_ixV 0 (hu1 hr) (pv 0) pd_int)) (pdg_name 2 (pg_name (i := 2) sc_scene_of.nd rfl (by first | exact Or.inl rfl | exact Or.inr rfl))) (pds_one (pds_if (pdt_cmp (op_eqD (hu64 hr)) bs_eq (pd_ixV 2 (hu1 hr) (pv 2) pd_int) (pd_var 1 (pv 1)) (nomark _)) (pds_one (pds_ret (pd_mov 2 (pv 2)))) pds_nil)))
  (pds_one (pds_raise R_NoSuch rfl (takes_of rfl rfl rfl rfl) hr hk2 (by rfl) (pda_cons pd_str (pda_cons (pd_var 1 (pv 1)) pda_nil)))))

theorem d_scene_lines {P : Program} {w : World} {K : PySem.W.Frag} {mg : Str → Option Value} {base : Heap} {S : SK} {k : Nat} {f : Addr} {cdv : Value} {A : Around} {outer : List Env} {s : Shared} {H : Hp} {E : XK} (Z : Bn mg) {f_scene_of : WF} (C_scene_of : Cal P w K mg base S k "scene_of" s_scene_of ["story", "scene"] f_scene_of) (hr : Room k (A.deeper (PyProof.Rows.envOfC "scene_lines" (defScope s_scene_lines) s.heap.objs.size f cdv))) :
    PSs (cxOf (L2.CX P w) P w K mg base N_scene_lines "scene_lines" (defScope s_scene_lines) f cdv A outer s H E) (defBody s_scene_lines) (DS K S mg (fun cls d _ H => E cls d H) (b_scene_lines f_scene_of)) :=
  (pds_one (pds_ret (pd_ix (hu1 hr) (pd_fn (n := 2) C_scene_of hr (by rfl) (takes_of rfl rfl rfl rfl) (by rfl) (pda_cons (pd_var 0 (pv 0)) (pda_cons (pd_var 1 (pv 1)) pda_nil))) pd_int)))

theorem d_scene_choices {P : Program} {w : World} {K : PySem.W.Frag} {mg : Str → Option Value} {base : Heap} {S : SK} {k : Nat} {f : Addr} {cdv : Value} {A : Around} {outer : List Env} {s : Shared} {H : Hp} {E : XK} (Z : Bn mg) {f_scene_of : WF} (C_scene_of : Cal P w K mg base S k "scene_of" s_scene_of ["story", "scene"] f_scene_of) (hr : Room k (A.deeper (PyProof.Rows.envOfC "scene_choices" (defScope s_scene_choices) s.heap.objs.size f cdv))) :
    PSs (cxOf (L2.CX P w) P w K mg base N_scene_choices "scene_choices" (defScope s_scene_choices) f cdv A outer s H E) (defBody s_scene_choices) (DS K S mg (fun cls d _ H => E cls d H) (b_scene_choices f_scene_of)) :=
  (pds_one (pds_ret (pd_ix (hu1 hr) (pd_fn (n := 2) C_scene_of hr (by rfl) (takes_of rfl rfl rfl rfl) (by rfl) (pda_cons (pd_var 0 (pv 0)) (pda_cons (pd_var 1 (pv 1)) pda_nil))) pd_int)))

theorem d_most_number {P : Program} {w : World} {K : PySem.W.Frag} {mg : Str → Option Value} {base : Heap} {S : SK} {k : Nat} {f : Addr} {cdv : Value} {A : Around} {outer : List Env} {s : Shared} {H : Hp} {E : XK} (Z : Bn mg) {f_most_asked : WF} (C_most_asked : Cal P w K mg base S k "most_asked" s_most_asked ["condition"] f_most_asked) (hr : Room k (A.deeper (PyProof.Rows.envOfC "most_number" (defScope s_most_number) s.heap.objs.size f cdv))) :
    PSs (cxOf (L2.CX P w) P w K mg base N_most_number "most_number" (defScope s_most_number) f cdv A outer s H E) (defBody s_most_number) (DS K S mg (fun cls d _ H => E cls d H) (b_most_number f_most_asked)) :=
  (pds_cons (pds_setN (i := 1) sc_most_number.nd rfl (by first | exact Or.inl rfl | exact Or.inr rfl) (pd_lst (pda_cons pd_int pda_nil)))
  (pds_cons (pds_for (passes_of rfl) rfl (pdi_any (pd_ixV 0 (hu1 hr) (pv 0) pd_int)) (pdg_tup rfl (pdgs_cons (pdg_name 2 (pg_name (i := 2) sc_most_number.nd rfl (by first | exact Or.inl rfl | exact Or.inr rfl))) (pdgs_cons (pdg_name 3 (pg_name (i := 3) sc_most_number.nd rfl (by first | exact Or.inl rfl | exact Or.inr rfl))) (pdgs_cons (pdg_name 4 (pg_name (i := 4) sc_most_number.nd rfl (by first | exact Or.inl rfl | exact Or.inr rfl))) pdgs_nil)))) (pds_cons (pds_expr (pd_ext 1 (pe_bm PySem.F.plainAttrs_list PySem.F.slot_list_extend PySem.F.type_list_extend mt_extend2 (pv 1) (pa_cons (pd_lc (own := [(".0", 6), ("saying", 7), ("condition", 8)]) rfl sc_most_number.nd (pdi_any (pd_var 3 (pv 3))) (blkOk_by (own := [(".0", 6), ("saying", 7), ("condition", 8)]) (N := N_most_number) (sc := defScope s_most_number) (by decide +kernel)) (by decide) (fun _ _ _ _ _ => (pdg_tup rfl (pdgs_cons (pdg_name 7 (pg_name (i := 7) sc_most_number.nd rfl (by first | exact Or.inl rfl | exact Or.inr rfl))) (pdgs_cons (pdg_name 8 (pg_name (i := 8) sc_most_number.nd rfl (by first | exact Or.inl rfl | exact Or.inr rfl))) pdgs_nil)))) (fun _ _ _ _ _ => pdts_nil) (fun _ _ _ _ _ => (pd_fn (n := 1) C_most_asked hr (by rfl) takes0 (by rfl) (pda_cons (pd_var 8 (pv 8)) pda_nil)))) pa_nil))))
  (pds_one (pds_for (passes_of rfl) rfl (pdi_any (pd_var 4 (pv 4))) (pdg_name 5 (pg_name (i := 5) sc_most_number.nd rfl (by first | exact Or.inl rfl | exact Or.inr rfl))) (pds_one (pds_expr (pd_ext 1 (pe_bm PySem.F.plainAttrs_list PySem.F.slot_list_extend PySem.F.type_list_extend mt_extend2 (pv 1) (pa_cons (pd_lst (pda_cons (pd_fn (n := 1) C_most_asked hr (by rfl) (takes_of rfl rfl rfl rfl) (by rfl) (pda_cons (pd_ixV 5 (hu1 hr) (pv 5) pd_int) pda_nil)) (pda_cons (pd_callB call_abs cs_abs (by rfl) (Z.n "abs" (by decide)) bt_abs (pda_cons (pd_ixV 5 (hu1 hr) (pv 5) pd_int) pda_nil)) pda_nil))) pa_nil)))))))))
  (pds_one (pds_ret (pd_callB (cr_max rfl) cs_maxL (by rfl) (Z.n "max" (by decide)) bt_max (pda_cons (pd_var 1 (pv 1)) pda_nil))))))

theorem d_u_law_chest {P : Program} {w : World} {K : PySem.W.Frag} {mg : Str → Option Value} {base : Heap} {S : SK} {k : Nat} {f : Addr} {cdv : Value} {A : Around} {outer : List Env} {s : Shared} {H : Hp} {E : XK} (Z : Bn mg) (hr : Room k (A.deeper (PyProof.Rows.envOfC "_law_chest" (defScope s_u_law_chest) s.heap.objs.size f cdv))) :
    PSs (cxOf (L2.CX P w) P w K mg base N_u_law_chest "_law_chest" (defScope s_u_law_chest) f cdv A outer s H E) (defBody s_u_law_chest) (DS K S mg (fun cls d _ H => E cls d H) (b_u_law_chest)) :=
  (pds_cons (pds_par (i := 1) (j := 2) (by decide) (ps_par rfl sc_u_law_chest.nd rfl rfl (by decide) rfl rfl (pa_cons (pd_lst pda_nil) (pa_cons pd_int pa_nil)) (by rfl)))
  (pds_cons (pds_for (passes_of rfl) rfl (pdi_any (pd_sliceV 0 (pv 0) pdo_none (pdo_some pd_int))) (pdg_name 3 (pg_name (i := 3) sc_u_law_chest.nd rfl (by first | exact Or.inl rfl | exact Or.inr rfl))) (pds_cons (pds_setN (i := 4) sc_u_law_chest.nd rfl (by first | exact Or.inl rfl | exact Or.inr rfl) (pd_bin op_mod bs_mod (pd_callB call_abs cs_abs (by rfl) (Z.n "abs" (by decide)) bt_abs (pda_cons (pd_callTy call_int1 cs_int (by rfl) (Z.n "int" (by decide)) bt_int (pda_cons (pd_var 3 (pv 3)) pda_nil)) pda_nil)) (pd_bin op_shl bs_shl pd_int pd_int)))
  (pds_cons (pds_setN (i := 2) sc_u_law_chest.nd rfl (by first | exact Or.inl rfl | exact Or.inr rfl) (pd_bin op_mod bs_mod (pd_callTy call_int1 cs_int (by rfl) (Z.n "int" (by decide)) bt_int (pda_cons (pd_bin op_add4 bs_add (pd_bin op_add4 bs_add (pd_bin op_mul2 bs_mul (pd_var 2 (pv 2)) pd_int) (pd_bin op_mod bs_mod (pd_var 4 (pv 4)) pd_int)) (pd_bin op_mul2 bs_mul pd_int (pd_callTy call_int1 cs_int (by rfl) (Z.n "int" (by decide)) bt_int (pda_cons (pd_cmp op_lt2 bs_ord (pd_var 3 (pv 3)) pd_int (nomark _)) pda_nil)))) pda_nil)) pd_int))
  (pds_one (pds_for (passes_of rfl) rfl (pdi_range1 (by rfl) (Z.n "range" (by decide)) (pda_cons pd_int pda_nil)) (pdg_name 5 (pg_name (i := 5) sc_u_law_chest.nd rfl (by first | exact Or.inl rfl | exact Or.inr rfl))) (pds_cons (pds_if (PW.pt (pdw_or (pdt_cmp (op_eqD (hu64 hr)) bs_eq (pd_var 5 (pv 5)) pd_int (nomark _)) (pdw_or1 (pdt_cmp op_gt2 bs_ord (pd_var 4 (pv 4)) pd_int (nomark _))))) (pds_one (pds_expr (pd_append 1 (pv 1) (pd_bin op_mod bs_mod (pd_callTy call_int1 cs_int (by rfl) (Z.n "int" (by decide)) bt_int (pda_cons (pd_var 4 (pv 4)) pda_nil)) pd_int) (pe_bm PySem.F.plainAttrs_list PySem.F.slot_list_append PySem.F.type_list_append mt_append (pv 1) (pa_cons (pd_bin op_mod bs_mod (pd_callTy call_int1 cs_int (by rfl) (Z.n "int" (by decide)) bt_int (pda_cons (pd_var 4 (pv 4)) pda_nil)) pd_int) pa_nil))))) pds_nil)
  (pds_one (pds_setN (i := 4) sc_u_law_chest.nd rfl (by first | exact Or.inl rfl | exact Or.inr rfl) (pd_bin op_fdiv bs_div (pd_var 4 (pv 4)) pd_int)))))))))
  (pds_one (pds_ret (pd_lst (pda_cons (pd_var 1 (pv 1)) (pda_cons pd_int (pda_cons (pd_var 2 (pv 2)) (pda_cons (pd_var 2 (pv 2)) pda_nil)))))))))

theorem d_u_law_draw {P : Program} {w : World} {K : PySem.W.Frag} {mg : Str → Option Value} {base : Heap} {S : SK} {k : Nat} {f : Addr} {cdv : Value} {A : Around} {outer : List Env} {s : Shared} {H : Hp} {E : XK} (Z : Bn mg) (hr : Room k (A.deeper (PyProof.Rows.envOfC "_law_draw" (defScope s_u_law_draw) s.heap.objs.size f cdv))) :
    PSs (cxOf (L2.CX P w) P w K mg base N_u_law_draw "_law_draw" (defScope s_u_law_draw) f cdv A outer s H E) (defBody s_u_law_draw) (DS K S mg (fun cls d _ H => E cls d H) (b_u_law_draw)) :=
  (pds_cons (pds_bset 0 (ps_asg (pd_bin op_add4 bs_add (pd_bix 0 (hu1 hr) (pv 0) pd_int) pd_int) (pg_sub (pv 0) pd_int set_list)))
  (pds_cons (pds_setN (i := 3) sc_u_law_draw.nd rfl (by first | exact Or.inl rfl | exact Or.inr rfl) (pd_bin op_mod bs_mod (pd_callTy call_int1 cs_int (by rfl) (Z.n "int" (by decide)) bt_int (pda_cons (pd_bin op_add4 bs_add (pd_bin op_fdiv bs_div (pd_bix 0 (hu1 hr) (pv 0) pd_int) pd_int) (pd_bin op_mul2 bs_mul (pd_var 2 (pv 2)) pd_int)) pda_nil)) pd_int))
  (pds_cons (pds_if (pdt_cmp (op_in4 (hu65 hr)) bo_in.bs (pd_var 3 (pv 3)) (pd_tup (pda_cons pd_int (pda_cons pd_int pda_nil))) (by rfl)) (pds_one (pds_ret pd_int)) pds_nil)
  (pds_cons (pds_if (pdt_cmp (op_eqD (hu64 hr)) bs_eq (pd_var 3 (pv 3)) pd_int (nomark _)) (pds_one (pds_ret (pd_bin op_sub bs_sub (pd_var 1 (pv 1)) pd_int))) pds_nil)
  (pds_cons (pds_if (pdt_cmp (op_eqD (hu64 hr)) bs_eq (pd_var 3 (pv 3)) pd_int (nomark _)) (pds_one (pds_ret (pd_bin op_mod bs_mod (pd_callTy call_int1 cs_int (by rfl) (Z.n "int" (by decide)) bt_int (pda_cons (pd_bin op_fdiv bs_div (pd_bix 0 (hu1 hr) (pv 0) pd_int) pd_int) pda_nil)) (pd_var 1 (pv 1))))) pds_nil)
  (pds_cons (pds_if (pdt_cmp op_le2 bs_ord (pd_bix 0 (hu1 hr) (pv 0) pd_int) (pd_callB call_len2 cs_len (by rfl) (Z.n "len" (by decide)) bt_len (pda_cons (pd_bix 0 (hu1 hr) (pv 0) pd_int) pda_nil)) (nomark _)) (pds_one (pds_ret (pd_bin op_mod bs_mod (pd_callTy call_int1 cs_int (by rfl) (Z.n "int" (by decide)) bt_int (pda_cons (pd_ix (hu1 hr) (pd_bix 0 (hu1 hr) (pv 0) pd_int) (pd_bin op_sub bs_sub (pd_bix 0 (hu1 hr) (pv 0) pd_int) pd_int)) pda_nil)) (pd_var 1 (pv 1))))) pds_nil)
  (pds_cons (pds_bset 0 (ps_asg (pd_bin op_mod bs_mod (pd_callTy call_int1 cs_int (by rfl) (Z.n "int" (by decide)) bt_int (pda_cons (pd_bin op_add4 bs_add (pd_bin op_add4 bs_add (pd_bin op_mul2 bs_mul (pd_bix 0 (hu1 hr) (pv 0) pd_int) pd_int) (pd_bin op_mul2 bs_mul (pd_bix 0 (hu1 hr) (pv 0) pd_int) pd_int)) pd_int) pda_nil)) pd_int) (pg_sub (pv 0) pd_int set_list)))
  (pds_one (pds_ret (pd_bin op_mod bs_mod (pd_callTy call_int1 cs_int (by rfl) (Z.n "int" (by decide)) bt_int (pda_cons (pd_bin op_fdiv bs_div (pd_bix 0 (hu1 hr) (pv 0) pd_int) pd_int) pda_nil)) (pd_var 1 (pv 1))))))))))))

theorem d_u_law_names {P : Program} {w : World} {K : PySem.W.Frag} {mg : Str → Option Value} {base : Heap} {S : SK} {k : Nat} {f : Addr} {cdv : Value} {A : Around} {outer : List Env} {s : Shared} {H : Hp} {E : XK} (Z : Bn mg) {f_u_law_draw : WF} (C_u_law_draw : Cal P w K mg base S k "_law_draw" s_u_law_draw ["chest", "many", "place"] f_u_law_draw) (hr : Room k (A.deeper (PyProof.Rows.envOfC "_law_names" (defScope s_u_law_names) s.heap.objs.size f cdv))) :
    PSs (cxOf (L2.CX P w) P w K mg base N_u_law_names "_law_names" (defScope s_u_law_names) f cdv A outer s H E) (defBody s_u_law_names) (DS K S mg (fun cls d _ H => E cls d H) (b_u_law_names f_u_law_draw)) :=
  (pds_cons (pds_setN (i := 3) sc_u_law_names.nd rfl (by first | exact Or.inl rfl | exact Or.inr rfl) (pd_tup (pda_cons pd_str (pda_cons pd_str (pda_cons pd_str (pda_cons pd_str (pda_cons pd_str (pda_cons pd_str pda_nil))))))))
  (pds_cons (pds_par (i := 4) (j := 5) (by decide) (ps_par rfl sc_u_law_names.nd rfl rfl (by decide) rfl rfl (pa_cons (pd_lst pda_nil) (pa_cons (pd_ixV 3 (hu1 hr) (pv 3) (pd_fn (n := 3) C_u_law_draw hr (by rfl) (takes_of rfl rfl rfl rfl) (by rfl) (pda_cons (pd_var 0 (pv 0)) (pda_cons pd_int (pda_cons (pd_var 2 (pv 2)) pda_nil))))) pa_nil)) (by rfl)))
  (pds_cons (pds_for (passes_of rfl) rfl (pdi_range1 (by rfl) (Z.n "range" (by decide)) (pda_cons (pd_var 1 (pv 1)) pda_nil)) (pdg_name 6 (pg_name (i := 6) sc_u_law_names.nd rfl (by first | exact Or.inl rfl | exact Or.inr rfl))) (pds_cons (pds_setN (i := 7) sc_u_law_names.nd rfl (by first | exact Or.inl rfl | exact Or.inr rfl) (pd_ix (hu1 hr) (pd_tup (pda_cons (pd_var 5 (pv 5)) (pda_cons (pd_bin op_add4 bs_add (pd_var 5 (pv 5)) pd_str) (pda_cons (pd_bin op_add4 bs_add (pd_var 5 (pv 5)) pd_str) (pda_cons (pd_bin op_add4 bs_add pd_str (pd_sliceV 5 (pv 5) pdo_none (pdo_some pd_int))) (pda_cons pd_str (pda_cons (pd_bin op_add4 bs_add (pd_sliceV 5 (pv 5) pdo_none (pdo_some pd_int)) pd_str) pda_nil))))))) (pd_var 6 (pv 6))))
  (pds_one (pds_expr (pd_append 4 (pv 4) (pd_var 7 (pv 7)) (pe_bm PySem.F.plainAttrs_list PySem.F.slot_list_append PySem.F.type_list_append mt_append (pv 4) (pa_cons (pd_var 7 (pv 7)) pa_nil)))))))
  (pds_one (pds_ret (pd_callB (call_sorted3 rfl) cs_sorted (by rfl) (Z.n "sorted" (by decide)) bt_sorted (pda_cons (pd_var 4 (pv 4)) pda_nil)))))))

theorem d_u_law_saying {P : Program} {w : World} {K : PySem.W.Frag} {mg : Str → Option Value} {base : Heap} {S : SK} {k : Nat} {f : Addr} {cdv : Value} {A : Around} {outer : List Env} {s : Shared} {H : Hp} {E : XK} (Z : Bn mg) (hr : Room k (A.deeper (PyProof.Rows.envOfC "_law_saying" (defScope s_u_law_saying) s.heap.objs.size f cdv))) :
    PSs (cxOf (L2.CX P w) P w K mg base N_u_law_saying "_law_saying" (defScope s_u_law_saying) f cdv A outer s H E) (defBody s_u_law_saying) (DS K S mg (fun cls d _ H => E cls d H) (b_u_law_saying)) :=
  (pds_cons (pds_setN (i := 2) sc_u_law_saying.nd rfl (by first | exact Or.inl rfl | exact Or.inr rfl) (pd_tup (pda_cons pd_str (pda_cons pd_str (pda_cons pd_str (pda_cons pd_str (pda_cons pd_str (pda_cons pd_str pda_nil))))))))
  (pds_one (pds_ret (pd_bin op_add4 bs_add (pd_ixV 2 (hu1 hr) (pv 2) (pd_bin op_mod bs_mod (pd_var 1 (pv 1)) pd_int)) (pd_if (pdt_cmp op_lt2 bs_ord (pd_var 1 (pv 1)) pd_int (nomark _)) pd_str pd_str)))))

theorem d_u_law_condition {P : Program} {w : World} {K : PySem.W.Frag} {mg : Str → Option Value} {base : Heap} {S : SK} {k : Nat} {f : Addr} {cdv : Value} {A : Around} {outer : List Env} {s : Shared} {H : Hp} {E : XK} (Z : Bn mg) {f_u_law_draw : WF} (C_u_law_draw : Cal P w K mg base S k "_law_draw" s_u_law_draw ["chest", "many", "place"] f_u_law_draw) (hr : Room k (A.deeper (PyProof.Rows.envOfC "_law_condition" (defScope s_u_law_condition) s.heap.objs.size f cdv))) :
    PSs (cxOf (L2.CX P w) P w K mg base N_u_law_condition "_law_condition" (defScope s_u_law_condition) f cdv A outer s H E) (defBody s_u_law_condition) (DS K S mg (fun cls d _ H => E cls d H) (b_u_law_condition f_u_law_draw)) :=
  (pds_cons (pds_setN (i := 3) sc_u_law_condition.nd rfl (by first | exact Or.inl rfl | exact Or.inr rfl) (pd_lst pda_nil))
  (pds_cons (pds_for (passes_of rfl) rfl (pdi_range1 (by rfl) (Z.n "range" (by decide)) (pda_cons (pd_ix (hu1 hr) (pd_tup (pda_cons pd_int (pda_cons pd_int (pda_cons pd_int (pda_cons pd_int (pda_cons pd_int pda_nil)))))) (pd_fn (n := 3) C_u_law_draw hr (by rfl) (takes_of rfl rfl rfl rfl) (by rfl) (pda_cons (pd_var 0 (pv 0)) (pda_cons pd_int (pda_cons pd_int pda_nil))))) pda_nil)) (pdg_name 4 (pg_name (i := 4) sc_u_law_condition.nd rfl (by first | exact Or.inl rfl | exact Or.inr rfl))) (pds_cons (pds_setN (i := 5) sc_u_law_condition.nd rfl (by first | exact Or.inl rfl | exact Or.inr rfl) (pd_fn (n := 3) C_u_law_draw hr (by rfl) (takes_of rfl rfl rfl rfl) (by rfl) (pda_cons (pd_var 0 (pv 0)) (pda_cons pd_int (pda_cons pd_int pda_nil)))))
  (pds_cons (pds_setN (i := 6) sc_u_law_condition.nd rfl (by first | exact Or.inl rfl | exact Or.inr rfl) (pd_tup (pda_cons pd_str (pda_cons (pd_fn (n := 3) C_u_law_draw hr (by rfl) (takes_of rfl rfl rfl rfl) (by rfl) (pda_cons (pd_var 0 (pv 0)) (pda_cons (pd_bin op_add4 bs_add (pd_var 2 (pv 2)) pd_int) (pda_cons pd_int pda_nil)))) pda_nil))))
  (pds_cons (pds_if (PW.pt (pdw_and (pdt_cmp (op_eqD (hu64 hr)) bs_eq (pd_var 5 (pv 5)) pd_int (nomark _)) (pdw_and1 (pdt_cmp op_gt2 bs_ord (pd_lenV 1 (pv 1) (by rfl) (Z.n "len" (by decide))) pd_int (nomark _))))) (pds_one (pds_setN (i := 6) sc_u_law_condition.nd rfl (by first | exact Or.inl rfl | exact Or.inr rfl) (pd_tup (pda_cons pd_str (pda_cons (pd_ixV 1 (hu1 hr) (pv 1) (pd_fn (n := 3) C_u_law_draw hr (by rfl) (takes_of rfl rfl rfl rfl) (by rfl) (pda_cons (pd_var 0 (pv 0)) (pda_cons (pd_lenV 1 (pv 1) (by rfl) (Z.n "len" (by decide))) (pda_cons pd_int pda_nil))))) pda_nil))))) (pds_one (pds_if (pdt_cmp (op_eqD (hu64 hr)) bs_eq (pd_var 5 (pv 5)) pd_int (nomark _)) (pds_one (pds_setN (i := 6) sc_u_law_condition.nd rfl (by first | exact Or.inl rfl | exact Or.inr rfl) (pd_tup (pda_cons pd_str pda_nil)))) pds_nil)))
  (pds_one (pds_expr (pd_append 3 (pv 3) (pd_var 6 (pv 6)) (pe_bm PySem.F.plainAttrs_list PySem.F.slot_list_append PySem.F.type_list_append mt_append (pv 3) (pa_cons (pd_var 6 (pv 6)) pa_nil)))))))))
  (pds_cons (pds_if (pdt_cmp op_lt2 bs_ord (pd_lenV 3 (pv 3) (by rfl) (Z.n "len" (by decide))) pd_int (nomark _)) (pds_cons (pds_setN (i := 7) sc_u_law_condition.nd rfl (by first | exact Or.inl rfl | exact Or.inr rfl) (pd_fn (n := 3) C_u_law_draw hr (by rfl) (takes_of rfl rfl rfl rfl) (by rfl) (pda_cons (pd_var 0 (pv 0)) (pda_cons (pd_lenV 3 (pv 3) (by rfl) (Z.n "len" (by decide))) (pda_cons pd_int pda_nil)))))
  (pds_one (pds_setIx 3 (ps_asg (pd_tup (pda_cons pd_str (pda_cons (pd_ixV 3 (hu1 hr) (pv 3) (pd_var 7 (pv 7))) pda_nil))) (pg_sub (pv 3) (pd_var 7 (pv 7)) set_list))))) pds_nil)
  (pds_one (pds_ret (pd_if (pdt_cmp (op_eqD (hu64 hr)) bs_eq (pd_lenV 3 (pv 3) (by rfl) (Z.n "len" (by decide))) pd_int (nomark _)) (pd_ixV 3 (hu1 hr) (pv 3) pd_int) (pd_tup (pda_cons (pd_ix (hu1 hr) (pd_tup (pda_cons pd_str (pda_cons pd_str pda_nil))) (pd_fn (n := 3) C_u_law_draw hr (by rfl) (takes_of rfl rfl rfl rfl) (by rfl) (pda_cons (pd_var 0 (pv 0)) (pda_cons pd_int (pda_cons pd_int pda_nil))))) (pda_cons (pd_callTy call_tuple_of cs_tuple (by rfl) (Z.n "tuple" (by decide)) bt_tuple (pda_cons (pd_var 3 (pv 3)) pda_nil)) pda_nil)))))))))

theorem d_u_law_story {P : Program} {w : World} {K : PySem.W.Frag} {mg : Str → Option Value} {base : Heap} {S : SK} {k : Nat} {f : Addr} {cdv : Value} {A : Around} {outer : List Env} {s : Shared} {H : Hp} {E : XK} (Z : Bn mg) {f_u_law_condition : WF} (C_u_law_condition : Cal P w K mg base S k "_law_condition" s_u_law_condition ["chest", "marks", "most"] f_u_law_condition) {f_u_law_draw : WF} (C_u_law_draw : Cal P w K mg base S k "_law_draw" s_u_law_draw ["chest", "many", "place"] f_u_law_draw) {f_u_law_names : WF} (C_u_law_names : Cal P w K mg base S k "_law_names" s_u_law_names ["chest", "many", "place"] f_u_law_names) {f_u_law_saying : WF} (C_u_law_saying : Cal P w K mg base S k "_law_saying" s_u_law_saying ["chest", "at"] f_u_law_saying) (hr : Room k (A.deeper (PyProof.Rows.envOfC "_law_story" (defScope s_u_law_story) s.heap.objs.size f cdv))) :
    PSs (cxOf (L2.CX P w) P w K mg base N_u_law_story "_law_story" (defScope s_u_law_story) f cdv A outer s H E) (defBody s_u_law_story) (DS K S mg (fun cls d _ H => E cls d H) (b_u_law_story f_u_law_condition f_u_law_draw f_u_law_names f_u_law_saying)) :=
  (pds_cons (pds_par (i := 5) (j := 6) (by decide) (ps_par rfl sc_u_law_story.nd rfl rfl (by decide) rfl rfl (pa_cons (pd_fn (n := 3) C_u_law_names hr (by rfl) (takes_of rfl rfl rfl rfl) (by rfl) (pda_cons (pd_var 0 (pv 0)) (pda_cons (pd_var 1 (pv 1)) (pda_cons pd_int pda_nil)))) (pa_cons (pd_fn (n := 3) C_u_law_names hr (by rfl) (takes_of rfl rfl rfl rfl) (by rfl) (pda_cons (pd_var 0 (pv 0)) (pda_cons (pd_var 2 (pv 2)) (pda_cons pd_int pda_nil)))) pa_nil)) (by rfl)))
  (pds_cons (pds_par (i := 7) (j := 8) (by decide) (ps_par rfl sc_u_law_story.nd rfl rfl (by decide) rfl rfl (pa_cons (pd_callB (call_min2 rfl) cs_min2 (by rfl) (Z.n "min" (by decide)) bt_min (pda_cons (pd_var 2 (pv 2)) (pda_cons (pd_ix (hu1 hr) (pd_tup (pda_cons pd_int (pda_cons pd_int (pda_cons pd_int (pda_cons pd_int (pda_cons pd_int (pda_cons pd_int (pda_cons pd_int pda_nil)))))))) (pd_var 1 (pv 1))) pda_nil))) (pa_cons (pd_lst pda_nil) pa_nil)) (by rfl)))
  (pds_cons (pds_for (passes_of rfl) rfl (pdi_any (pd_var 5 (pv 5))) (pdg_name 9 (pg_name (i := 9) sc_u_law_story.nd rfl (by first | exact Or.inl rfl | exact Or.inr rfl))) (pds_cons (pds_par (i := 10) (j := 11) (by decide) (ps_par rfl sc_u_law_story.nd rfl rfl (by decide) rfl rfl (pa_cons (pd_lst pda_nil) (pa_cons (pd_lst pda_nil) pa_nil)) (by rfl)))
  (pds_cons (pds_for (passes_of rfl) rfl (pdi_range1 (by rfl) (Z.n "range" (by decide)) (pda_cons (pd_if (pdt_val (pd_var 4 (pv 4)) (by intro _; rfl)) pd_int (pd_fn (n := 3) C_u_law_draw hr (by rfl) (takes_of rfl rfl rfl rfl) (by rfl) (pda_cons (pd_var 0 (pv 0)) (pda_cons pd_int (pda_cons pd_int pda_nil))))) pda_nil)) (pdg_name 12 (pg_name (i := 12) sc_u_law_story.nd rfl (by first | exact Or.inl rfl | exact Or.inr rfl))) (pds_one (pds_expr (pd_append 10 (pv 10) (pd_tup (pda_cons (pd_fn (n := 2) C_u_law_saying hr (by rfl) (takes_of rfl rfl rfl rfl) (by rfl) (pda_cons (pd_var 0 (pv 0)) (pda_cons (pd_fn (n := 3) C_u_law_draw hr (by rfl) (takes_of rfl rfl rfl rfl) (by rfl) (pda_cons (pd_var 0 (pv 0)) (pda_cons pd_int (pda_cons pd_int pda_nil)))) pda_nil))) (pda_cons (pd_fn (n := 3) C_u_law_condition hr (by rfl) (takes_of rfl rfl rfl rfl) (by rfl) (pda_cons (pd_var 0 (pv 0)) (pda_cons (pd_var 6 (pv 6)) (pda_cons (pd_var 3 (pv 3)) pda_nil)))) pda_nil))) (pe_bm PySem.F.plainAttrs_list PySem.F.slot_list_append PySem.F.type_list_append mt_append (pv 10) (pa_cons (pd_tup (pda_cons (pd_fn (n := 2) C_u_law_saying hr (by rfl) (takes_of rfl rfl rfl rfl) (by rfl) (pda_cons (pd_var 0 (pv 0)) (pda_cons (pd_fn (n := 3) C_u_law_draw hr (by rfl) (takes_of rfl rfl rfl rfl) (by rfl) (pda_cons (pd_var 0 (pv 0)) (pda_cons pd_int (pda_cons pd_int pda_nil)))) pda_nil))) (pda_cons (pd_fn (n := 3) C_u_law_condition hr (by rfl) (takes_of rfl rfl rfl rfl) (by rfl) (pda_cons (pd_var 0 (pv 0)) (pda_cons (pd_var 6 (pv 6)) (pda_cons (pd_var 3 (pv 3)) pda_nil)))) pda_nil))) pa_nil))))))
  (pds_cons (pds_setN (i := 13) sc_u_law_story.nd rfl (by first | exact Or.inl rfl | exact Or.inr rfl) (pd_fn (n := 3) C_u_law_draw hr (by rfl) (takes_of rfl rfl rfl rfl) (by rfl) (pda_cons (pd_var 0 (pv 0)) (pda_cons pd_int (pda_cons pd_int pda_nil)))))
  (pds_cons (pds_for (passes_of rfl) rfl (pdi_range1 (by rfl) (Z.n "range" (by decide)) (pda_cons (pd_if (pdt_val (pd_var 4 (pv 4)) (by intro _; rfl)) pd_int (pd_fn (n := 3) C_u_law_draw hr (by rfl) (takes_of rfl rfl rfl rfl) (by rfl) (pda_cons (pd_var 0 (pv 0)) (pda_cons pd_int (pda_cons pd_int pda_nil))))) pda_nil)) (pdg_name 12 (pg_name (i := 12) sc_u_law_story.nd rfl (by first | exact Or.inl rfl | exact Or.inr rfl))) (pds_cons (pds_setN (i := 14) sc_u_law_story.nd rfl (by first | exact Or.inl rfl | exact Or.inr rfl) (pd_lst pda_nil))
  (pds_cons (pds_for (passes_of rfl) rfl (pdi_range1 (by rfl) (Z.n "range" (by decide)) (pda_cons (pd_if (pdt_cmp op_gt2 bs_ord (pd_var 7 (pv 7)) pd_int (nomark _)) (pd_if (pdt_val (pd_var 4 (pv 4)) (by intro _; rfl)) pd_int (pd_fn (n := 3) C_u_law_draw hr (by rfl) (takes_of rfl rfl rfl rfl) (by rfl) (pda_cons (pd_var 0 (pv 0)) (pda_cons pd_int (pda_cons pd_int pda_nil))))) pd_int) pda_nil)) (pdg_name 15 (pg_name (i := 15) sc_u_law_story.nd rfl (by first | exact Or.inl rfl | exact Or.inr rfl))) (pds_one (pds_expr (pd_append 14 (pv 14) (pd_tup (pda_cons (pd_ixV 6 (hu1 hr) (pv 6) (pd_fn (n := 3) C_u_law_draw hr (by rfl) (takes_of rfl rfl rfl rfl) (by rfl) (pda_cons (pd_var 0 (pv 0)) (pda_cons (pd_var 7 (pv 7)) (pda_cons pd_int pda_nil))))) (pda_cons (pd_ix (hu1 hr) (pd_tup (pda_cons pd_str (pda_cons pd_str (pda_cons pd_str pda_nil)))) (pd_fn (n := 3) C_u_law_draw hr (by rfl) (takes_of rfl rfl rfl rfl) (by rfl) (pda_cons (pd_var 0 (pv 0)) (pda_cons pd_int (pda_cons pd_int pda_nil))))) pda_nil))) (pe_bm PySem.F.plainAttrs_list PySem.F.slot_list_append PySem.F.type_list_append mt_append (pv 14) (pa_cons (pd_tup (pda_cons (pd_ixV 6 (hu1 hr) (pv 6) (pd_fn (n := 3) C_u_law_draw hr (by rfl) (takes_of rfl rfl rfl rfl) (by rfl) (pda_cons (pd_var 0 (pv 0)) (pda_cons (pd_var 7 (pv 7)) (pda_cons pd_int pda_nil))))) (pda_cons (pd_ix (hu1 hr) (pd_tup (pda_cons pd_str (pda_cons pd_str (pda_cons pd_str pda_nil)))) (pd_fn (n := 3) C_u_law_draw hr (by rfl) (takes_of rfl rfl rfl rfl) (by rfl) (pda_cons (pd_var 0 (pv 0)) (pda_cons pd_int (pda_cons pd_int pda_nil))))) pda_nil))) pa_nil))))))
  (pds_one (pds_expr (pd_append 11 (pv 11) (pd_tup (pda_cons (pd_fn (n := 2) C_u_law_saying hr (by rfl) (takes_of rfl rfl rfl rfl) (by rfl) (pda_cons (pd_var 0 (pv 0)) (pda_cons (pd_bin op_add4 bs_add (pd_var 12 (pv 12)) (pd_var 13 (pv 13))) pda_nil))) (pda_cons (pd_fn (n := 3) C_u_law_condition hr (by rfl) (takes_of rfl rfl rfl rfl) (by rfl) (pda_cons (pd_var 0 (pv 0)) (pda_cons (pd_var 6 (pv 6)) (pda_cons (pd_var 3 (pv 3)) pda_nil)))) (pda_cons (pd_callTy call_tuple_of cs_tuple (by rfl) (Z.n "tuple" (by decide)) bt_tuple (pda_cons (pd_var 14 (pv 14)) pda_nil)) (pda_cons (pd_bin op_sub bs_sub (pd_fn (n := 3) C_u_law_draw hr (by rfl) (takes_of rfl rfl rfl rfl) (by rfl) (pda_cons (pd_var 0 (pv 0)) (pda_cons (pd_bin op_add4 bs_add (pd_bin op_mul2 bs_mul pd_int (pd_var 3 (pv 3))) pd_int) (pda_cons pd_int pda_nil)))) (pd_var 3 (pv 3))) (pda_cons (pd_ixV 5 (hu1 hr) (pv 5) (pd_fn (n := 3) C_u_law_draw hr (by rfl) (takes_of rfl rfl rfl rfl) (by rfl) (pda_cons (pd_var 0 (pv 0)) (pda_cons (pd_var 1 (pv 1)) (pda_cons pd_int pda_nil))))) pda_nil)))))) (pe_bm PySem.F.plainAttrs_list PySem.F.slot_list_append PySem.F.type_list_append mt_append (pv 11) (pa_cons (pd_tup (pda_cons (pd_fn (n := 2) C_u_law_saying hr (by rfl) (takes_of rfl rfl rfl rfl) (by rfl) (pda_cons (pd_var 0 (pv 0)) (pda_cons (pd_bin op_add4 bs_add (pd_var 12 (pv 12)) (pd_var 13 (pv 13))) pda_nil))) (pda_cons (pd_fn (n := 3) C_u_law_condition hr (by rfl) (takes_of rfl rfl rfl rfl) (by rfl) (pda_cons (pd_var 0 (pv 0)) (pda_cons (pd_var 6 (pv 6)) (pda_cons (pd_var 3 (pv 3)) pda_nil)))) (pda_cons (pd_callTy call_tuple_of cs_tuple (by rfl) (Z.n "tuple" (by decide)) bt_tuple (pda_cons (pd_var 14 (pv 14)) pda_nil)) (pda_cons (pd_bin op_sub bs_sub (pd_fn (n := 3) C_u_law_draw hr (by rfl) (takes_of rfl rfl rfl rfl) (by rfl) (pda_cons (pd_var 0 (pv 0)) (pda_cons (pd_bin op_add4 bs_add (pd_bin op_mul2 bs_mul pd_int (pd_var 3 (pv 3))) pd_int) (pda_cons pd_int pda_nil)))) (pd_var 3 (pv 3))) (pda_cons (pd_ixV 5 (hu1 hr) (pv 5) (pd_fn (n := 3) C_u_law_draw hr (by rfl) (takes_of rfl rfl rfl rfl) (by rfl) (pda_cons (pd_var 0 (pv 0)) (pda_cons (pd_var 1 (pv 1)) (pda_cons pd_int pda_nil))))) pda_nil)))))) pa_nil))))))))
  (pds_one (pds_expr (pd_append 8 (pv 8) (pd_tup (pda_cons (pd_var 9 (pv 9)) (pda_cons (pd_callTy call_tuple_of cs_tuple (by rfl) (Z.n "tuple" (by decide)) bt_tuple (pda_cons (pd_var 10 (pv 10)) pda_nil)) (pda_cons (pd_callTy call_tuple_of cs_tuple (by rfl) (Z.n "tuple" (by decide)) bt_tuple (pda_cons (pd_var 11 (pv 11)) pda_nil)) pda_nil)))) (pe_bm PySem.F.plainAttrs_list PySem.F.slot_list_append PySem.F.type_list_append mt_append (pv 8) (pa_cons (pd_tup (pda_cons (pd_var 9 (pv 9)) (pda_cons (pd_callTy call_tuple_of cs_tuple (by rfl) (Z.n "tuple" (by decide)) bt_tuple (pda_cons (pd_var 10 (pv 10)) pda_nil)) (pda_cons (pd_callTy call_tuple_of cs_tuple (by rfl) (Z.n "tuple" (by decide)) bt_tuple (pda_cons (pd_var 11 (pv 11)) pda_nil)) pda_nil)))) pa_nil))))))))))
  (pds_cons (pds_setN (i := 16) sc_u_law_story.nd rfl (by first | exact Or.inl rfl | exact Or.inr rfl) (pd_callTy call_tuple_of cs_tuple (by rfl) (Z.n "tuple" (by decide)) bt_tuple (pda_cons (pd_lc (own := [(".0", 17), ("mark", 18)]) rfl sc_u_law_story.nd (pdi_any (pd_var 6 (pv 6))) (blkOk_by (own := [(".0", 17), ("mark", 18)]) (N := N_u_law_story) (sc := defScope s_u_law_story) (by decide +kernel)) (by decide) (fun _ _ _ _ _ => (pdg_name 18 (pg_name (i := 18) sc_u_law_story.nd rfl (by first | exact Or.inl rfl | exact Or.inr rfl)))) (fun _ _ _ _ _ => pdts_nil) (fun _ _ _ _ _ => (pd_tup (pda_cons (pd_var 18 (pv 18)) (pda_cons (pd_ix (hu1 hr) (pd_tup (pda_cons pd_str (pda_cons pd_str pda_nil))) (pd_fn (n := 3) C_u_law_draw hr (by rfl) takes0 (by rfl) (pda_cons (pd_var 0 (pv 0)) (pda_cons pd_int (pda_cons pd_int pda_nil))))) pda_nil))))) pda_nil)))
  (pds_one (pds_ret (pd_tup (pda_cons (pd_var 16 (pv 16)) (pda_cons (pd_fn (n := 3) C_u_law_draw hr (by rfl) (takes_of rfl rfl rfl rfl) (by rfl) (pda_cons (pd_var 0 (pv 0)) (pda_cons pd_int (pda_cons pd_int pda_nil)))) (pda_cons (pd_ixV 5 (hu1 hr) (pv 5) (pd_fn (n := 3) C_u_law_draw hr (by rfl) (takes_of rfl rfl rfl rfl) (by rfl) (pda_cons (pd_var 0 (pv 0)) (pda_cons (pd_var 1 (pv 1)) (pda_cons pd_int pda_nil))))) (pda_cons (pd_callTy call_tuple_of cs_tuple (by rfl) (Z.n "tuple" (by decide)) bt_tuple (pda_cons (pd_var 8 (pv 8)) pda_nil)) pda_nil)))))))))))

theorem d_u_law_with {P : Program} {w : World} {K : PySem.W.Frag} {mg : Str → Option Value} {base : Heap} {S : SK} {k : Nat} {f : Addr} {cdv : Value} {A : Around} {outer : List Env} {s : Shared} {H : Hp} {E : XK} (Z : Bn mg) {f_u_law_draw : WF} (C_u_law_draw : Cal P w K mg base S k "_law_draw" s_u_law_draw ["chest", "many", "place"] f_u_law_draw) (hr : Room k (A.deeper (PyProof.Rows.envOfC "_law_with" (defScope s_u_law_with) s.heap.objs.size f cdv))) :
    PSs (cxOf (L2.CX P w) P w K mg base N_u_law_with "_law_with" (defScope s_u_law_with) f cdv A outer s H E) (defBody s_u_law_with) (DS K S mg (fun cls d _ H => E cls d H) (b_u_law_with f_u_law_draw)) :=
  (pds_cons (pds_par (i := 3) (j := 4) (by decide) (ps_par rfl sc_u_law_with.nd rfl rfl (by decide) rfl rfl (pa_cons (pd_fn (n := 3) C_u_law_draw hr (by rfl) (takes_of rfl rfl rfl rfl) (by rfl) (pda_cons (pd_var 0 (pv 0)) (pda_cons pd_int (pda_cons pd_int pda_nil)))) (pa_cons (pd_lc (own := [(".0", 9), ("mark", 10)]) rfl sc_u_law_with.nd (pdi_any (pd_ixV 1 (hu1 hr) (pv 1) pd_int)) (blkOk_by (own := [(".0", 9), ("mark", 10)]) (N := N_u_law_with) (sc := defScope s_u_law_with) (by decide +kernel)) (by decide) (fun _ _ _ _ _ => (pdg_name 10 (pg_name (i := 10) sc_u_law_with.nd rfl (by first | exact Or.inl rfl | exact Or.inr rfl)))) (fun _ _ _ _ _ => pdts_nil) (fun _ _ _ _ _ => (pd_ixV 10 (hu1 hr) (pv 10) pd_int))) pa_nil)) (by rfl)))
  (pds_cons (pds_setN (i := 5) sc_u_law_with.nd rfl (by first | exact Or.inl rfl | exact Or.inr rfl) (pd_tup (pda_cons pd_str (pda_cons (pd_var 2 (pv 2)) pda_nil))))
  (pds_cons (pds_if (pdt_cmp (op_eqD (hu64 hr)) bs_eq (pd_fn (n := 3) C_u_law_draw hr (by rfl) (takes_of rfl rfl rfl rfl) (by rfl) (pda_cons (pd_var 0 (pv 0)) (pda_cons pd_int (pda_cons pd_int pda_nil)))) pd_int (nomark _)) (pds_one (pds_setN (i := 5) sc_u_law_with.nd rfl (by first | exact Or.inl rfl | exact Or.inr rfl) (pd_tup (pda_cons pd_str (pda_cons (pd_tup (pda_cons (pd_tup (pda_cons pd_str pda_nil)) (pda_cons (pd_tup (pda_cons pd_str (pda_cons (pd_tup (pda_cons (pd_tup (pda_cons pd_str (pda_cons pd_int pda_nil))) (pda_cons (pd_tup (pda_cons pd_str (pda_cons (pd_var 5 (pv 5)) pda_nil))) pda_nil))) pda_nil))) pda_nil))) pda_nil))))) pds_nil)
  (pds_cons (pds_par (i := 6) (j := 7) (by decide) (ps_par rfl sc_u_law_with.nd rfl rfl (by decide) rfl rfl (pa_cons (pd_tup (pda_cons (pd_tup (pda_cons pd_str (pda_cons (pd_tup (pda_cons pd_str pda_nil)) pda_nil))) pda_nil)) (pa_cons (pd_tup (pda_cons pd_str (pda_cons (pd_tup (pda_cons pd_str pda_nil)) (pda_cons (pd_tup pda_nil) (pda_cons pd_int (pda_cons (pd_ixV 1 (hu1 hr) (pv 1) pd_int) pda_nil)))))) pa_nil)) (by rfl)))
  (pds_cons (pds_if (pdt_cmp (op_eqD (hu64 hr)) bs_eq (pd_var 3 (pv 3)) pd_int (nomark _)) (pds_one (pds_setN (i := 6) sc_u_law_with.nd rfl (by first | exact Or.inl rfl | exact Or.inr rfl) (pd_tup (pda_cons (pd_tup (pda_cons pd_str (pda_cons (pd_var 5 (pv 5)) pda_nil))) pda_nil)))) (pds_one (pds_if (pdt_cmp (op_eqD (hu64 hr)) bs_eq (pd_var 3 (pv 3)) pd_int (nomark _)) (pds_one (pds_setN (i := 6) sc_u_law_with.nd rfl (by first | exact Or.inl rfl | exact Or.inr rfl) (pd_tup (pda_cons (pd_tup (pda_cons pd_str (pda_cons (pd_tup (pda_cons pd_str pda_nil)) pda_nil))) (pda_cons (pd_tup (pda_cons pd_str (pda_cons (pd_var 5 (pv 5)) pda_nil))) pda_nil))))) (pds_one (pds_if (pdt_cmp (op_eqD (hu64 hr)) bs_eq (pd_var 3 (pv 3)) pd_int (nomark _)) (pds_one (pds_setN (i := 7) sc_u_law_with.nd rfl (by first | exact Or.inl rfl | exact Or.inr rfl) (pd_tup (pda_cons pd_str (pda_cons (pd_var 5 (pv 5)) (pda_cons (pd_tup pda_nil) (pda_cons pd_int (pda_cons (pd_ixV 1 (hu1 hr) (pv 1) pd_int) pda_nil)))))))) (pds_one (pds_if (pdt_cmp (op_eqD (hu64 hr)) bs_eq (pd_var 3 (pv 3)) pd_int (nomark _)) (pds_one (pds_setN (i := 7) sc_u_law_with.nd rfl (by first | exact Or.inl rfl | exact Or.inr rfl) (pd_tup (pda_cons pd_str (pda_cons (pd_tup (pda_cons pd_str pda_nil)) (pda_cons (pd_tup pda_nil) (pda_cons (pd_var 2 (pv 2)) (pda_cons (pd_ixV 1 (hu1 hr) (pv 1) pd_int) pda_nil)))))))) (pds_one (pds_setN (i := 7) sc_u_law_with.nd rfl (by first | exact Or.inl rfl | exact Or.inr rfl) (pd_tup (pda_cons pd_str (pda_cons (pd_tup (pda_cons pd_str (pda_cons (pd_tup (pda_cons pd_str pda_nil)) pda_nil))) (pda_cons (pd_tup pda_nil) (pda_cons (pd_neg (pd_var 2 (pv 2))) (pda_cons (pd_ixV 1 (hu1 hr) (pv 1) pd_int) pda_nil)))))))))))))))
  (pds_cons (pds_setN (i := 8) sc_u_law_with.nd rfl (by first | exact Or.inl rfl | exact Or.inr rfl) (pd_tup (pda_cons pd_str (pda_cons (pd_var 6 (pv 6)) (pda_cons (pd_tup (pda_cons (pd_tup (pda_cons pd_str (pda_cons (pd_tup (pda_cons pd_str (pda_cons pd_int pda_nil))) (pda_cons (pd_tup pda_nil) (pda_cons pd_int (pda_cons (pd_ixV 1 (hu1 hr) (pv 1) pd_int) pda_nil)))))) (pda_cons (pd_var 7 (pv 7)) pda_nil))) pda_nil)))))
  (pds_one (pds_ret (pd_tup (pda_cons (pd_ixV 1 (hu1 hr) (pv 1) pd_int) (pda_cons (pd_ixV 1 (hu1 hr) (pv 1) pd_int) (pda_cons (pd_ixV 1 (hu1 hr) (pv 1) pd_int) (pda_cons (pd_bin op_add4 bs_add (pd_ixV 1 (hu1 hr) (pv 1) pd_int) (pd_tup (pda_cons (pd_var 8 (pv 8)) pda_nil))) pda_nil)))))))))))))

theorem d_u_law_most {P : Program} {w : World} {K : PySem.W.Frag} {mg : Str → Option Value} {base : Heap} {S : SK} {k : Nat} {f : Addr} {cdv : Value} {A : Around} {outer : List Env} {s : Shared} {H : Hp} {E : XK} (Z : Bn mg) (hr : Room k (A.deeper (PyProof.Rows.envOfC "_law_most" (defScope s_u_law_most) s.heap.objs.size f cdv))) :
    PSs (cxOf (L2.CX P w) P w K mg base N_u_law_most "_law_most" (defScope s_u_law_most) f cdv A outer s H E) (defBody s_u_law_most) (DS K S mg (fun cls d _ H => E cls d H) (b_u_law_most)) :=
  (pds_cons (pds_par (i := 1) (j := 2) (by decide) (ps_par rfl sc_u_law_most.nd rfl rfl (by decide) rfl rfl (pa_cons (pd_lst pda_nil) (pa_cons pd_int pa_nil)) (by rfl)))
  (pds_cons (pds_for (passes_of rfl) rfl (pdi_any (pd_ixV 0 (hu1 hr) (pv 0) pd_int)) (pdg_name 3 (pg_name (i := 3) sc_u_law_most.nd rfl (by first | exact Or.inl rfl | exact Or.inr rfl))) (pds_cons (pds_expr (pd_ext 1 (pe_bm PySem.F.plainAttrs_list PySem.F.slot_list_extend PySem.F.type_list_extend mt_extend2 (pv 1) (pa_cons (pd_lc (own := [(".0", 5), ("line", 6)]) rfl sc_u_law_most.nd (pdi_any (pd_ixV 3 (hu1 hr) (pv 3) pd_int)) (blkOk_by (own := [(".0", 5), ("line", 6)]) (N := N_u_law_most) (sc := defScope s_u_law_most) (by decide +kernel)) (by decide) (fun _ _ _ _ _ => (pdg_name 6 (pg_name (i := 6) sc_u_law_most.nd rfl (by first | exact Or.inl rfl | exact Or.inr rfl)))) (fun _ _ _ _ _ => pdts_nil) (fun _ _ _ _ _ => (pd_ixV 6 (hu1 hr) (pv 6) pd_int))) pa_nil))))
  (pds_cons (pds_expr (pd_ext 1 (pe_bm PySem.F.plainAttrs_list PySem.F.slot_list_extend PySem.F.type_list_extend mt_extend2 (pv 1) (pa_cons (pd_lc (own := [(".0", 5), ("choice", 7)]) rfl sc_u_law_most.nd (pdi_any (pd_ixV 3 (hu1 hr) (pv 3) pd_int)) (blkOk_by (own := [(".0", 5), ("choice", 7)]) (N := N_u_law_most) (sc := defScope s_u_law_most) (by decide +kernel)) (by decide) (fun _ _ _ _ _ => (pdg_name 7 (pg_name (i := 7) sc_u_law_most.nd rfl (by first | exact Or.inl rfl | exact Or.inr rfl)))) (fun _ _ _ _ _ => pdts_nil) (fun _ _ _ _ _ => (pd_ixV 7 (hu1 hr) (pv 7) pd_int))) pa_nil))))
  (pds_one (pds_setN (i := 2) sc_u_law_most.nd rfl (by first | exact Or.inl rfl | exact Or.inr rfl) (pd_callB (cr_max rfl) cs_maxL (by rfl) (Z.n "max" (by decide)) bt_max (pda_cons (pd_bin op_add4 bs_add (pd_lst (pda_cons (pd_var 2 (pv 2)) pda_nil)) (pd_lc (own := [(".0", 5), ("choice", 7)]) rfl sc_u_law_most.nd (pdi_any (pd_ixV 3 (hu1 hr) (pv 3) pd_int)) (blkOk_by (own := [(".0", 5), ("choice", 7)]) (N := N_u_law_most) (sc := defScope s_u_law_most) (by decide +kernel)) (by decide) (fun _ _ _ _ _ => (pdg_name 7 (pg_name (i := 7) sc_u_law_most.nd rfl (by first | exact Or.inl rfl | exact Or.inr rfl)))) (fun _ _ _ _ _ => pdts_nil) (fun _ _ _ _ _ => (pd_callB call_abs cs_abs (by rfl) (Z.n "abs" (by decide)) bt_abs (pda_cons (pd_ixV 7 (hu1 hr) (pv 7) pd_int) pda_nil))))) pda_nil)))))))
  (pds_cons (pds_while (passes_of rfl) (pdt_cmp op_gt2 bs_ord (pd_lenV 1 (pv 1) (by rfl) (Z.n "len" (by decide))) pd_int (nomark _)) (pds_cons (pds_setN (i := 4) sc_u_law_most.nd rfl (by first | exact Or.inl rfl | exact Or.inr rfl) (pd_pop 1 (pe_bm0 PySem.F.plainAttrs_list PySem.F.slot_list_pop PySem.F.type_list_pop mt_pop (pv 1))))
  (pds_one (pds_if (pdt_cmp (op_eqD (hu64 hr)) bs_eq (pd_ixV 4 (hu1 hr) (pv 4) pd_int) pd_str (nomark _)) (pds_one (pds_setN (i := 2) sc_u_law_most.nd rfl (by first | exact Or.inl rfl | exact Or.inr rfl) (pd_callB (call_max2 rfl) cs_max2 (by rfl) (Z.n "max" (by decide)) bt_max (pda_cons (pd_var 2 (pv 2)) (pda_cons (pd_ixV 4 (hu1 hr) (pv 4) pd_int) pda_nil))))) (pds_one (pds_if (pdt_cmp (op_eqD (hu64 hr)) bs_eq (pd_ixV 4 (hu1 hr) (pv 4) pd_int) pd_str (nomark _)) (pds_one (pds_expr (pd_append 1 (pv 1) (pd_ixV 4 (hu1 hr) (pv 4) pd_int) (pe_bm PySem.F.plainAttrs_list PySem.F.slot_list_append PySem.F.type_list_append mt_append (pv 1) (pa_cons (pd_ixV 4 (hu1 hr) (pv 4) pd_int) pa_nil))))) (pds_one (pds_if (pdt_cmp (op_in4 (hu65 hr)) bo_in.bs (pd_ixV 4 (hu1 hr) (pv 4) pd_int) (pd_tup (pda_cons pd_str (pda_cons pd_str pda_nil))) (by rfl)) (pds_one (pds_expr (pd_ext 1 (pe_bm PySem.F.plainAttrs_list PySem.F.slot_list_extend PySem.F.type_list_extend mt_extend2 (pv 1) (pa_cons (pd_ixV 4 (hu1 hr) (pv 4) pd_int) pa_nil))))) pds_nil))))))))
  (pds_one (pds_ret (pd_mov 2 (pv 2)))))))

theorem d_u_law_same {P : Program} {w : World} {K : PySem.W.Frag} {mg : Str → Option Value} {base : Heap} {S : SK} {k : Nat} {f : Addr} {cdv : Value} {A : Around} {outer : List Env} {s : Shared} {H : Hp} {E : XK} (Z : Bn mg) {f_u_law_same : WF} (C_u_law_same : Cal P w K mg base S k "_law_same" s_u_law_same ["told", "due"] f_u_law_same) (hr : Room k (A.deeper (PyProof.Rows.envOfC "_law_same" (defScope s_u_law_same) s.heap.objs.size f cdv))) :
    PSs (cxOf (L2.CX P w) P w K mg base N_u_law_same "_law_same" (defScope s_u_law_same) f cdv A outer s H E) (defBody s_u_law_same) (DS K S mg (fun cls d _ H => E cls d H) (b_u_law_same f_u_law_same)) :=
  (pds_cons (pds_if (pdt_cmp op_isN bs_isN (pd_var 1 (pv 1)) pd_non (nomark _)) (pds_one (pds_ret (pd_cmp op_isN bs_isN (pd_var 0 (pv 0)) pd_non (nomark _)))) pds_nil)
  (pds_cons (pds_if (pdt_val (pd_callB call_isi cs_isi (by rfl) (Z.n "isinstance" (by decide)) bt_isinstance (pda_cons (pd_var 1 (pv 1)) (pda_cons (pd_ty (by rfl) (Z.n "bool" (by decide)) bt_bool) pda_nil))) (by intro _; rfl)) (pds_one (pds_ret (pd_and (pd_callB call_isi cs_isi (by rfl) (Z.n "isinstance" (by decide)) bt_isinstance (pda_cons (pd_var 0 (pv 0)) (pda_cons (pd_ty (by rfl) (Z.n "bool" (by decide)) bt_bool) pda_nil))) (pd_one (pd_cmp (op_eqD (hu64 hr)) bs_eq (pd_var 0 (pv 0)) (pd_var 1 (pv 1)) (nomark _)))))) pds_nil)
  (pds_cons (pds_if (pdt_val (pd_callB call_isi cs_isi (by rfl) (Z.n "isinstance" (by decide)) bt_isinstance (pda_cons (pd_var 1 (pv 1)) (pda_cons (pd_ty (by rfl) (Z.n "int" (by decide)) bt_int) pda_nil))) (by intro _; rfl)) (pds_one (pds_ret (pd_and (pd_callB call_isi cs_isi (by rfl) (Z.n "isinstance" (by decide)) bt_isinstance (pda_cons (pd_var 0 (pv 0)) (pda_cons (pd_ty (by rfl) (Z.n "int" (by decide)) bt_int) pda_nil))) (pd_and (pd_not (pd_callB call_isi cs_isi (by rfl) (Z.n "isinstance" (by decide)) bt_isinstance (pda_cons (pd_var 0 (pv 0)) (pda_cons (pd_ty (by rfl) (Z.n "bool" (by decide)) bt_bool) pda_nil)))) (pd_one (pd_cmp (op_eqD (hu64 hr)) bs_eq (pd_var 0 (pv 0)) (pd_var 1 (pv 1)) (nomark _))))))) pds_nil)
  (pds_cons (pds_if (pdt_val (pd_callB call_isi cs_isi (by rfl) (Z.n "isinstance" (by decide)) bt_isinstance (pda_cons (pd_var 1 (pv 1)) (pda_cons (pd_ty (by rfl) (Z.n "str" (by decide)) bt_str) pda_nil))) (by intro _; rfl)) (pds_one (pds_ret (pd_and (pd_callB call_isi cs_isi (by rfl) (Z.n "isinstance" (by decide)) bt_isinstance (pda_cons (pd_var 0 (pv 0)) (pda_cons (pd_ty (by rfl) (Z.n "str" (by decide)) bt_str) pda_nil))) (pd_one (pd_cmp (op_eqD (hu64 hr)) bs_eq (pd_var 0 (pv 0)) (pd_var 1 (pv 1)) (nomark _)))))) pds_nil)
  (pds_cons (pds_if (pdt_val (pd_callB call_isi cs_isi (by rfl) (Z.n "isinstance" (by decide)) bt_isinstance (pda_cons (pd_var 1 (pv 1)) (pda_cons (pd_ty (by rfl) (Z.n "tuple" (by decide)) bt_tuple) pda_nil))) (by intro _; rfl)) (pds_one (pds_if (PW.pt (pdw_or (pdt_not (pdt_val (pd_callB call_isi cs_isi (by rfl) (Z.n "isinstance" (by decide)) bt_isinstance (pda_cons (pd_var 0 (pv 0)) (pda_cons (pd_ty (by rfl) (Z.n "tuple" (by decide)) bt_tuple) pda_nil))) (by intro _; rfl))) (pdw_or1 (pdt_cmp (op_neD (hu64 hr)) bs_ne (pd_lenV 0 (pv 0) (by rfl) (Z.n "len" (by decide))) (pd_lenV 1 (pv 1) (by rfl) (Z.n "len" (by decide))) (nomark _))))) (pds_one (pds_ret pd_bl)) pds_nil)) (pds_one (pds_if (PW.pt (pdw_or (pdt_not (pdt_val (pd_callB call_isi cs_isi (by rfl) (Z.n "isinstance" (by decide)) bt_isinstance (pda_cons (pd_var 1 (pv 1)) (pda_cons (pd_ty (by rfl) (Z.n "list" (by decide)) bt_list) pda_nil))) (by intro _; rfl))) (pdw_or (pdt_not (pdt_val (pd_callB call_isi cs_isi (by rfl) (Z.n "isinstance" (by decide)) bt_isinstance (pda_cons (pd_var 0 (pv 0)) (pda_cons (pd_ty (by rfl) (Z.n "list" (by decide)) bt_list) pda_nil))) (by intro _; rfl))) (pdw_or1 (pdt_cmp (op_neD (hu64 hr)) bs_ne (pd_lenV 0 (pv 0) (by rfl) (Z.n "len" (by decide))) (pd_lenV 1 (pv 1) (by rfl) (Z.n "len" (by decide))) (nomark _)))))) (pds_one (pds_ret pd_bl)) pds_nil)))
  (pds_cons (pds_for (passes_of rfl) rfl (pdi_range1 (by rfl) (Z.n "range" (by decide)) (pda_cons (pd_lenV 1 (pv 1) (by rfl) (Z.n "len" (by decide))) pda_nil)) (pdg_name 2 (pg_name (i := 2) sc_u_law_same.nd rfl (by first | exact Or.inl rfl | exact Or.inr rfl))) (pds_one (pds_if (pdt_not (pdt_val (pd_fn (n := 2) C_u_law_same hr (by rfl) (takes_of rfl rfl rfl rfl) (by rfl) (pda_cons (pd_ixV 0 (hu1 hr) (pv 0) (pd_var 2 (pv 2))) (pda_cons (pd_ixV 1 (hu1 hr) (pv 1) (pd_var 2 (pv 2))) pda_nil))) (by intro _; rfl))) (pds_one (pds_ret pd_bl)) pds_nil)))
  (pds_one (pds_ret pd_bl))))))))

theorem d_u_law_ask {P : Program} {w : World} {K : PySem.W.Frag} {mg : Str → Option Value} {base : Heap} {S : SK} {k : Nat} {f : Addr} {cdv : Value} {A : Around} {outer : List Env} {s : Shared} {H : Hp} {E : XK} (Z : Bn mg) (XS : Xs K mg xL xF) (IS : Is K mg xL) (VE : mg "ValueError" = none) {f_scene_choices : WF} (C_scene_choices : Cal P w K mg base S k "scene_choices" s_scene_choices ["story", "scene"] f_scene_choices) {f_scene_lines : WF} (C_scene_lines : Cal P w K mg base S k "scene_lines" s_scene_lines ["story", "scene"] f_scene_lines) (hr : Room k (A.deeper (PyProof.Rows.envOfC "_law_ask" (defScope s_u_law_ask) s.heap.objs.size f cdv))) :
    PSs (cxOf (L2.CX P w) P w K mg base N_u_law_ask "_law_ask" (defScope s_u_law_ask) f cdv A outer s H E) (defBody s_u_law_ask) (DS K S mg (fun cls d _ H => E cls d H) (b_u_law_ask f_scene_choices f_scene_lines)) :=
  (pds_one (pds_try XS rfl rfl (takes_of rfl rfl rfl rfl) (fun W pn xe tk1 po1 => (pds_cons (pds_if (pdt_cmp (op_eqD (hu64 hr)) bs_eq (pd_var 0 (pv 0)) pd_str (nomark _)) (pds_one (pds_ret (pd_tup (pda_cons pd_str (pda_cons (pd_fn (n := 2) C_scene_lines hr (by rfl) tk1 (by rfl) (pda_cons (pd_var 1 (pv 1)) (pda_cons (pd_var 2 (pv 2)) pda_nil))) pda_nil))))) pds_nil)
  (pds_one (pds_ret (pd_tup (pda_cons pd_str (pda_cons (pd_fn (n := 2) C_scene_choices hr (by rfl) tk1 (by rfl) (pda_cons (pd_var 1 (pv 1)) (pda_cons (pd_var 2 (pv 2)) pda_nil))) pda_nil))))))) (.as (i := 3) ⟨["NoSuch", "TaleError"], by decide +kernel⟩ (by rfl) (by decide) sc_u_law_ask.nd rfl rfl (fun e eo C dd pn n anc hz hd hl hn => (pds_cons (pds_if (PW.pt (pdw_or (pdt_val (pd_xis 3 IS (by decide +kernel) (by rfl) (by decide) (by rfl) (Z.n "isinstance" (by decide)) hz hd hl hn (pv 3)) (by intro _; rfl)) (pdw_or (pdt_val (pd_xis 3 IS (by decide +kernel) (by rfl) (by decide) (by rfl) (Z.n "isinstance" (by decide)) hz hd hl hn (pv 3)) (by intro _; rfl)) (pdw_or (pdt_val (pd_xis 3 IS (by decide +kernel) (by rfl) (by decide) (by rfl) (Z.n "isinstance" (by decide)) hz hd hl hn (pv 3)) (by intro _; rfl)) (pdw_or1 (pdt_not (pdt_val (pd_xiv 3 IS (by rfl) VE (by rfl) (Z.n "isinstance" (by decide)) hz hd hl hn (pv 3)) (by intro _; rfl)))))))) (pds_one (pds_ret (pd_tup (pda_cons pd_str (pda_cons pd_str (pda_cons pd_str pda_nil)))))) pds_nil)
  (pds_one (pds_ret (pd_tup (pda_cons pd_str (pda_cons (pd_xf 3 XS (by decide) hz hd hl hn (pv 3)) (pda_cons (pd_xf 3 XS (by decide) hz hd hl hn (pv 3)) pda_nil)))))))) .nil)))

theorem d_u_law_looks {P : Program} {w : World} {K : PySem.W.Frag} {mg : Str → Option Value} {base : Heap} {S : SK} {k : Nat} {f : Addr} {cdv : Value} {A : Around} {outer : List Env} {s : Shared} {H : Hp} {E : XK} (Z : Bn mg) {f_u_law_ask : WF} (C_u_law_ask : Cal P w K mg base S k "_law_ask" s_u_law_ask ["word", "story", "scene"] f_u_law_ask) {f_u_law_draw : WF} (C_u_law_draw : Cal P w K mg base S k "_law_draw" s_u_law_draw ["chest", "many", "place"] f_u_law_draw) {f_u_law_most : WF} (C_u_law_most : Cal P w K mg base S k "_law_most" s_u_law_most ["story"] f_u_law_most) {f_u_law_same : WF} (C_u_law_same : Cal P w K mg base S k "_law_same" s_u_law_same ["told", "due"] f_u_law_same) {f_most_number : WF} (C_most_number : Cal P w K mg base S k "most_number" s_most_number ["story"] f_most_number) {f_story_marks : WF} (C_story_marks : Cal P w K mg base S k "story_marks" s_story_marks ["story"] f_story_marks) {f_story_scenes : WF} (C_story_scenes : Cal P w K mg base S k "story_scenes" s_story_scenes ["story"] f_story_scenes) (hr : Room k (A.deeper (PyProof.Rows.envOfC "_law_looks" (defScope s_u_law_looks) s.heap.objs.size f cdv))) :
    PSs (cxOf (L2.CX P w) P w K mg base N_u_law_looks "_law_looks" (defScope s_u_law_looks) f cdv A outer s H E) (defBody s_u_law_looks) (DS K S mg (fun cls d _ H => E cls d H) (b_u_law_looks f_u_law_ask f_u_law_draw f_u_law_most f_u_law_same f_most_number f_story_marks f_story_scenes)) :=
  (pds_cons (pds_setLc (i := 2) (own := [(".0", 9), ("scene", 10)]) rfl sc_u_law_looks.nd rfl rfl (sw_true rfl rfl rfl (by decide +kernel)) (pdi_any (pd_ixV 1 (hu1 hr) (pv 1) pd_int)) (blkOk_by (own := [(".0", 9), ("scene", 10)]) (N := N_u_law_looks) (sc := defScope s_u_law_looks) (by decide +kernel)) (by decide) (fun _ _ _ _ _ => (pdg_name 10 (pg_name (i := 10) sc_u_law_looks.nd rfl (by first | exact Or.inl rfl | exact Or.inr rfl)))) (fun _ _ _ _ _ => pdts_nil) (fun _ _ _ _ _ => (pd_ixV 10 (hu1 hr) (pv 10) pd_int)))
  (pds_cons (pds_setN (i := 3) sc_u_law_looks.nd rfl (by first | exact Or.inl rfl | exact Or.inr rfl) (pd_lst (pda_cons (pd_tup (pda_cons pd_str (pda_cons pd_str pda_nil))) (pda_cons (pd_tup (pda_cons pd_str (pda_cons pd_str pda_nil))) (pda_cons (pd_tup (pda_cons pd_str (pda_cons pd_str pda_nil))) pda_nil)))))
  (pds_cons (pds_for (passes_of rfl) rfl (pdi_any (pd_bin op_add4 bs_add (pd_bin op_add4 bs_add (pd_var 2 (pv 2)) (pd_lst (pda_cons pd_str (pda_cons (pd_bin op_add4 bs_add (pd_ixV 2 (hu1 hr) (pv 2) pd_int) pd_str) (pda_cons (pd_slice (pd_ixV 2 (hu1 hr) (pv 2) (pd_neg pd_int)) pdo_none (pdo_some pd_int)) (pda_cons pd_str (pda_cons pd_str (pda_cons pd_str pda_nil)))))))) (pd_lc (own := [(".0", 9), ("mark", 11)]) rfl sc_u_law_looks.nd (pdi_any (pd_ixV 1 (hu1 hr) (pv 1) pd_int)) (blkOk_by (own := [(".0", 9), ("mark", 11)]) (N := N_u_law_looks) (sc := defScope s_u_law_looks) (by decide +kernel)) (by decide) (fun _ _ _ _ _ => (pdg_name 11 (pg_name (i := 11) sc_u_law_looks.nd rfl (by first | exact Or.inl rfl | exact Or.inr rfl)))) (fun _ _ _ _ _ => pdts_nil) (fun _ _ _ _ _ => (pd_ixV 11 (hu1 hr) (pv 11) pd_int))))) (pdg_name 4 (pg_name (i := 4) sc_u_law_looks.nd rfl (by first | exact Or.inl rfl | exact Or.inr rfl))) (pds_one (pds_if (pdt_cmp op_le2 bs_ord (pd_lenV 4 (pv 4) (by rfl) (Z.n "len" (by decide))) pd_int (nomark _)) (pds_one (pds_expr (pd_ext 3 (pe_bm PySem.F.plainAttrs_list PySem.F.slot_list_extend PySem.F.type_list_extend mt_extend2 (pv 3) (pa_cons (pd_lst (pda_cons (pd_tup (pda_cons pd_str (pda_cons (pd_var 4 (pv 4)) pda_nil))) (pda_cons (pd_tup (pda_cons pd_str (pda_cons (pd_var 4 (pv 4)) pda_nil))) pda_nil))) pa_nil))))) pds_nil)))
  (pds_cons (pds_setN (i := 5) sc_u_law_looks.nd rfl (by first | exact Or.inl rfl | exact Or.inr rfl) (pd_fn (n := 3) C_u_law_draw hr (by rfl) (takes_of rfl rfl rfl rfl) (by rfl) (pda_cons (pd_var 0 (pv 0)) (pda_cons (pd_lenV 3 (pv 3) (by rfl) (Z.n "len" (by decide))) (pda_cons pd_int pda_nil)))))
  (pds_cons (pds_for (passes_of rfl) rfl (pdi_any (pd_slice (pd_bin op_add4 bs_add (pd_var 3 (pv 3)) (pd_var 3 (pv 3))) (pdo_some (pd_var 5 (pv 5))) (pdo_some (pd_bin op_add4 bs_add (pd_var 5 (pv 5)) (pd_lenV 3 (pv 3) (by rfl) (Z.n "len" (by decide))))))) (pdg_tup rfl (pdgs_cons (pdg_name 6 (pg_name (i := 6) sc_u_law_looks.nd rfl (by first | exact Or.inl rfl | exact Or.inr rfl))) (pdgs_cons (pdg_name 4 (pg_name (i := 4) sc_u_law_looks.nd rfl (by first | exact Or.inl rfl | exact Or.inr rfl))) pdgs_nil))) (pds_cons (pds_if (pdt_cmp (op_eqD (hu64 hr)) bs_eq (pd_var 6 (pv 6)) pd_str (nomark _)) (pds_one (pds_par (i := 7) (j := 8) (by decide) (ps_par rfl sc_u_law_looks.nd rfl rfl (by decide) rfl rfl (pa_cons (pd_fn (n := 1) C_story_marks hr (by rfl) (takes_of rfl rfl rfl rfl) (by rfl) (pda_cons (pd_var 1 (pv 1)) pda_nil)) (pa_cons (pd_callTy call_tuple_of cs_tuple (by rfl) (Z.n "tuple" (by decide)) bt_tuple (pda_cons (pd_lc (own := [(".0", 9), ("mark", 11)]) rfl sc_u_law_looks.nd (pdi_any (pd_ixV 1 (hu1 hr) (pv 1) pd_int)) (blkOk_by (own := [(".0", 9), ("mark", 11)]) (N := N_u_law_looks) (sc := defScope s_u_law_looks) (by decide +kernel)) (by decide) (fun _ _ _ _ _ => (pdg_name 11 (pg_name (i := 11) sc_u_law_looks.nd rfl (by first | exact Or.inl rfl | exact Or.inr rfl)))) (fun _ _ _ _ _ => pdts_nil) (fun _ _ _ _ _ => (pd_ixV 11 (hu1 hr) (pv 11) pd_int))) pda_nil)) pa_nil)) (by rfl)))) (pds_one (pds_if (pdt_cmp (op_eqD (hu64 hr)) bs_eq (pd_var 6 (pv 6)) pd_str (nomark _)) (pds_one (pds_par (i := 7) (j := 8) (by decide) (ps_par rfl sc_u_law_looks.nd rfl rfl (by decide) rfl rfl (pa_cons (pd_fn (n := 1) C_story_scenes hr (by rfl) (takes_of rfl rfl rfl rfl) (by rfl) (pda_cons (pd_var 1 (pv 1)) pda_nil)) (pa_cons (pd_callTy call_tuple_of cs_tuple (by rfl) (Z.n "tuple" (by decide)) bt_tuple (pda_cons (pd_var 2 (pv 2)) pda_nil)) pa_nil)) (by rfl)))) (pds_one (pds_if (pdt_cmp (op_eqD (hu64 hr)) bs_eq (pd_var 6 (pv 6)) pd_str (nomark _)) (pds_one (pds_par (i := 7) (j := 8) (by decide) (ps_par rfl sc_u_law_looks.nd rfl rfl (by decide) rfl rfl (pa_cons (pd_fn (n := 1) C_most_number hr (by rfl) (takes_of rfl rfl rfl rfl) (by rfl) (pda_cons (pd_var 1 (pv 1)) pda_nil)) (pa_cons (pd_fn (n := 1) C_u_law_most hr (by rfl) (takes_of rfl rfl rfl rfl) (by rfl) (pda_cons (pd_var 1 (pv 1)) pda_nil)) pa_nil)) (by rfl)))) (pds_one (pds_if (pdt_cmpV 2 (op_in4 (hu65 hr)) bo_in (pd_var 4 (pv 4)) (pv 2) (by rfl)) (pds_cons (pds_setN (i := 7) sc_u_law_looks.nd rfl (by first | exact Or.inl rfl | exact Or.inr rfl) (pd_fn (n := 3) C_u_law_ask hr (by rfl) (takes_of rfl rfl rfl rfl) (by rfl) (pda_cons (pd_var 6 (pv 6)) (pda_cons (pd_var 1 (pv 1)) (pda_cons (pd_var 4 (pv 4)) pda_nil)))))
  (pds_one (pds_setN (i := 8) sc_u_law_looks.nd rfl (by first | exact Or.inl rfl | exact Or.inr rfl) (pd_tup (pda_cons pd_str (pda_cons (pd_ix (hu1 hr) (pd_ix (hu1 hr) (pd_ixV 1 (hu1 hr) (pv 1) pd_int) (pd_meth PySem.F.plainAttrs_list PySem.F.slot_list_index PySem.F.type_list_index mt_index ms_index (pd_var 2 (pv 2)) (pda_cons (pd_var 4 (pv 4)) pda_nil))) (pd_if (pdt_cmp (op_eqD (hu64 hr)) bs_eq (pd_var 6 (pv 6)) pd_str (nomark _)) pd_int pd_int)) pda_nil)))))) (pds_one (pds_par (i := 7) (j := 8) (by decide) (ps_par rfl sc_u_law_looks.nd rfl rfl (by decide) rfl rfl (pa_cons (pd_fn (n := 3) C_u_law_ask hr (by rfl) (takes_of rfl rfl rfl rfl) (by rfl) (pda_cons (pd_var 6 (pv 6)) (pda_cons (pd_var 1 (pv 1)) (pda_cons (pd_var 4 (pv 4)) pda_nil)))) (pa_cons (pd_tup (pda_cons pd_str (pda_cons pd_str (pda_cons (pd_var 4 (pv 4)) pda_nil)))) pa_nil)) (by rfl)))))))))))
  (pds_one (pds_if (pdt_not (pdt_val (pd_fn (n := 2) C_u_law_same hr (by rfl) (takes_of rfl rfl rfl rfl) (by rfl) (pda_cons (pd_var 7 (pv 7)) (pda_cons (pd_var 8 (pv 8)) pda_nil))) (by intro _; rfl))) (pds_one (pds_ret pd_bl)) pds_nil))))
  (pds_one (pds_ret pd_bl)))))))

theorem d_law {P : Program} {w : World} {K : PySem.W.Frag} {mg : Str → Option Value} {base : Heap} {C : Option (List Key) → List BxC → Prop} {k : Nat} {f : Addr} {cdv : Value} {A : Around} {outer : List Env} {s : Shared} {H : Hp} {E : XK} (Z : Bn mg) {f_u_law_chest : WF} (C_u_law_chest : Cal P w K mg base (skOf K C) k "_law_chest" s_u_law_chest ["script"] f_u_law_chest) {f_u_law_draw : WF} (C_u_law_draw : Cal P w K mg base (skOf K C) k "_law_draw" s_u_law_draw ["chest", "many", "place"] f_u_law_draw) {f_u_law_looks : WF} (C_u_law_looks : Cal P w K mg base (skOf K C) k "_law_looks" s_u_law_looks ["chest", "story"] f_u_law_looks) {f_u_law_story : WF} (C_u_law_story : Cal P w K mg base (skOf K C) k "_law_story" s_u_law_story ["chest", "scenes", "marks", "most", "full"] f_u_law_story) {f_u_law_with : WF} (C_u_law_with : Cal P w K mg base (skOf K C) k "_law_with" s_u_law_with ["chest", "story", "number"] f_u_law_with) (hr : Room k (A.deeper (PyProof.Rows.envOfC "law" (defScope s_law) s.heap.objs.size f cdv))) :
    PSs (cxOf (L2.CX P w) P w K mg base N_law "law" (defScope s_law) f cdv A outer s H E) (defBody s_law) (TL K (skOf K C) (g_law C f_u_law_chest f_u_law_draw f_u_law_looks f_u_law_story f_u_law_with)) :=
  (tl_cons (W := fun cls d _ H => E cls d H) (pds_setN (i := 1) sc_law.nd rfl (by first | exact Or.inl rfl | exact Or.inr rfl) (pd_fn (n := 1) C_u_law_chest hr (by rfl) (takes_of rfl rfl rfl rfl) (by rfl) (pda_cons (pd_var 0 (pv 0)) pda_nil)))
  (tl_cons (W := fun cls d _ H => E cls d H) (pds_setN (i := 2) sc_law.nd rfl (by first | exact Or.inl rfl | exact Or.inr rfl) (pd_cmp (op_eqD (hu64 hr)) bs_eq (pd_bin op_mod bs_mod (pd_callTy call_int1 cs_int (by rfl) (Z.n "int" (by decide)) bt_int (pda_cons (pd_ixV 1 (hu1 hr) (pv 1) pd_int) pda_nil)) pd_int) pd_int (nomark _)))
  (tl_shut (W := fun cls d _ H => E cls d H) 1 (pds_cons (pds_asg (pd_if (pdt_val (pd_var 2 (pv 2)) (by intro _; rfl)) (pd_tup (pda_cons pd_int (pda_cons pd_int pda_nil))) (pd_tup (pda_cons (pd_bin op_add4 bs_add pd_int (pd_fn (n := 3) C_u_law_draw hr (by rfl) (takes_of rfl rfl rfl rfl) (by rfl) (pda_cons (pd_var 1 (pv 1)) (pda_cons pd_int (pda_cons pd_int pda_nil))))) (pda_cons (pd_fn (n := 3) C_u_law_draw hr (by rfl) (takes_of rfl rfl rfl rfl) (by rfl) (pda_cons (pd_var 1 (pv 1)) (pda_cons pd_int (pda_cons pd_int pda_nil)))) pda_nil)))) (pdg_tup rfl (pdgs_cons (pdg_name 3 (pg_name (i := 3) sc_law.nd rfl (by first | exact Or.inl rfl | exact Or.inr rfl))) (pdgs_cons (pdg_name 4 (pg_name (i := 4) sc_law.nd rfl (by first | exact Or.inl rfl | exact Or.inr rfl))) pdgs_nil))))
  (pds_cons (pds_setN (i := 5) sc_law.nd rfl (by first | exact Or.inl rfl | exact Or.inr rfl) (pd_fn (n := 5) C_u_law_story hr (by rfl) (takes_of rfl rfl rfl rfl) (by rfl) (pda_cons (pd_var 1 (pv 1)) (pda_cons (pd_var 3 (pv 3)) (pda_cons (pd_var 4 (pv 4)) (pda_cons pd_int (pda_cons (pd_var 2 (pv 2)) pda_nil)))))))
  (pds_cons (pds_setN (i := 6) sc_law.nd rfl (by first | exact Or.inl rfl | exact Or.inr rfl) (pd_fn (n := 3) C_u_law_draw hr (by rfl) (takes_of rfl rfl rfl rfl) (by rfl) (pda_cons (pd_var 1 (pv 1)) (pda_cons pd_int (pda_cons pd_int pda_nil)))))
  (pds_cons (pds_setN (i := 7) sc_law.nd rfl (by first | exact Or.inl rfl | exact Or.inr rfl) (pd_fn (n := 5) C_u_law_story hr (by rfl) (takes_of rfl rfl rfl rfl) (by rfl) (pda_cons (pd_var 1 (pv 1)) (pda_cons (pd_bin op_add4 bs_add pd_int (pd_fn (n := 3) C_u_law_draw hr (by rfl) (takes_of rfl rfl rfl rfl) (by rfl) (pda_cons (pd_var 1 (pv 1)) (pda_cons pd_int (pda_cons pd_int pda_nil))))) (pda_cons (pd_callB (call_min2 rfl) cs_min2 (by rfl) (Z.n "min" (by decide)) bt_min (pda_cons pd_int (pda_cons (pd_fn (n := 3) C_u_law_draw hr (by rfl) (takes_of rfl rfl rfl rfl) (by rfl) (pda_cons (pd_var 1 (pv 1)) (pda_cons pd_int (pda_cons pd_int pda_nil)))) pda_nil))) (pda_cons (pd_var 6 (pv 6)) (pda_cons pd_bl pda_nil)))))))
  (pds_cons (pds_setN (i := 8) sc_law.nd rfl (by first | exact Or.inl rfl | exact Or.inr rfl) (pd_tup (pda_cons (pd_ixV 5 (hu1 hr) (pv 5) pd_int) (pda_cons pd_int (pda_cons pd_str (pda_cons (pd_tup (pda_cons (pd_tup (pda_cons pd_str (pda_cons (pd_tup pda_nil) (pda_cons (pd_tup pda_nil) pda_nil)))) pda_nil)) pda_nil))))))
  (pds_cons (pds_setN (i := 9) sc_law.nd rfl (by first | exact Or.inl rfl | exact Or.inr rfl) (pd_lst (pda_cons (pd_var 5 (pv 5)) (pda_cons (pd_var 7 (pv 7)) (pda_cons (pd_fn (n := 3) C_u_law_with hr (by rfl) (takes_of rfl rfl rfl rfl) (by rfl) (pda_cons (pd_var 1 (pv 1)) (pda_cons (pd_var 7 (pv 7)) (pda_cons (pd_bin op_add4 bs_add (pd_var 6 (pv 6)) pd_int) pda_nil)))) (pda_cons (pd_var 8 (pv 8)) (pda_cons (pd_fn (n := 3) C_u_law_with hr (by rfl) (takes_of rfl rfl rfl rfl) (by rfl) (pda_cons (pd_var 1 (pv 1)) (pda_cons (pd_var 8 (pv 8)) (pda_cons (pd_bin op_add4 bs_add pd_int (pd_fn (n := 3) C_u_law_draw hr (by rfl) (takes_of rfl rfl rfl rfl) (by rfl) (pda_cons (pd_var 1 (pv 1)) (pda_cons pd_int (pda_cons pd_int pda_nil))))) pda_nil)))) pda_nil)))))))
  (pds_cons (pds_setN (i := 10) sc_law.nd rfl (by first | exact Or.inl rfl | exact Or.inr rfl) (pd_fn (n := 3) C_u_law_draw hr (by rfl) (takes_of rfl rfl rfl rfl) (by rfl) (pda_cons (pd_var 1 (pv 1)) (pda_cons pd_int (pda_cons pd_int pda_nil)))))
  (pds_cons (pds_for (passes_of rfl) rfl (pdi_any (pd_slice (pd_bin op_add4 bs_add (pd_var 9 (pv 9)) (pd_var 9 (pv 9))) (pdo_some (pd_var 10 (pv 10))) (pdo_some (pd_bin op_add4 bs_add (pd_var 10 (pv 10)) pd_int)))) (pdg_name 11 (pg_name (i := 11) sc_law.nd rfl (by first | exact Or.inl rfl | exact Or.inr rfl))) (pds_one (pds_if (pdt_not (pdt_val (pd_fn (n := 2) C_u_law_looks hr (by rfl) (takes_of rfl rfl rfl rfl) (by rfl) (pda_cons (pd_var 1 (pv 1)) (pda_cons (pd_var 11 (pv 11)) pda_nil))) (by intro _; rfl))) (pds_one (pds_ret pd_bl)) pds_nil)))
  (pds_one (pds_ret (pd_fn (n := 2) C_u_law_looks hr (by rfl) (takes_of rfl rfl rfl rfl) (by rfl) (pda_cons (pd_var 1 (pv 1)) (pda_cons (pd_var 5 (pv 5)) pda_nil))))))))))))))))

theorem ln_0 : (Str.ofString "").length = 0 := by decide +kernel
theorem ln_1 : (Str.ofString "0").length = 1 := by decide +kernel
theorem ln_2 : (Str.ofString "7").length = 1 := by decide +kernel
theorem ln_3 : (Str.ofString "9").length = 1 := by decide +kernel
theorem ln_4 : (Str.ofString "a dark hall").length = 11 := by decide +kernel
theorem ln_5 : (Str.ofString "a line").length = 6 := by decide +kernel
theorem ln_6 : (Str.ofString "a").length = 1 := by decide +kernel
theorem ln_7 : (Str.ofString "ahead").length = 5 := by decide +kernel
theorem ln_8 : (Str.ofString "always").length = 6 := by decide +kernel
theorem ln_9 : (Str.ofString "and").length = 3 := by decide +kernel
theorem ln_10 : (Str.ofString "b").length = 1 := by decide +kernel
theorem ln_11 : (Str.ofString "choices").length = 7 := by decide +kernel
theorem ln_12 : (Str.ofString "dig").length = 3 := by decide +kernel
theorem ln_13 : (Str.ofString "first").length = 5 := by decide +kernel
theorem ln_14 : (Str.ofString "go").length = 2 := by decide +kernel
theorem ln_15 : (Str.ofString "gold").length = 4 := by decide +kernel
theorem ln_16 : (Str.ofString "h").length = 1 := by decide +kernel
theorem ln_17 : (Str.ofString "hal").length = 3 := by decide +kernel
theorem ln_18 : (Str.ofString "hall").length = 4 := by decide +kernel
theorem ln_19 : (Str.ofString "hallway").length = 7 := by decide +kernel
theorem ln_20 : (Str.ofString "has").length = 3 := by decide +kernel
theorem ln_21 : (Str.ofString "k9").length = 2 := by decide +kernel
theorem ln_22 : (Str.ofString "last").length = 4 := by decide +kernel
theorem ln_23 : (Str.ofString "lines").length = 5 := by decide +kernel
theorem ln_24 : (Str.ofString "marks").length = 5 := by decide +kernel
theorem ln_25 : (Str.ofString "most").length = 4 := by decide +kernel
theorem ln_26 : (Str.ofString "no").length = 2 := by decide +kernel
theorem ln_27 : (Str.ofString "not").length = 3 := by decide +kernel
theorem ln_28 : (Str.ofString "nowhere9").length = 8 := by decide +kernel
theorem ln_29 : (Str.ofString "odd").length = 3 := by decide +kernel
theorem ln_30 : (Str.ofString "on").length = 2 := by decide +kernel
theorem ln_31 : (Str.ofString "only").length = 4 := by decide +kernel
theorem ln_32 : (Str.ofString "or").length = 2 := by decide +kernel
theorem ln_33 : (Str.ofString "pit").length = 3 := by decide +kernel
theorem ln_34 : (Str.ofString "q").length = 1 := by decide +kernel
theorem ln_35 : (Str.ofString "refused").length = 7 := by decide +kernel
theorem ln_36 : (Str.ofString "scene").length = 5 := by decide +kernel
theorem ln_37 : (Str.ofString "scenes").length = 6 := by decide +kernel
theorem ln_38 : (Str.ofString "take the lamp again and again").length = 29 := by decide +kernel
theorem ln_39 : (Str.ofString "told").length = 4 := by decide +kernel
theorem ln_40 : (Str.ofString "turn").length = 4 := by decide +kernel
theorem ln_41 : (Str.ofString "x y").length = 3 := by decide +kernel
theorem ln_42 : (Str.ofString "x").length = 1 := by decide +kernel
theorem ln_43 : (Str.ofString "yes").length = 3 := by decide +kernel
theorem ln_44 : (Str.ofString "z").length = 1 := by decide +kernel
theorem ln_45 : (Str.ofString "zz9").length = 3 := by decide +kernel
theorem ln_46 : (Str.ofString "zzzy").length = 4 := by decide +kernel
theorem ln_47 : (Str.ofString "zzzz").length = 4 := by decide +kernel
end Nk05

set_option maxHeartbeats 4000000
namespace Nk05
open PySem PySem.Spec L2 DL
local macro_rules | `(tactic| walk_at "dl") => `(tactic| simp (config := { failIfUnchanged := false, maxSteps := 2000000 }) only [↓wVar_q, lx_TaleError, ht_0, ht_1, ht_2, ht_3, ht_4, lx_BadStory, ht_5, ht_6, ht_7, ht_8, ht_9, vx_BadStory_scene, vx_BadStory_place, vx_BadStory_word, lx_BadStep, ht_10, ht_11, ht_12, ht_13, ht_14, vx_BadStep_word, lx_NoSuch, ht_15, ht_16, ht_17, ht_18, ht_19, vx_NoSuch_word, vx_NoSuch_name, lx_Taken, ht_20, ht_21, ht_22, ht_23, ht_24, vx_Taken_name, ln_0, ln_1, ln_2, ln_3, ln_4, ln_5, ln_6, ln_7, ln_8, ln_9, ln_10, ln_11, ln_12, ln_13, ln_14, ln_15, ln_16, ln_17, ln_18, ln_19, ln_20, ln_21, ln_22, ln_23, ln_24, ln_25, ln_26, ln_27, ln_28, ln_29, ln_30, ln_31, ln_32, ln_33, ln_34, ln_35, ln_36, ln_37, ln_38, ln_39, ln_40, ln_41, ln_42, ln_43, ln_44, ln_45, ln_46, ln_47, ↓wC_q, ↓wBin_q, ↓wUn_q, ↓wB_e, ↓wAnd_q, ↓wOr_q, ↓wNot_q, ↓wAndV_q, ↓wOrV_q, ↓wNotV_q, ↓wIfE_q, ↓wChain_q, ↓wNil_q, ↓wCons_q, ↓wTup_q, ↓wLst_q, ↓wCB_q, ↓Rd_v, ↓Rd_l, ↓Rd_d, ↓Rs_v, ↓Rs_l, ↓Rs_d,
  ↓wAdd_i, ↓wAdd_s, ↓wAdd_l, ↓wAdd_t, ↓wSub_i, ↓wMul_i, ↓wMul_l, ↓wMul_s, ↓wMod_i, ↓wDiv_i, ↓wPow_i, ↓wShl_i, ↓wShr_i, ↓wBAnd_i, ↓wBOr_i, ↓wBXor_i, ↓wLt_i, ↓wLe_i, ↓wGt_i, ↓wGe_i, ↓wLt_s, ↓wGt_s, ↓wEq_i, ↓wNe_i, ↓wEq_s, ↓wNe_s, ↓wEq_b, ↓wNe_b, ↓wIsN_n, ↓wNotN_n, ↓wIsN_t, ↓wNotN_t, ↓wIsN_i, ↓wNotN_i, ↓wIsN_s, ↓wNotN_s,
  ↓wIx_t, ↓wIx_l, ↓wIx_f, ↓wIx_d, ↓ixK_0, ↓ixK_1, ↓ixK_2, ↓ixK_3, ↓ixK_4, ↓ixK_5, ↓len_t, ↓len_l, ↓len_f, ↓len_s, ↓len_d, ↓lenK_s, ↓wLen_1, ↓wLenV_e, ↓items_t, ↓items_l, ↓items_f, ↓items_s, ↓asInt_i, ↓asInt_b, ↓wIter_e, ↓wInt_1, ↓wAbs_1, ↓wMax_1, ↓wMin_1, ↓wList_l, ↓wList_t, ↓wList_f, ↓wList_s, ↓wTuple_l, ↓wTuple_t, ↓wAll_1, ↓wAny_1, ↓wSum_1, ↓wIsi_1, ↓ty_i, ↓ty_b, ↓ty_s, ↓ty_t, ↓ty_l, ↓ty_f, ↓ty_n, ↓wNeg_i, ↓wRng1_e, ↓wRng2_e,
  ↓isLst_l, ↓wAppend_e, ↓wPop_e, ↓wSetIx_e, ↓look_s, ↓wVB_e, ↓wBV_e, ↓isInt_i, ↓wAugI_e, ↓wIn_e, ↓inK_s, ↓wGtup_e, ↓wGcons_e, ↓wGnil_e, ↓bxGo_q, ↓isBx_b, ↓bxIn_e, ↓bxPos_i, ↓wBIx_e, ↓wBSet_e, ↓lsK_l, ↓wBAppend_e, ↓wBPop_e, ↓wBPopAt_e, ↓wBInsert_e, ↓refK_l, ↓wBLen_e, ↓wBIx2_e, ↓bxv_lf, ↓bxr_ls, ↓bxr_dc, ↓bxa_ls, ↓bxa_lf, ↓bxK_n, ↓bxK_v, ↓bxK_l, ↓wSl_t, ↓wSl_l, ↓wSl_f, ↓wSl_s, ↓mT_q, ↓isT_e, ↓in_ints, ↓in_intsL,
  ↓wMeth_q, ↓wXis_q, ↓wXiv_q, ↓wExt_q, ↓seqD_l, ↓seqD_t, ↓seqK_s, ↓wSrtSet_q, ↓wTxt_up, ↓wTry_e, ↓wHds_n, ↓wHds_c, ↓inX_n, ↓inX_s, ↓bindX_n, ↓bindX_s, ↓clrX_n, ↓clrX_s, ↓unX_e, ↓xcK_s, ↓wXf_e, ↓wRaise_e, ↓lkK_s, ↓tyD_s, ↓tyD_l, ↓tyD_d, ↓wTr_e, ↓truK_s, ↓tru_b, ↓tru_i, ↓tru_s, ↓tru_n, ↓tru_t, ↓tru_l, ↓tru_f, ↓tru_d, ↓oneK_1, ↓lstK_l, ↓lstK_f, ↓wEnum_e, ↓wRevd_e, ↓keyK1_s, ↓keyOf_i, ↓keyOf_s, ↓wPrs_0, ↓wPrs_1, ↓wDc_q, ↓wDisp_q, ↓wN_q, ↓wNext_q, ↓wSeq_q, ↓wBrk_q, ↓wCt_q, ↓wDrop_q, ↓wRet_q, ↓wMov_q, ↓wRetN_q, ↓wSet_q, ↓wAsg_q, ↓wIf_q, ↓wForS_q, ↓look_q, ↓wNoP_q, ↓wPt_e, ↓wSlice_q, ↓wSliceV_e, ↓wLc_q, ↓wLc2_q, ↓wYes_q, ↓wPar_q, ↓wFn_q, ↓wCall_q, ↓wFnK_q, ↓wFnK0_q, ↓wCallK_q, ↓pk_q, ↓wBox_q, ↓wONil_q, ↓wOCons_q, ↓ini_q, ↓ixN,
  List.getElem?_cons_zero, List.getElem?_cons_succ, List.getElem?_nil, List.set_cons_zero, List.set_cons_succ, List.length_cons, List.length_nil, List.map_cons, List.map_nil, List.cons_append, List.nil_append, List.replicate, List.length_map, List.length_set, List.length_replicate, List.length_append, sapp_len, s1_len, repS_len,
  wipeG, sv, DL.rest, List.filterMap_cons, List.filterMap_nil, isi_ib, isi_ii, isi_bb, isi_bi, isi_tt, isi_it, isi_ti, isi_tb, isi_bt,
  and_true, true_and, and_self, true_or, or_true, ite_true, ite_false, if_true, if_false, reduceIte, decide_eq_true_eq, decide_eq_false_iff_not, Bool.not_eq_true', Nat.reduceAdd, Nat.reduceSub, Nat.reduceLT, Nat.reduceLeDiff, Int.reduceLT, Int.reduceLE, Int.reduceNeg, Int.reduceToNat, Int.reduceAdd, Int.reduceSub, Int.reduceMul, Int.reducePow, Nat.zero_add, Int.cast_ofNat_Int, reduceCtorEq, false_and, and_false, exists_false, false_or, or_false, not_false_eq_true, not_true_eq_false, Bool.false_eq_true, Bool.true_eq_false, Bool.not_true, Bool.not_false, decide_true, decide_false, szL, szL', forall_const, exists_const, implies_true, true_implies])
local macro_rules | `(tactic| walk_at "cm") => `(tactic| first
  | trivial
  | exact cmulR (by decide) (by decide) | exact cmulL (by decide) (by decide)
  | exact cmulR (by omega) (by omega) | exact cmulL (by omega) (by omega)
  | exact sz (by decide) | exact sz (by omega) | exact sz' (by omega)
  | exact (show CDiv _ _ from ⟨by omega, by omega⟩)
  | exact (show CPow _ _ from ⟨by omega, by omega, by decide⟩)
  | decide | omega)
local macro_rules | `(tactic| walk_at "cs") => `(tactic| repeat' (first | (refine And.intro ?_ ?_ <;> first | (walk_at "cm"; done) | skip) | fail))
local macro_rules | `(tactic| walk_at "sl") => `(tactic| (first | refine sz ?_ | refine sz' ?_ | skip) <;> (try simp only [sapp_len, s1_len, repS_len, ln_0, ln_1, ln_2, ln_3, ln_4, ln_5, ln_6, ln_7, ln_8, ln_9, ln_10, ln_11, ln_12, ln_13, ln_14, ln_15, ln_16, ln_17, ln_18, ln_19, ln_20, ln_21, ln_22, ln_23, ln_24, ln_25, ln_26, ln_27, ln_28, ln_29, ln_30, ln_31, ln_32, ln_33, ln_34, ln_35, ln_36, ln_37, ln_38, ln_39, ln_40, ln_41, ln_42, ln_43, ln_44, ln_45, ln_46, ln_47]) <;> omega)
local macro_rules | `(tactic| walk_at "an") => `(tactic| repeat ((with_reducible refine And.intro ?_ ?_); (focus (first | (walk_at "sl"; done) | (walk_at "cm"; done)))))
/-! ### conditions -/
inductive Cd where
  | al
  | has (s : Str)
  | gold (n : Int)
  | no (c : Cd)
  | many (a : Bool) (cs : List Cd)
mutual
def Cd.d : Cd → D
  | .al => .tup [.str "always"]
  | .has s => .tup [.str "has", .str s]
  | .gold n => .tup [.str "gold", .int n]
  | .no c => .tup [.str "not", c.d]
  | .many true cs => .tup [.str "and", .tup (Cd.ds cs)]
  | .many false cs => .tup [.str "or", .tup (Cd.ds cs)]
def Cd.ds : List Cd → List D
  | [] => []
  | c :: cs => c.d :: Cd.ds cs
end
mutual
def Cd.sz : Cd → Nat
  | .al => 1
  | .has _ => 1
  | .gold _ => 1
  | .no c => c.sz + 1
  | .many _ cs => Cd.szs cs + 1
def Cd.szs : List Cd → Nat
  | [] => 0
  | c :: cs => c.sz + Cd.szs cs
end
mutual
def Cd.lv : Cd → List Cd
  | .al => [.al]
  | .has s => [.has s]
  | .gold n => [.gold n]
  | .no c => c.lv
  | .many _ cs => Cd.lvs cs
def Cd.lvs : List Cd → List Cd
  | [] => []
  | c :: cs => c.lv ++ Cd.lvs cs
end
mutual
def Cd.hold (ms : List Str) (g : Int) : Cd → Bool
  | .al => true
  | .has s => decide (s ∈ ms)
  | .gold n => decide (g ≥ n)
  | .no c => !c.hold ms g
  | .many true cs => (Cd.holds ms g cs).all id
  | .many false cs => (Cd.holds ms g cs).any id
def Cd.holds (ms : List Str) (g : Int) : List Cd → List Bool
  | [] => []
  | c :: cs => c.hold ms g :: Cd.holds ms g cs
end
theorem ds_map : ∀ cs : List Cd, Cd.ds cs = cs.map Cd.d
  | [] => rfl
  | c :: cs => by rw [Cd.ds, ds_map cs]; rfl
theorem holds_map (ms g) : ∀ cs : List Cd, Cd.holds ms g cs = cs.map (Cd.hold ms g)
  | [] => rfl
  | c :: cs => by rw [Cd.holds, holds_map ms g cs]; rfl
theorem sz_pos : ∀ c : Cd, 1 ≤ c.sz
  | .al => Nat.le_refl _
  | .has _ => Nat.le_refl _
  | .gold _ => Nat.le_refl _
  | .no c => by rw [Cd.sz]; omega
  | .many _ cs => by rw [Cd.sz]; omega
theorem szs_app : ∀ a b : List Cd, Cd.szs (a ++ b) = Cd.szs a + Cd.szs b
  | [], b => by simp [Cd.szs]
  | c :: a, b => by rw [List.cons_append, Cd.szs, Cd.szs, szs_app a b]; omega
theorem lvs_app : ∀ a b : List Cd, Cd.lvs (a ++ b) = Cd.lvs a ++ Cd.lvs b
  | [], b => by simp [Cd.lvs]
  | c :: a, b => by rw [List.cons_append, Cd.lvs, Cd.lvs, lvs_app a b, List.append_assoc]
theorem szs_mem : ∀ (cs : List Cd) (c : Cd), c ∈ cs → c.sz ≤ Cd.szs cs
  | c' :: cs, c, h => by
    rw [Cd.szs]
    rcases List.mem_cons.mp h with e | h
    · subst e; omega
    · have := szs_mem cs c h; omega
theorem szs_len : ∀ cs : List Cd, cs.length ≤ Cd.szs cs
  | [] => Nat.le_refl _
  | c :: cs => by rw [Cd.szs, List.length_cons]; have := szs_len cs; have := sz_pos c; omega
mutual
theorem lv_len : ∀ c : Cd, c.lv.length ≤ c.sz
  | .al => Nat.le_refl _
  | .has _ => Nat.le_refl _
  | .gold _ => Nat.le_refl _
  | .no c => by rw [Cd.lv, Cd.sz]; have := lv_len c; omega
  | .many _ cs => by rw [Cd.lv, Cd.sz]; have := lvs_len cs; omega
theorem lvs_len : ∀ cs : List Cd, (Cd.lvs cs).length ≤ Cd.szs cs
  | [] => Nat.le_refl _
  | c :: cs => by rw [Cd.lvs, Cd.szs, List.length_append]; have := lvs_len cs; have := lv_len c; omega
end
/-- straight within -/
def Cd.wi : Cd → List Cd
  | .no c => [c]
  | .many _ cs => cs
  | _ => []
/-- a leaf -/
def Cd.lf : Cd → Bool
  | .no _ => false
  | .many _ _ => false
  | _ => true
theorem sz_wi (c : Cd) : c.sz = Cd.szs c.wi + 1 := by
  cases c <;> simp [Cd.sz, Cd.wi, Cd.szs]
theorem lv_lf {c : Cd} (h : c.lf = true) : c.lv = [c] ∧ c.wi = [] := by
  cases c <;> simp [Cd.lf, Cd.lv, Cd.wi] at h ⊢
theorem lv_wi {c : Cd} (h : c.lf = false) : c.lv = Cd.lvs c.wi := by
  cases c <;> simp [Cd.lf, Cd.lv, Cd.wi, Cd.lvs] at h ⊢
/-- the marks of the leaves are texts that the model can keep -/
def Cd.mk (c : Cd) : Prop := ∀ s, Cd.has s ∈ c.lv → SOk s
theorem mem_lvs : ∀ (cs : List Cd) (x : Cd), x ∈ Cd.lvs cs ↔ ∃ c ∈ cs, x ∈ c.lv
  | [], x => by simp [Cd.lvs]
  | c :: cs, x => by rw [Cd.lvs, List.mem_append, mem_lvs cs x]; simp

/-! ### the program's -/
theorem strs_plain : ∀ l : List Str, D.plains (l.map D.str) = true
  | [] => rfl
  | _ :: l => by simp [D.plains, D.plain, strs_plain l]
theorem strs_any (g : Str) : ∀ l : List Str, ((l.map D.str).any fun z => D.eqv z (.str g)) = decide (g ∈ l)
  | [] => by simp
  | n :: l => by
    rw [List.map_cons, List.any_cons, strs_any g l, eqv_str]
    by_cases h : n = g
    · subst h; simp
    · simp [h, Ne.symm h]
theorem in_strsT (g : Str) (l : List Str) : D.inOk (.str g) (.tup (l.map D.str)) = some (decide (g ∈ l)) := by
  simp only [D.inOk, strs_plain, strs_any]
  simp [D.plain, D.py, PyData.depth]
theorem in_two (g : Str) : D.inOk (.str g) (.tup [.str "and", .str "or"]) = some (decide (g ∈ (["and", "or"] : List Str))) := in_strsT g ["and", "or"]
theorem k1 : decide ((Str.ofString "always") ∈ (["and", "or"] : List Str)) = false := by decide
theorem k2 : decide ((Str.ofString "has") ∈ (["and", "or"] : List Str)) = false := by decide
theorem k3 : decide ((Str.ofString "gold") ∈ (["and", "or"] : List Str)) = false := by decide
theorem k4 : decide ((Str.ofString "not") ∈ (["and", "or"] : List Str)) = false := by decide
theorem k5 : decide ((Str.ofString "and") ∈ (["and", "or"] : List Str)) = true := by decide
theorem k6 : decide ((Str.ofString "or") ∈ (["and", "or"] : List Str)) = true := by decide
def f_conditions_within : WF := fun ds rt _ => ∃ c : Cd, ds = [c.d] ∧ rt (.val (.tup (Cd.ds c.wi)))
theorem h_conditions_within (ds rt xp) (h : f_conditions_within ds rt xp) : b_conditions_within (ini N_conditions_within.length ds) (mR rt xp) := by
  obtain ⟨c, rfl, hr⟩ := h
  rcases c with _ | s | n | c | ⟨a, cs⟩
  case many =>
    cases a <;> (rw [Cd.d]; simp only [b_conditions_within, b_conditions_within_1, t_conditions_within_2, b_conditions_within_2]; walk_at "dl"; rw [in_two]; simp only [k1, k2, k3, k4, k5, k6]; walk_at "dl"; exact hr)
  all_goals (rw [Cd.d]; simp only [b_conditions_within, b_conditions_within_1, t_conditions_within_2, b_conditions_within_2]; walk_at "dl"; rw [in_two]; simp only [k1, k2, k3, k4, k5, k6]; walk_at "dl"; exact hr)
def f_condition_parts : WF := fun ds rt _ => ∃ c : Cd, ds = [c.d] ∧ c.sz ≤ 60 ∧ ∀ ps : List Cd, ps.length ≤ c.sz → (∀ x, x.lf = true → (x ∈ ps ↔ x ∈ c.lv)) → rt (.lst (Cd.ds ps))
theorem ds_len (cs : List Cd) : (Cd.ds cs).length = cs.length := by rw [ds_map, List.length_map]
theorem ds_app (a b : List Cd) : Cd.ds (a ++ b) = Cd.ds a ++ Cd.ds b := by rw [ds_map, ds_map, ds_map, List.map_append]
theorem h_condition_parts (ds rt xp) (h : f_condition_parts ds rt xp) : b_condition_parts f_conditions_within (ini N_condition_parts.length ds) (mR rt xp) := by
  obtain ⟨c, rfl, hz, hr⟩ := h
  unfold b_condition_parts b_condition_parts_2
  walk_at "dl"
  rw [t_condition_parts_2_e]
  unfold b_condition_parts_3
  refine wWh_run (fun n Γ => ∃ (F W : List Cd) (y3 : Option R), n = Cd.szs W ∧ F.length + Cd.szs W ≤ c.sz ∧ (∀ x, x.lf = true → ((x ∈ F ∨ x ∈ Cd.lvs W) ↔ x ∈ c.lv)) ∧ Γ = [some (.val c.d), some (.lst (Cd.ds F)), some (.lst (Cd.ds W)), y3]) (fun n Γ k hI hk => ?_) (n := c.sz) ⟨[], [c], none, by simp [Cd.szs], by simp [Cd.szs], fun x _ => by simp [Cd.lvs], rfl⟩
  obtain ⟨F, W, y3, hn, hl, hm, rfl⟩ := hI
  walk_at "dl"
  rw [ds_len]
  refine ite2 (fun hW => ?_) fun hW => ?_
  · obtain ⟨p, hp⟩ : ∃ p, W = W.dropLast ++ [p] := ⟨W.getLast (by intro e; subst e; simp at hW), (List.dropLast_concat_getLast _).symm⟩
    generalize W.dropLast = V at hp
    subst hp
    have e1 : Cd.szs [p] = Cd.szs p.wi + 1 := by rw [Cd.szs, Cd.szs, sz_wi p]
    rw [szs_app, e1] at hn hl
    have zl := szs_len p.wi
    have zv := szs_len V
    unfold b_condition_parts_1
    rw [ds_app, Cd.ds, Cd.ds]
    walk_at "dl"
    refine ⟨p.d, by rw [Nat.add_sub_cancel, List.getElem?_append_right (Nat.le_refl _)]; simp, ?_⟩
    walk_at "dl"
    refine ⟨sz (by rw [ds_len]; omega), ?_⟩
    refine ⟨p, rfl, ?_⟩
    walk_at "dl"
    rw [List.dropLast_concat, ds_len, ds_len]
    refine ⟨sz (by omega), hk (Cd.szs (V ++ p.wi)) _ (by rw [szs_app]; omega) ⟨F ++ [p], V ++ p.wi, _, rfl, by rw [szs_app]; simp; omega, fun x hx => ?_, by rw [ds_app, ds_app, Cd.ds, Cd.ds]⟩⟩
    rw [← hm x hx, lvs_app, lvs_app]
    cases hp : p.lf with
    | true =>
      obtain ⟨q1, q2⟩ := lv_lf hp
      rw [q2]
      simp [Cd.lvs, q1]
      constructor
      · rintro ((h | h) | h)
        · exact .inl h
        · exact .inr (.inr h)
        · exact .inr (.inl h)
      · rintro (h | h | h)
        · exact .inl (.inl h)
        · exact .inr h
        · exact .inl (.inr h)
    | false =>
      have q1 := lv_wi hp
      have ne : x ≠ p := fun e => by rw [e, hp] at hx; cases hx
      simp [Cd.lvs, q1, ne]
  · have e : W = [] := List.eq_nil_of_length_eq_zero (by omega)
    subst e
    walk_at "dl"
    rw [t_condition_parts_3_e]
    walk_at "dl"
    exact hr F (by simp [Cd.szs] at hl; omega) fun x hx => by rw [← hm x hx]; simp [Cd.lvs]
theorem nk_0 : (Str.ofString "always" = Str.ofString "has") = False := eq_false (by decide)
theorem nk_1 : (Str.ofString "always" = Str.ofString "gold") = False := eq_false (by decide)
theorem nk_2 : (Str.ofString "always" = Str.ofString "not") = False := eq_false (by decide)
theorem nk_3 : (Str.ofString "always" = Str.ofString "and") = False := eq_false (by decide)
theorem nk_4 : (Str.ofString "always" = Str.ofString "or") = False := eq_false (by decide)
theorem nk_5 : (Str.ofString "has" = Str.ofString "always") = False := eq_false (by decide)
theorem nk_6 : (Str.ofString "has" = Str.ofString "gold") = False := eq_false (by decide)
theorem nk_7 : (Str.ofString "has" = Str.ofString "not") = False := eq_false (by decide)
theorem nk_8 : (Str.ofString "has" = Str.ofString "and") = False := eq_false (by decide)
theorem nk_9 : (Str.ofString "has" = Str.ofString "or") = False := eq_false (by decide)
theorem nk_10 : (Str.ofString "gold" = Str.ofString "always") = False := eq_false (by decide)
theorem nk_11 : (Str.ofString "gold" = Str.ofString "has") = False := eq_false (by decide)
theorem nk_12 : (Str.ofString "gold" = Str.ofString "not") = False := eq_false (by decide)
theorem nk_13 : (Str.ofString "gold" = Str.ofString "and") = False := eq_false (by decide)
theorem nk_14 : (Str.ofString "gold" = Str.ofString "or") = False := eq_false (by decide)
theorem nk_15 : (Str.ofString "not" = Str.ofString "always") = False := eq_false (by decide)
theorem nk_16 : (Str.ofString "not" = Str.ofString "has") = False := eq_false (by decide)
theorem nk_17 : (Str.ofString "not" = Str.ofString "gold") = False := eq_false (by decide)
theorem nk_18 : (Str.ofString "not" = Str.ofString "and") = False := eq_false (by decide)
theorem nk_19 : (Str.ofString "not" = Str.ofString "or") = False := eq_false (by decide)
theorem nk_20 : (Str.ofString "and" = Str.ofString "always") = False := eq_false (by decide)
theorem nk_21 : (Str.ofString "and" = Str.ofString "has") = False := eq_false (by decide)
theorem nk_22 : (Str.ofString "and" = Str.ofString "gold") = False := eq_false (by decide)
theorem nk_23 : (Str.ofString "and" = Str.ofString "not") = False := eq_false (by decide)
theorem nk_24 : (Str.ofString "and" = Str.ofString "or") = False := eq_false (by decide)
theorem nk_25 : (Str.ofString "or" = Str.ofString "always") = False := eq_false (by decide)
theorem nk_26 : (Str.ofString "or" = Str.ofString "has") = False := eq_false (by decide)
theorem nk_27 : (Str.ofString "or" = Str.ofString "gold") = False := eq_false (by decide)
theorem nk_28 : (Str.ofString "or" = Str.ofString "not") = False := eq_false (by decide)
theorem nk_29 : (Str.ofString "or" = Str.ofString "and") = False := eq_false (by decide)
local macro_rules | `(tactic| walk_at "kd") => `(tactic| (simp (config := { failIfUnchanged := false }) only [nk_0, nk_1, nk_2, nk_3, nk_4, nk_5, nk_6, nk_7, nk_8, nk_9, nk_10, nk_11, nk_12, nk_13, nk_14, nk_15, nk_16, nk_17, nk_18, nk_19, nk_20, nk_21, nk_22, nk_23, nk_24, nk_25, nk_26, nk_27, nk_28, nk_29, decide_true, decide_false, if_true, if_false, R.val.injEq, D.bl.injEq, eq_self_iff_true, ite_true, ite_false, Bool.false_eq_true, reduceCtorEq, exists_eq_left', decide_eq_true_eq]; walk_at "dl"))
theorem take_mem {α : Type} {l : List α} {i : Nat} {p : α} (h : l[i]? = some p) (x : α) : x ∈ l.take (i + 1) ↔ x ∈ l.take i ∨ x = p := by
  rw [List.take_add_one, h]; simp
def Cd.gd : Cd → Bool
  | .gold _ => true
  | _ => false
def Cd.gn : Cd → Int
  | .gold n => n
  | _ => 0
theorem gd_e {c : Cd} (h : c.gd = true) : c = .gold c.gn := by cases c <;> first | rfl | cases h
def f_most_asked : WF := fun ds rt _ => ∃ c : Cd, ds = [c.d] ∧ c.sz ≤ 60 ∧ ∀ m : Int, (m = 0 ∨ Cd.gold m ∈ c.lv) → 0 ≤ m → (∀ n, Cd.gold n ∈ c.lv → n ≤ m) → rt (.val (.int m))
/-- the numbers among conditions -/
def gns (ps : List Cd) : List Int := 0 :: (ps.filter Cd.gd).map Cd.gn
theorem gns_mem (ps : List Cd) (n : Int) : n ∈ gns ps ↔ n = 0 ∨ Cd.gold n ∈ ps := by
  unfold gns
  rw [List.mem_cons, List.mem_map]
  refine or_congr Iff.rfl ⟨fun ⟨c, hc, e⟩ => ?_, fun h => ⟨.gold n, List.mem_filter.mpr ⟨h, rfl⟩, rfl⟩⟩
  obtain ⟨h1, h2⟩ := List.mem_filter.mp hc
  rw [gd_e h2, e] at h1
  exact h1
theorem gns_d (ps : List Cd) : D.int 0 :: (ps.filter Cd.gd).map (fun c => D.int c.gn) = (gns ps).map D.int := by
  unfold gns
  rw [List.map_cons, List.map_map]; rfl
theorem h_most_asked (ds rt xp) (h : f_most_asked ds rt xp) : b_most_asked f_condition_parts (ini N_most_asked.length ds) (mR rt xp) := by
  obtain ⟨c, rfl, hz, hr⟩ := h
  simp only [b_most_asked, b_most_asked_1]
  walk_at "dl"
  refine ⟨c, rfl, hz, fun ps hl hm => ?_⟩
  walk_at "dl"
  intro hL
  refine ⟨hL, ?_⟩
  rw [ds_map]
  refine wLcL_lst ps Cd.d Cd.gd (fun c => .int c.gn) (fun q acc k2 hcs hk2 => ?_) ?_
  · rcases q with _ | s | n | q | ⟨a, cs⟩
    case many => cases a <;> (rw [Cd.d]; walk_at "dl"; walk_at "kd"; simpa [Cd.gd, Cd.gn] using hk2)
    all_goals (rw [Cd.d]; walk_at "dl"; walk_at "kd"; simpa [Cd.gd, Cd.gn] using hk2)
  · walk_at "dl"
    have := List.length_filter_le Cd.gd ps
    refine ⟨sz (by omega), ?_⟩
    rw [gns_d]
    refine ⟨_, rfl, by simp [gns], fun m h1 h2 => hr m ?_ (h2 0 ((gns_mem ps 0).mpr (.inl rfl))) fun n hn => h2 n ((gns_mem ps n).mpr (.inr ((hm _ rfl).mpr hn)))⟩
    rcases (gns_mem ps m).mp h1 with h | h
    · exact .inl h
    · exact .inr ((hm _ rfl).mp h)


/-! ### stories -/
structure Ch where
  lb : Str
  c : Cd
  ef : List (Str × Str)
  ch : Int
  nx : Str
structure Sc where
  nm : Str
  ln : List (Str × Cd)
  cs : List Ch
structure Sy where
  ms : List (Str × Str)
  gd : Int
  bg : Str
  sc : List Sc
def lnD (p : Str × Cd) : D := .tup [.str p.1, p.2.d]
def efD (p : Str × Str) : D := .tup [.str p.1, .str p.2]
def Ch.d (x : Ch) : D := .tup [.str x.lb, x.c.d, .tup (x.ef.map efD), .int x.ch, .str x.nx]
def Sc.d (x : Sc) : D := .tup [.str x.nm, .tup (x.ln.map lnD), .tup (x.cs.map Ch.d)]
def Sy.d (x : Sy) : D := .tup [.tup (x.ms.map efD), .int x.gd, .str x.bg, .tup (x.sc.map Sc.d)]
structure Sc.ok (x : Sc) : Prop where
  ln : x.ln.length ≤ 4
  cs : x.cs.length ≤ 4
  lc : ∀ p ∈ x.ln, p.2.sz ≤ 6
  cc : ∀ c ∈ x.cs, c.c.sz ≤ 6 ∧ c.ef.length ≤ 4
  nm : x.nm.length ≤ 20
structure Sy.ok (x : Sy) : Prop where
  ms : x.ms.length ≤ 6
  sc : x.sc.length ≤ 7
  ne : 0 < x.sc.length
  al : ∀ s ∈ x.sc, s.ok
def f_story_marks : WF := fun ds rt _ => ∃ y : Sy, ds = [y.d] ∧ rt (.val (.tup ((y.ms.map (·.1)).map D.str)))
theorem h_story_marks (ds rt xp) (h : f_story_marks ds rt xp) : b_story_marks (ini N_story_marks.length ds) (mR rt xp) := by
  obtain ⟨y, rfl, hr⟩ := h
  rw [Sy.d]
  simp only [b_story_marks, b_story_marks_1]
  walk_at "dl"
  intro hL
  refine ⟨hL, ?_⟩
  refine wLcL_lst y.ms efD (fun _ => true) (fun p => .str p.1) (fun p acc k2 hcs hk2 => ?_) ?_
  · rw [efD]
    walk_at "dl"
    simpa using hk2
  · rw [List.filter_eq_self.mpr (by simp)]
    walk_at "dl"
    rw [List.map_map] at hr
    exact hr
def f_story_scenes : WF := fun ds rt _ => ∃ y : Sy, ds = [y.d] ∧ rt (.val (.tup ((y.sc.map (·.nm)).map D.str)))
theorem h_story_scenes (ds rt xp) (h : f_story_scenes ds rt xp) : b_story_scenes (ini N_story_scenes.length ds) (mR rt xp) := by
  obtain ⟨y, rfl, hr⟩ := h
  rw [Sy.d]
  simp only [b_story_scenes, b_story_scenes_1]
  walk_at "dl"
  intro hL
  refine ⟨hL, ?_⟩
  refine wLcL_lst y.sc Sc.d (fun _ => true) (fun p => .str p.nm) (fun p acc k2 hcs hk2 => ?_) ?_
  · rw [Sc.d]
    walk_at "dl"
    simpa using hk2
  · rw [List.filter_eq_self.mpr (by simp)]
    walk_at "dl"
    rw [List.map_map] at hr
    exact hr
/-- the first scene of a name -/
def scAt (y : Sy) (s : Str) : Option Sc := y.sc.find? fun x => decide (x.nm = s)
theorem find_at {α : Type} {p : α → Bool} {l : List α} {i : Nat} {x : α} (h : l[i]? = some x) (hp : p x = true) (hn : ∀ z ∈ l.take i, p z = false) : l.find? p = some x := by
  refine List.find?_eq_some_iff_append.mpr ⟨hp, l.take i, l.drop (i + 1), ?_, fun z hz => by simp [hn z hz]⟩
  obtain ⟨hi, rfl⟩ := List.getElem?_eq_some_iff.mp h
  rw [List.getElem_cons_drop, List.take_append_drop]
def xNo (s : Str) : XD := ⟨"NoSuch", xfK ["word", "name"] [.str "scene", .str s]⟩
def f_scene_of : WF := fun ds rt xp => ∃ (y : Sy) (s : Str), ds = [y.d, .str s] ∧ (∀ x, scAt y s = some x → rt (.val x.d)) ∧ (scAt y s = none → xp (xNo s))
theorem h_scene_of (ds rt xp) (h : f_scene_of ds rt xp) : b_scene_of (ini N_scene_of.length ds) (mR rt xp) := by
  obtain ⟨y, s, rfl, hr, hx⟩ := h
  rw [Sy.d]
  unfold b_scene_of b_scene_of_2
  walk_at "dl"
  intro hL
  refine wFor_run (fun i Γ => ∃ y2, Γ = [some (.val (.tup [.tup (y.ms.map efD), .int y.gd, .str y.bg, .tup (y.sc.map Sc.d)])), some (.val (.str s)), y2] ∧ ∀ z ∈ y.sc.take i, decide (z.nm = s) = false) (fun i d Γ k2 hd hI hk => ?_) (fun Γ hI => ?_) ⟨_, rfl, by simp⟩
  · obtain ⟨y2, rfl, hn⟩ := hI
    obtain ⟨x, hxs, rfl⟩ := map_get hd
    unfold b_scene_of_1
    rw [Sc.d]
    walk_at "dl"
    refine ite2 (fun e => ?_) fun e => ?_
    · have := hr x (find_at hxs (decide_eq_true e) hn)
      rw [Sc.d] at this
      exact this
    · refine hk _ ⟨_, rfl, fun z hz => ?_⟩
      rw [List.take_add_one, hxs] at hz
      rcases List.mem_append.mp hz with h | h
      · exact hn z h
      · simp at h; subst h; exact decide_eq_false e
  · obtain ⟨y2, rfl, hn⟩ := hI
    rw [List.length_map, List.take_length] at hn
    walk_at "dl"
    rw [t_scene_of_2_e]
    unfold b_scene_of_3
    walk_at "dl"
    exact hx (List.find?_eq_none.mpr fun z hz => by simpa using hn z hz)
def f_scene_lines : WF := fun ds rt xp => ∃ (y : Sy) (s : Str), ds = [y.d, .str s] ∧ (∀ x, scAt y s = some x → rt (.val (.tup (x.ln.map lnD)))) ∧ (scAt y s = none → xp (xNo s))
theorem h_scene_lines (ds rt xp) (h : f_scene_lines ds rt xp) : b_scene_lines f_scene_of (ini N_scene_lines.length ds) (mR rt xp) := by
  obtain ⟨y, s, rfl, hr, hx⟩ := h
  simp only [b_scene_lines, b_scene_lines_1]
  walk_at "dl"
  refine ⟨y, s, rfl, fun x e => ?_, hx⟩
  rw [Sc.d]
  walk_at "dl"
  exact hr x e
def f_scene_choices : WF := fun ds rt xp => ∃ (y : Sy) (s : Str), ds = [y.d, .str s] ∧ (∀ x, scAt y s = some x → rt (.val (.tup (x.cs.map Ch.d)))) ∧ (scAt y s = none → xp (xNo s))
theorem h_scene_choices (ds rt xp) (h : f_scene_choices ds rt xp) : b_scene_choices f_scene_of (ini N_scene_choices.length ds) (mR rt xp) := by
  obtain ⟨y, s, rfl, hr, hx⟩ := h
  simp only [b_scene_choices, b_scene_choices_1]
  walk_at "dl"
  refine ⟨y, s, rfl, fun x e => ?_, hx⟩
  rw [Sc.d]
  walk_at "dl"
  exact hr x e
def f_ask : WF := fun ds rt _ => ∃ (y : Sy) (w s : Str), ds = [.str w, y.d, .str s] ∧ (∀ x, scAt y s = some x → rt (.val (.tup [.str "told", .tup (if w = "lines" then x.ln.map lnD else x.cs.map Ch.d)]))) ∧ (scAt y s = none → rt (.val (.tup [.str "refused", .str "scene", .str s])))
theorem h_ask (ds rt xp) (h : f_ask ds rt xp) : b_u_law_ask f_scene_choices f_scene_lines (ini N_u_law_ask.length ds) (mR rt xp) := by
  obtain ⟨y, w, s, rfl, hr, hx⟩ := h
  simp only [b_u_law_ask, b_u_law_ask_1]
  walk_at "dl"
  have no : scAt y s = none → lkK (List.lookup (xNo s).name xL) (if hit xL (xNo s).name (Str.ofString "NoSuch") = true then
          if hit xL (xNo s).name (Str.ofString "BadStory") = true then
            rt (R.val (D.tup [D.str (Str.ofString "odd"), D.str (Str.ofString ""), D.str (Str.ofString "")]))
          else
            if hit xL (xNo s).name (Str.ofString "Taken") = true then
              rt (R.val (D.tup [D.str (Str.ofString "odd"), D.str (Str.ofString ""), D.str (Str.ofString "")]))
            else
              if hit xL (xNo s).name (Str.ofString "BadStep") = true then
                rt (R.val (D.tup [D.str (Str.ofString "odd"), D.str (Str.ofString ""), D.str (Str.ofString "")]))
              else
                look? (valD (xNo s).fs (Sum.inr (Str.ofString "word"))) fun d =>
                  look? (valD (xNo s).fs (Sum.inr (Str.ofString "name"))) fun d_1 =>
                    rt (R.val (D.tup [D.str (Str.ofString "refused"), d, d_1]))
        else xp (xNo s)) := fun hn => by
    unfold xNo
    walk_at "dl"
    exact hx hn
  refine ite2 (fun e => ?_) fun e => ?_
  · exact ⟨y, s, rfl, fun x hx' => by have := hr x hx'; rw [if_pos e] at this; exact this, no⟩
  · exact ⟨y, s, rfl, fun x hx' => by have := hr x hx'; rw [if_neg e] at this; exact this, no⟩

/-! ### sameness of plain things -/
def plV : Nat → D → Prop
  | _, .str _ => True
  | _, .int _ => True
  | k + 1, .tup l => l.length ≤ 60 ∧ ∀ d ∈ l, plV k d
  | _, _ => False
theorem isi_ss : isi "str" "str" = some true := by decide
theorem isi_sb : isi "str" "bool" = some false := by decide
theorem isi_si : isi "str" "int" = some false := by decide
theorem isi_ts : isi "tuple" "str" = some false := by decide
theorem isi_tb : isi "tuple" "bool" = some false := by decide
theorem isi_ti : isi "tuple" "int" = some false := by decide
def f_same (k : Nat) : WF := fun ds rt _ => ∃ d, ds = [d, d] ∧ plV k d ∧ rt (.val (.bl true))
theorem h_same (k : Nat) (wf : WF) (hc : ∀ (d : D) (rt : R → Prop) (xp : XD → Prop), (∃ q, k = q + 1 ∧ plV q d) → rt (.val (.bl true)) → wf [d, d] rt xp)
    (ds rt xp) (h : f_same k ds rt xp) : b_u_law_same wf (ini N_u_law_same.length ds) (mR rt xp) := by
  obtain ⟨d, rfl, hp, hr⟩ := h
  cases d with
  | str s =>
    simp only [b_u_law_same, b_u_law_same_1, b_u_law_same_2, t_u_law_same_2, t_u_law_same_3, b_u_law_same_3, b_u_law_same_4, t_u_law_same_4, b_u_law_same_5, t_u_law_same_5, t_u_law_same_6, b_u_law_same_6, t_u_law_same_7, b_u_law_same_7]
    walk_at "dl"
    simp only [isi_ss, isi_sb, isi_si]
    walk_at "dl"
    exact ⟨_, rfl, hr⟩
  | int i =>
    simp only [b_u_law_same, b_u_law_same_1, b_u_law_same_2, t_u_law_same_2, t_u_law_same_3, b_u_law_same_3, b_u_law_same_4, t_u_law_same_4, b_u_law_same_5, t_u_law_same_5, t_u_law_same_6, b_u_law_same_6, t_u_law_same_7, b_u_law_same_7]
    walk_at "dl"
    exact ⟨_, rfl, ⟨_, rfl, ⟨_, rfl, hr⟩⟩⟩
  | tup l =>
    cases k with
    | zero => exact hp.elim
    | succ q =>
      unfold b_u_law_same b_u_law_same_2
      walk_at "dl"
      rw [t_u_law_same_2_e]; unfold b_u_law_same_3; walk_at "dl"
      rw [t_u_law_same_3_e]; unfold b_u_law_same_4; walk_at "dl"
      rw [t_u_law_same_4_e]; unfold b_u_law_same_5; walk_at "dl"; simp only [isi_ts]; walk_at "dl"
      rw [t_u_law_same_5_e]; unfold b_u_law_same_6; walk_at "dl"
      obtain ⟨hl, hall⟩ := hp
      rw [t_u_law_same_6_e]; unfold b_u_law_same_7; walk_at "dl"
      refine ⟨by omega, by omega, ?_⟩
      refine wFor_run (fun i Γ => ∃ y2, Γ = [some (.val (.tup l)), some (.val (.tup l)), y2]) (fun i d Γ k2 hd hI hk => ?_) (fun Γ hI => ?_) ⟨_, rfl⟩
      · obtain ⟨y2, rfl⟩ := hI
        obtain ⟨hi, rfl⟩ := rng_get hd
        have hi' : i < l.length := by omega
        unfold b_u_law_same_1
        walk_at "dl"
        refine ixK_n (n := i) (List.getElem?_eq_getElem hi') (by omega) ?_
        walk_at "dl"
        refine ixK_n (n := i) (List.getElem?_eq_getElem hi') (by omega) ?_
        walk_at "dl"
        refine hc _ _ _ ⟨q, rfl, hall _ (List.getElem_mem hi')⟩ ?_
        walk_at "dl"
        exact hk _ ⟨_, rfl⟩
      · obtain ⟨y2, rfl⟩ := hI
        walk_at "dl"
        rw [t_u_law_same_7_e]
        walk_at "dl"
        exact hr
  | _ => cases k <;> exact hp.elim
end Nk05

set_option maxHeartbeats 4000000
namespace Nk05
open PySem PySem.Spec L2 DL
local macro_rules | `(tactic| walk_at "dl") => `(tactic| simp (config := { failIfUnchanged := false, maxSteps := 2000000 }) only [↓wVar_q, lx_TaleError, ht_0, ht_1, ht_2, ht_3, ht_4, lx_BadStory, ht_5, ht_6, ht_7, ht_8, ht_9, vx_BadStory_scene, vx_BadStory_place, vx_BadStory_word, lx_BadStep, ht_10, ht_11, ht_12, ht_13, ht_14, vx_BadStep_word, lx_NoSuch, ht_15, ht_16, ht_17, ht_18, ht_19, vx_NoSuch_word, vx_NoSuch_name, lx_Taken, ht_20, ht_21, ht_22, ht_23, ht_24, vx_Taken_name, ln_0, ln_1, ln_2, ln_3, ln_4, ln_5, ln_6, ln_7, ln_8, ln_9, ln_10, ln_11, ln_12, ln_13, ln_14, ln_15, ln_16, ln_17, ln_18, ln_19, ln_20, ln_21, ln_22, ln_23, ln_24, ln_25, ln_26, ln_27, ln_28, ln_29, ln_30, ln_31, ln_32, ln_33, ln_34, ln_35, ln_36, ln_37, ln_38, ln_39, ln_40, ln_41, ln_42, ln_43, ln_44, ln_45, ln_46, ln_47, ↓wC_q, ↓wBin_q, ↓wUn_q, ↓wB_e, ↓wAnd_q, ↓wOr_q, ↓wNot_q, ↓wAndV_q, ↓wOrV_q, ↓wNotV_q, ↓wIfE_q, ↓wChain_q, ↓wNil_q, ↓wCons_q, ↓wTup_q, ↓wLst_q, ↓wCB_q, ↓Rd_v, ↓Rd_l, ↓Rd_d, ↓Rs_v, ↓Rs_l, ↓Rs_d,
  ↓wAdd_i, ↓wAdd_s, ↓wAdd_l, ↓wAdd_t, ↓wSub_i, ↓wMul_i, ↓wMul_l, ↓wMul_s, ↓wMod_i, ↓wDiv_i, ↓wPow_i, ↓wShl_i, ↓wShr_i, ↓wBAnd_i, ↓wBOr_i, ↓wBXor_i, ↓wLt_i, ↓wLe_i, ↓wGt_i, ↓wGe_i, ↓wLt_s, ↓wGt_s, ↓wEq_i, ↓wNe_i, ↓wEq_s, ↓wNe_s, ↓wEq_b, ↓wNe_b, ↓wIsN_n, ↓wNotN_n, ↓wIsN_t, ↓wNotN_t, ↓wIsN_i, ↓wNotN_i, ↓wIsN_s, ↓wNotN_s,
  ↓wIx_t, ↓wIx_l, ↓wIx_f, ↓wIx_d, ↓ixK_0, ↓ixK_1, ↓ixK_2, ↓ixK_3, ↓ixK_4, ↓ixK_5, ↓len_t, ↓len_l, ↓len_f, ↓len_s, ↓len_d, ↓lenK_s, ↓wLen_1, ↓wLenV_e, ↓items_t, ↓items_l, ↓items_f, ↓items_s, ↓asInt_i, ↓asInt_b, ↓wIter_e, ↓wInt_1, ↓wAbs_1, ↓wMax_1, ↓wMin_1, ↓wList_l, ↓wList_t, ↓wList_f, ↓wList_s, ↓wTuple_l, ↓wTuple_t, ↓wAll_1, ↓wAny_1, ↓wSum_1, ↓wIsi_1, ↓ty_i, ↓ty_b, ↓ty_s, ↓ty_t, ↓ty_l, ↓ty_f, ↓ty_n, ↓wNeg_i, ↓wRng1_e, ↓wRng2_e,
  ↓isLst_l, ↓wAppend_e, ↓wPop_e, ↓wSetIx_e, ↓look_s, ↓wVB_e, ↓wBV_e, ↓isInt_i, ↓wAugI_e, ↓wIn_e, ↓inK_s, ↓wGtup_e, ↓wGcons_e, ↓wGnil_e, ↓bxGo_q, ↓isBx_b, ↓bxIn_e, ↓bxPos_i, ↓wBIx_e, ↓wBSet_e, ↓lsK_l, ↓wBAppend_e, ↓wBPop_e, ↓wBPopAt_e, ↓wBInsert_e, ↓refK_l, ↓wBLen_e, ↓wBIx2_e, ↓bxv_lf, ↓bxr_ls, ↓bxr_dc, ↓bxa_ls, ↓bxa_lf, ↓bxK_n, ↓bxK_v, ↓bxK_l, ↓wSl_t, ↓wSl_l, ↓wSl_f, ↓wSl_s, ↓mT_q, ↓isT_e, ↓in_ints, ↓in_intsL,
  ↓wMeth_q, ↓wXis_q, ↓wXiv_q, ↓wExt_q, ↓seqD_l, ↓seqD_t, ↓seqK_s, ↓wSrtSet_q, ↓wTxt_up, ↓wTry_e, ↓wHds_n, ↓wHds_c, ↓inX_n, ↓inX_s, ↓bindX_n, ↓bindX_s, ↓clrX_n, ↓clrX_s, ↓unX_e, ↓xcK_s, ↓wXf_e, ↓wRaise_e, ↓lkK_s, ↓tyD_s, ↓tyD_l, ↓tyD_d, ↓wTr_e, ↓truK_s, ↓tru_b, ↓tru_i, ↓tru_s, ↓tru_n, ↓tru_t, ↓tru_l, ↓tru_f, ↓tru_d, ↓oneK_1, ↓lstK_l, ↓lstK_f, ↓wEnum_e, ↓wRevd_e, ↓keyK1_s, ↓keyOf_i, ↓keyOf_s, ↓wPrs_0, ↓wPrs_1, ↓wDc_q, ↓wDisp_q, ↓wN_q, ↓wNext_q, ↓wSeq_q, ↓wBrk_q, ↓wCt_q, ↓wDrop_q, ↓wRet_q, ↓wMov_q, ↓wRetN_q, ↓wSet_q, ↓wAsg_q, ↓wIf_q, ↓wForS_q, ↓look_q, ↓wNoP_q, ↓wPt_e, ↓wSlice_q, ↓wSliceV_e, ↓wLc_q, ↓wLc2_q, ↓wYes_q, ↓wPar_q, ↓wFn_q, ↓wCall_q, ↓wFnK_q, ↓wFnK0_q, ↓wCallK_q, ↓pk_q, ↓wBox_q, ↓wONil_q, ↓wOCons_q, ↓ini_q, ↓ixN,
  List.getElem?_cons_zero, List.getElem?_cons_succ, List.getElem?_nil, List.set_cons_zero, List.set_cons_succ, List.length_cons, List.length_nil, List.map_cons, List.map_nil, List.cons_append, List.nil_append, List.replicate, List.length_map, List.length_set, List.length_replicate, List.length_append, sapp_len, s1_len, repS_len,
  wipeG, sv, DL.rest, List.filterMap_cons, List.filterMap_nil, isi_ib, isi_ii, isi_bb, isi_bi, isi_tt, isi_it, isi_ti, isi_tb, isi_bt,
  and_true, true_and, and_self, true_or, or_true, ite_true, ite_false, if_true, if_false, reduceIte, decide_eq_true_eq, decide_eq_false_iff_not, Bool.not_eq_true', Nat.reduceAdd, Nat.reduceSub, Nat.reduceLT, Nat.reduceLeDiff, Int.reduceLT, Int.reduceLE, Int.reduceNeg, Int.reduceToNat, Int.reduceAdd, Int.reduceSub, Int.reduceMul, Int.reducePow, Nat.zero_add, Int.cast_ofNat_Int, reduceCtorEq, false_and, and_false, exists_false, false_or, or_false, not_false_eq_true, not_true_eq_false, Bool.false_eq_true, Bool.true_eq_false, Bool.not_true, Bool.not_false, decide_true, decide_false, szL, szL', forall_const, exists_const, implies_true, true_implies])
local macro_rules | `(tactic| walk_at "cm") => `(tactic| first
  | trivial
  | exact cmulR (by decide) (by decide) | exact cmulL (by decide) (by decide)
  | exact cmulR (by omega) (by omega) | exact cmulL (by omega) (by omega)
  | exact sz (by decide) | exact sz (by omega) | exact sz' (by omega)
  | exact (show CDiv _ _ from ⟨by omega, by omega⟩)
  | exact (show CPow _ _ from ⟨by omega, by omega, by decide⟩)
  | decide | omega)
local macro_rules | `(tactic| walk_at "cs") => `(tactic| repeat' (first | (refine And.intro ?_ ?_ <;> first | (walk_at "cm"; done) | skip) | fail))
local macro_rules | `(tactic| walk_at "sl") => `(tactic| (first | refine sz ?_ | refine sz' ?_ | skip) <;> (try simp only [sapp_len, s1_len, repS_len, ln_0, ln_1, ln_2, ln_3, ln_4, ln_5, ln_6, ln_7, ln_8, ln_9, ln_10, ln_11, ln_12, ln_13, ln_14, ln_15, ln_16, ln_17, ln_18, ln_19, ln_20, ln_21, ln_22, ln_23, ln_24, ln_25, ln_26, ln_27, ln_28, ln_29, ln_30, ln_31, ln_32, ln_33, ln_34, ln_35, ln_36, ln_37, ln_38, ln_39, ln_40, ln_41, ln_42, ln_43, ln_44, ln_45, ln_46, ln_47]) <;> omega)
local macro_rules | `(tactic| walk_at "an") => `(tactic| repeat ((with_reducible refine And.intro ?_ ?_); (focus (first | (walk_at "sl"; done) | (walk_at "cm"; done)))))
local macro_rules | `(tactic| walk_at "kd") => `(tactic| (simp (config := { failIfUnchanged := false }) only [nk_0, nk_1, nk_2, nk_3, nk_4, nk_5, nk_6, nk_7, nk_8, nk_9, nk_10, nk_11, nk_12, nk_13, nk_14, nk_15, nk_16, nk_17, nk_18, nk_19, nk_20, nk_21, nk_22, nk_23, nk_24, nk_25, nk_26, nk_27, nk_28, nk_29, decide_true, decide_false, if_true, if_false, R.val.injEq, D.bl.injEq, eq_self_iff_true, ite_true, ite_false, Bool.false_eq_true, reduceCtorEq, exists_eq_left', decide_eq_true_eq]; walk_at "dl"))
/-! ### the greatest number -/
def mx (l : List Int) : Int := l.foldr max 0
theorem mx_app (a b : List Int) : mx (a ++ b) = max (mx a) (mx b) := by
  induction a with
  | nil =>
    have h : ∀ b : List Int, 0 ≤ mx b := fun b => by
      induction b with
      | nil => exact Int.le_refl _
      | cons x b ih => show 0 ≤ max x (mx b); omega
    have := h b
    show mx b = max 0 (mx b)
    omega
  | cons x a ih =>
    show max x (mx (a ++ b)) = max (max x (mx a)) (mx b)
    rw [ih]
    omega
theorem mx_nn (l : List Int) : 0 ≤ mx l := by
  induction l with
  | nil => exact Int.le_refl _
  | cons x b ih => show 0 ≤ max x (mx b); omega
theorem mx_cons (x : Int) (l : List Int) : mx (x :: l) = max x (mx l) := rfl
theorem mx_le (l : List Int) : ∀ n ∈ l, n ≤ mx l := by
  induction l with
  | nil => intro n h; cases h
  | cons x b ih =>
    intro n h
    rw [mx_cons]
    rcases List.mem_cons.mp h with e | h
    · omega
    · have := ih n h; omega
theorem mx_mem (l : List Int) : mx l = 0 ∨ mx l ∈ l := by
  induction l with
  | nil => exact .inl rfl
  | cons x b ih =>
    rw [mx_cons]
    rcases Int.le_total x (mx b) with h | h
    · rw [Int.max_eq_right h]
      rcases ih with e | e
      · exact .inl e
      · exact .inr (List.mem_cons_of_mem _ e)
    · rw [Int.max_eq_left h]
      exact .inr List.mem_cons_self
theorem mx_is {l : List Int} {m : Int} (h0 : 0 ∈ l) (h1 : m ∈ l) (h2 : ∀ n ∈ l, n ≤ m) : m = mx l := by
  apply Int.le_antisymm (mx_le l m h1)
  rcases mx_mem l with e | e
  · rw [e]; exact h2 0 h0
  · exact h2 _ e
def ab (i : Int) : Int := if i < 0 then -i else i
/-- the greatest number that the leaves of conditions ask -/
def gq (W : List Cd) : Int := mx (gns (Cd.lvs W))
theorem gns_app (a b : List Cd) : mx (gns (a ++ b)) = max (mx (gns a)) (mx (gns b)) := by
  unfold gns
  rw [List.filter_append, List.map_append, mx_cons, mx_app, mx_cons, mx_cons]
  omega
theorem gq_app (a b : List Cd) : gq (a ++ b) = max (gq a) (gq b) := by
  unfold gq
  rw [lvs_app, gns_app]
theorem gq_one (c : Cd) : gq [c] = mx (gns c.lv) := by
  unfold gq
  rw [Cd.lvs, Cd.lvs, List.append_nil]
theorem gq_nil : gq [] = 0 := by
  unfold gq
  rfl
theorem gq_cons (c : Cd) (W : List Cd) : gq (c :: W) = max (gq [c]) (gq W) := gq_app [c] W
theorem gq_nn (W : List Cd) : 0 ≤ gq W := mx_nn _
theorem mx_map : ∀ l : List Cd, mx (l.map fun c => gq [c]) = gq l
  | [] => rfl
  | c :: l => by rw [List.map_cons, mx_cons, mx_map l, gq_cons c l]
def cdsS (x : Sc) : List Cd := x.ln.map (·.2) ++ x.cs.map (·.c)
def absS (x : Sc) : List Int := x.cs.map fun c => ab c.ch
/-- the greatest number of scenes -/
def tq (l : List Sc) : Int := max (mx (l.flatMap absS)) (gq (l.flatMap cdsS))
theorem tq_app (a b : List Sc) : tq (a ++ b) = max (tq a) (tq b) := by
  unfold tq
  rw [List.flatMap_append, List.flatMap_append, mx_app, gq_app]
  omega
theorem tq_one (x : Sc) : tq [x] = max (mx (absS x)) (gq (cdsS x)) := by
  unfold tq
  simp
theorem tq_nn (l : List Sc) : 0 ≤ tq l := by unfold tq; have := mx_nn (l.flatMap absS); omega
theorem asked {c : Cd} {rt : R → Prop} {xp : XD → Prop} (hz : c.sz ≤ 60) (h : rt (.val (.int (gq [c])))) : f_most_asked [c.d] rt xp := by
  refine ⟨c, rfl, hz, fun m h1 h2 h3 => ?_⟩
  have e : m = gq [c] := by
    rw [gq_one]
    refine mx_is ((gns_mem _ _).mpr (.inl rfl)) ((gns_mem _ _).mpr h1) fun n hn => ?_
    rcases (gns_mem _ _).mp hn with e | h
    · rw [e]; exact h2
    · exact h3 n h
  rw [e]
  exact h
def f_most_number : WF := fun ds rt _ => ∃ y : Sy, ds = [y.d] ∧ y.ok ∧ rt (.val (.int (tq y.sc)))
theorem h_most_number (ds rt xp) (h : f_most_number ds rt xp) : b_most_number f_most_asked (ini N_most_number.length ds) (mR rt xp) := by
  obtain ⟨y, rfl, ok, hr⟩ := h
  have hsc := ok.sc
  rw [Sy.d]
  unfold b_most_number b_most_number_3
  walk_at "dl"
  rw [t_most_number_2_e]
  unfold b_most_number_4
  walk_at "dl"
  intro hL
  refine wFor_run (fun i Γ => ∃ (F : List Int) (y2 y3 y4 y5 : Option R), Γ = [some (.val (.tup [.tup (y.ms.map efD), .int y.gd, .str y.bg, .tup (y.sc.map Sc.d)])), some (.lst (F.map D.int)), y2, y3, y4, y5, none, none, none] ∧ 0 ∈ F ∧ F.length ≤ 1 + 12 * i ∧ mx F = tq (y.sc.take i)) (fun i d Γ k2 hd hI hk => ?_) (fun Γ hI => ?_) ⟨[0], _, _, _, _, rfl, by simp, by simp, rfl⟩
  · obtain ⟨F, y2, y3, y4, y5, rfl, hF0, hFl, hFm⟩ := hI
    obtain ⟨x, hxs, rfl⟩ := map_get hd
    have hi : i < y.sc.length := (List.getElem?_eq_some_iff.mp hxs).1
    have xo := ok.al x (List.mem_of_getElem? hxs)
    unfold b_most_number_2
    rw [Sc.d]
    walk_at "dl"
    intro hL2
    refine ⟨hL2, ?_⟩
    refine wLcL_lst x.ln lnD (fun _ => true) (fun p => .int (gq [p.2])) (fun p acc k3 hcs hk3 => ?_) ?_
    · rw [lnD]
      walk_at "dl"
      refine asked (by have := xo.lc p hcs; omega) ?_
      walk_at "dl"
      simpa using hk3
    have e1 : List.map (fun p : Str × Cd => D.int (gq [p.2])) (List.filter (fun _ => true) x.ln) = (x.ln.map fun p => gq [p.2]).map D.int := by
      rw [List.filter_eq_self.mpr (by simp), List.map_map]; rfl
    rw [e1]
    walk_at "dl"
    have hln := xo.ln
    have hcl := xo.cs
    refine ⟨sz (by omega), fun _ => ?_⟩
    rw [← List.map_append]
    have hmx : mx (F ++ x.ln.map fun p => gq [p.2]) = max (tq (y.sc.take i)) (gq (x.ln.map (·.2))) := by
      rw [mx_app, hFm]
      have : x.ln.map (fun p => gq [p.2]) = (x.ln.map (·.2)).map fun c => gq [c] := by rw [List.map_map]; rfl
      rw [this, mx_map]
    generalize hG : (F ++ x.ln.map fun p => gq [p.2]) = G at hmx ⊢
    have hG0 : 0 ∈ G := by rw [← hG]; exact List.mem_append_left _ hF0
    have hGl : G.length ≤ 5 + 12 * i := by rw [← hG]; simp; omega
    refine wFor_run (fun j Γ => ∃ (F : List Int) (y5 : Option R), Γ = [some (.val (.tup [.tup (y.ms.map efD), .int y.gd, .str y.bg, .tup (y.sc.map Sc.d)])), some (.lst (F.map D.int)), some (.val (.str x.nm)), some (.val (.tup (x.ln.map lnD))), some (.val (.tup (x.cs.map Ch.d))), y5, none, none, none] ∧ 0 ∈ F ∧ F.length ≤ 5 + 12 * i + 2 * j ∧ mx F = max (mx G) (max (mx ((x.cs.take j).map fun c => ab c.ch)) (gq ((x.cs.take j).map (·.c))))) (fun j d Γ k4 hd4 hI4 hk4 => ?_) (fun Γ hI4 => ?_) ⟨G, _, rfl, hG0, by omega, ?_⟩
    · obtain ⟨F, y5, rfl, hF0, hFl, hFm⟩ := hI4
      obtain ⟨c, hc, rfl⟩ := map_get hd4
      have hj : j < x.cs.length := (List.getElem?_eq_some_iff.mp hc).1
      unfold b_most_number_1
      rw [Ch.d]
      walk_at "dl"
      refine asked (by have := xo.cc c (List.mem_of_getElem? hc); omega) ?_
      walk_at "dl"
      refine ⟨sz (by omega), hk4 _ ⟨F ++ [gq [c.c], ab c.ch], _, by rw [List.map_append]; rfl, List.mem_append_left _ hF0, by simp; omega, ?_⟩⟩
      rw [mx_app, hFm, List.take_add_one, hc]
      simp only [List.map_append, Option.toList_some, List.map_cons, List.map_nil, mx_app, gq_app, mx_cons]
      have := gq_nn [c.c]
      have : mx [] = 0 := rfl
      omega
    · obtain ⟨F, y5, rfl, hF0, hFl, hFm⟩ := hI4
      rw [List.length_map] at hFl
      rw [List.length_map, List.take_length] at hFm
      refine hk _ ⟨F, _, _, _, _, rfl, hF0, by omega, ?_⟩
      rw [hFm, hmx, List.take_add_one, hxs]
      simp only [Option.toList_some, tq_app, tq_one, absS, cdsS, gq_app]
      omega
    · rw [List.take_zero, List.map_nil, List.map_nil, gq_nil]
      have := mx_nn G
      show mx G = max (mx G) (max 0 0)
      omega
  · obtain ⟨F, y2, y3, y4, y5, rfl, hF0, hFl, hFm⟩ := hI
    walk_at "dl"
    rw [t_most_number_3_e]
    unfold b_most_number_5
    walk_at "dl"
    refine ⟨F, rfl, by cases F <;> simp at hF0 ⊢, fun m h1 h2 => ?_⟩
    rw [List.length_map, List.take_length] at hFm
    rw [mx_is hF0 h1 h2, hFm]
    exact hr

theorem gq_no (c : Cd) : gq [.no c] = gq [c] := by rw [gq_one, gq_one, Cd.lv]
theorem gq_many (a : Bool) (cs : List Cd) : gq [.many a cs] = gq cs := by rw [gq_one, Cd.lv]; rfl
theorem gq_al : gq [.al] = 0 := rfl
theorem gq_has (s : Str) : gq [.has s] = 0 := rfl
theorem gq_gold (n : Int) : gq [.gold n] = max n 0 := by
  rw [gq_one, Cd.lv]
  show max 0 (max n 0) = max n 0
  omega
theorem szs_sum : ∀ (l : List Cd), (∀ c ∈ l, c.sz ≤ 6) → Cd.szs l ≤ 6 * l.length
  | [], _ => by simp [Cd.szs]
  | c :: l, h => by
    rw [Cd.szs, List.length_cons]
    have := h c (by simp)
    have := szs_sum l fun c hc => h c (by simp [hc])
    omega
def f_law_most : WF := fun ds rt _ => ∃ y : Sy, ds = [y.d] ∧ y.ok ∧ rt (.val (.int (tq y.sc)))
theorem h_law_most (ds rt xp) (h : f_law_most ds rt xp) : b_u_law_most (ini N_u_law_most.length ds) (mR rt xp) := by
  obtain ⟨y, rfl, ok, hr⟩ := h
  have hsc := ok.sc
  rw [Sy.d]
  unfold b_u_law_most b_u_law_most_3
  walk_at "dl"
  rw [t_u_law_most_2_e]
  unfold b_u_law_most_4
  walk_at "dl"
  intro hL
  refine wFor_run (fun i Γ => ∃ (T : List Cd) (m : Int) (y3 : Option R), Γ = [some (.val (.tup [.tup (y.ms.map efD), .int y.gd, .str y.bg, .tup (y.sc.map Sc.d)])), some (.lst (Cd.ds T)), some (.val (.int m)), y3, none, none, none, none] ∧ Cd.szs T ≤ 48 * i ∧ m = mx ((y.sc.take i).flatMap absS) ∧ gq T = gq ((y.sc.take i).flatMap cdsS)) (fun i d Γ k2 hd hI hk => ?_) (fun Γ hI => ?_) ⟨[], 0, _, rfl, by simp [Cd.szs], rfl, rfl⟩
  · obtain ⟨T, m, y3, rfl, hT, hm, hg⟩ := hI
    obtain ⟨x, hxs, rfl⟩ := map_get hd
    have hi : i < y.sc.length := (List.getElem?_eq_some_iff.mp hxs).1
    have xo := ok.al x (List.mem_of_getElem? hxs)
    have hln := xo.ln
    have hcl := xo.cs
    have tl := szs_len T
    unfold b_u_law_most_1
    rw [Sc.d]
    walk_at "dl"
    intro hL2
    refine ⟨hL2, ?_⟩
    refine wLcL_lst x.ln lnD (fun _ => true) (fun p => p.2.d) (fun p acc k3 hcs hk3 => ?_) ?_
    · rw [lnD]
      walk_at "dl"
      simpa using hk3
    have e1 : List.map (fun p : Str × Cd => p.2.d) (List.filter (fun _ => true) x.ln) = Cd.ds (x.ln.map (·.2)) := by
      rw [List.filter_eq_self.mpr (by simp), ds_map, List.map_map]; rfl
    rw [e1]
    walk_at "dl"
    rw [ds_len, ds_len, List.length_map]
    refine ⟨sz (by omega), fun hL3 => ⟨hL3, ?_⟩⟩
    refine wLcL_lst x.cs Ch.d (fun _ => true) (fun p => p.c.d) (fun p acc k3 hcs hk3 => ?_) ?_
    · rw [Ch.d]
      walk_at "dl"
      simpa using hk3
    have e2 : List.map (fun p : Ch => p.c.d) (List.filter (fun _ => true) x.cs) = Cd.ds (x.cs.map (·.c)) := by
      rw [List.filter_eq_self.mpr (by simp), ds_map, List.map_map]; rfl
    rw [e2]
    walk_at "dl"
    rw [ds_len, ds_len, ds_len, List.length_map, List.length_map]
    refine ⟨sz (by omega), fun hL4 => ⟨hL4, ?_⟩⟩
    refine wLcL_lst x.cs Ch.d (fun _ => true) (fun p => .int (ab p.ch)) (fun p acc k3 hcs hk3 => ?_) ?_
    · rw [Ch.d]
      walk_at "dl"
      simpa [ab] using hk3
    have e3 : List.map (fun p : Ch => D.int (ab p.ch)) (List.filter (fun _ => true) x.cs) = (absS x).map D.int := by
      rw [List.filter_eq_self.mpr (by simp), absS, List.map_map]; rfl
    rw [e3]
    walk_at "dl"
    have la : (absS x).length = x.cs.length := by rw [absS, List.length_map]
    refine ⟨sz (by omega), m :: absS x, rfl, by simp, fun m' h1 h2 => ?_⟩
    walk_at "dl"
    have hm' : m' = max m (mx (absS x)) := by
      have e0 : 0 ≤ m := by rw [hm]; exact mx_nn _
      apply Int.le_antisymm
      · rcases List.mem_cons.mp h1 with e | h
        · omega
        · have := mx_le _ _ h; omega
      · have a1 := h2 m List.mem_cons_self
        rcases mx_mem (absS x) with e | e
        · omega
        · have := h2 _ (List.mem_cons_of_mem _ e); omega
    refine hk _ ⟨T ++ x.ln.map (·.2) ++ x.cs.map (·.c), m', _, by rw [ds_app, ds_app], ?_, ?_, ?_⟩
    · rw [szs_app, szs_app]
      have a1 := szs_sum (x.ln.map (·.2)) fun c hc => by
        obtain ⟨p, hp, rfl⟩ := List.mem_map.mp hc
        exact xo.lc p hp
      have a2 := szs_sum (x.cs.map (·.c)) fun c hc => by
        obtain ⟨p, hp, rfl⟩ := List.mem_map.mp hc
        exact (xo.cc p hp).1
      rw [List.length_map] at a1 a2
      omega
    · rw [hm', hm, List.take_add_one, hxs, List.flatMap_append, mx_app]
      simp
    · rw [gq_app, gq_app, hg, List.take_add_one, hxs, List.flatMap_append, gq_app]
      simp only [Option.toList_some, List.flatMap_cons, List.flatMap_nil, List.append_nil, cdsS, gq_app]
      omega
  · obtain ⟨T, m, y3, rfl, hT, hm, hg⟩ := hI
    rw [List.length_map] at hT
    rw [List.length_map, List.take_length] at hm hg
    walk_at "dl"
    rw [t_u_law_most_3_e]
    unfold b_u_law_most_5
    have htq : max m (gq T) = tq y.sc := by rw [hm, hg]; rfl
    have hm0 : 0 ≤ m := by rw [hm]; exact mx_nn _
    refine wWh_run (fun n Γ => ∃ (W : List Cd) (m : Int) (y4 : Option R), n = Cd.szs W ∧ Cd.szs W ≤ 400 ∧ max m (gq W) = tq y.sc ∧ 0 ≤ m ∧ Γ = [some (.val (.tup [.tup (y.ms.map efD), .int y.gd, .str y.bg, .tup (y.sc.map Sc.d)])), some (.lst (Cd.ds W)), some (.val (.int m)), y3, y4, none, none, none]) (fun n Γ k hI hk => ?_) (n := Cd.szs T) ⟨T, m, none, rfl, by omega, htq, hm0, rfl⟩
    obtain ⟨W, m, y4, hn, hl, hmq, hm0, rfl⟩ := hI
    walk_at "dl"
    rw [ds_len]
    refine ite2 (fun hW => ?_) fun hW => ?_
    · obtain ⟨p, hp⟩ : ∃ p, W = W.dropLast ++ [p] := ⟨W.getLast (by intro e; subst e; simp at hW), (List.dropLast_concat_getLast _).symm⟩
      generalize W.dropLast = V at hp
      subst hp
      have e1 : Cd.szs [p] = Cd.szs p.wi + 1 := by rw [Cd.szs, Cd.szs, sz_wi p]
      rw [szs_app, e1] at hn hl
      rw [gq_app] at hmq
      have zl := szs_len p.wi
      have zv := szs_len V
      have qv := gq_nn V
      unfold b_u_law_most_2
      rw [ds_app, Cd.ds, Cd.ds]
      walk_at "dl"
      refine ⟨p.d, by rw [Nat.add_sub_cancel, List.getElem?_append_right (Nat.le_refl _)]; simp, ?_⟩
      walk_at "dl"
      rw [List.dropLast_concat]
      rcases p with _ | s | g | q | ⟨a, cs⟩
      case many =>
        rw [gq_many] at hmq
        simp only [Cd.wi] at hn hl
        have lc := szs_len cs
        cases a <;> (rw [Cd.d]; walk_at "dl"; walk_at "kd"; rw [in_two]; simp only [k1, k2, k3, k4, k5, k6]; walk_at "dl"; rw [ds_len, ds_len]; exact ⟨sz (by omega), hk (Cd.szs (V ++ cs)) _ (by rw [szs_app]; omega) ⟨V ++ cs, m, _, rfl, by rw [szs_app]; omega, by rw [gq_app]; exact hmq, hm0, by rw [ds_app]⟩⟩)
      case no =>
        rw [gq_no] at hmq
        simp only [Cd.wi] at hn hl
        rw [Cd.d]; walk_at "dl"; walk_at "kd"; rw [ds_len]
        exact ⟨sz (by omega), hk (Cd.szs (V ++ [q])) _ (by rw [szs_app]; omega) ⟨V ++ [q], m, _, rfl, by rw [szs_app]; omega, by rw [gq_app]; exact hmq, hm0, by rw [ds_app]; rfl⟩⟩
      case gold =>
        rw [gq_gold] at hmq
        simp only [Cd.wi, Cd.szs] at hn hl
        rw [Cd.d]; walk_at "dl"; walk_at "kd"
        exact hk (Cd.szs V) _ (by omega) ⟨V, _, _, rfl, by omega, by split <;> omega, by split <;> omega, rfl⟩
      case has =>
        rw [gq_has] at hmq
        simp only [Cd.wi, Cd.szs] at hn hl
        rw [Cd.d]; walk_at "dl"; walk_at "kd"; rw [in_two]; simp only [decide_eq_false_iff_not.mpr, k1, k2, k3, k4, k5, k6]; walk_at "dl"
        exact hk (Cd.szs V) _ (by omega) ⟨V, m, _, rfl, by omega, by omega, hm0, rfl⟩
      case al =>
        rw [gq_al] at hmq
        simp only [Cd.wi, Cd.szs] at hn hl
        rw [Cd.d]; walk_at "dl"; walk_at "kd"; rw [in_two]; simp only [k1, k2, k3, k4, k5, k6]; walk_at "dl"
        exact hk (Cd.szs V) _ (by omega) ⟨V, m, _, rfl, by omega, by omega, hm0, rfl⟩
    · have e : W = [] := List.eq_nil_of_length_eq_zero (by omega)
      subst e
      walk_at "dl"
      rw [t_u_law_most_4_e]
      walk_at "dl"
      rw [gq_nil] at hmq
      have : m = tq y.sc := by omega
      rw [this]
      exact hr
end Nk05

set_option maxHeartbeats 4000000
namespace Nk05
open PySem PySem.Spec L2 DL
local macro_rules | `(tactic| walk_at "dl") => `(tactic| simp (config := { failIfUnchanged := false, maxSteps := 2000000 }) only [↓wVar_q, lx_TaleError, ht_0, ht_1, ht_2, ht_3, ht_4, lx_BadStory, ht_5, ht_6, ht_7, ht_8, ht_9, vx_BadStory_scene, vx_BadStory_place, vx_BadStory_word, lx_BadStep, ht_10, ht_11, ht_12, ht_13, ht_14, vx_BadStep_word, lx_NoSuch, ht_15, ht_16, ht_17, ht_18, ht_19, vx_NoSuch_word, vx_NoSuch_name, lx_Taken, ht_20, ht_21, ht_22, ht_23, ht_24, vx_Taken_name, ln_0, ln_1, ln_2, ln_3, ln_4, ln_5, ln_6, ln_7, ln_8, ln_9, ln_10, ln_11, ln_12, ln_13, ln_14, ln_15, ln_16, ln_17, ln_18, ln_19, ln_20, ln_21, ln_22, ln_23, ln_24, ln_25, ln_26, ln_27, ln_28, ln_29, ln_30, ln_31, ln_32, ln_33, ln_34, ln_35, ln_36, ln_37, ln_38, ln_39, ln_40, ln_41, ln_42, ln_43, ln_44, ln_45, ln_46, ln_47, ↓wC_q, ↓wBin_q, ↓wUn_q, ↓wB_e, ↓wAnd_q, ↓wOr_q, ↓wNot_q, ↓wAndV_q, ↓wOrV_q, ↓wNotV_q, ↓wIfE_q, ↓wChain_q, ↓wNil_q, ↓wCons_q, ↓wTup_q, ↓wLst_q, ↓wCB_q, ↓Rd_v, ↓Rd_l, ↓Rd_d, ↓Rs_v, ↓Rs_l, ↓Rs_d,
  ↓wAdd_i, ↓wAdd_s, ↓wAdd_l, ↓wAdd_t, ↓wSub_i, ↓wMul_i, ↓wMul_l, ↓wMul_s, ↓wMod_i, ↓wDiv_i, ↓wPow_i, ↓wShl_i, ↓wShr_i, ↓wBAnd_i, ↓wBOr_i, ↓wBXor_i, ↓wLt_i, ↓wLe_i, ↓wGt_i, ↓wGe_i, ↓wLt_s, ↓wGt_s, ↓wEq_i, ↓wNe_i, ↓wEq_s, ↓wNe_s, ↓wEq_b, ↓wNe_b, ↓wIsN_n, ↓wNotN_n, ↓wIsN_t, ↓wNotN_t, ↓wIsN_i, ↓wNotN_i, ↓wIsN_s, ↓wNotN_s,
  ↓wIx_t, ↓wIx_l, ↓wIx_f, ↓wIx_d, ↓ixK_0, ↓ixK_1, ↓ixK_2, ↓ixK_3, ↓ixK_4, ↓ixK_5, ↓len_t, ↓len_l, ↓len_f, ↓len_s, ↓len_d, ↓lenK_s, ↓wLen_1, ↓wLenV_e, ↓items_t, ↓items_l, ↓items_f, ↓items_s, ↓asInt_i, ↓asInt_b, ↓wIter_e, ↓wInt_1, ↓wAbs_1, ↓wMax_1, ↓wMin_1, ↓wList_l, ↓wList_t, ↓wList_f, ↓wList_s, ↓wTuple_l, ↓wTuple_t, ↓wAll_1, ↓wAny_1, ↓wSum_1, ↓wIsi_1, ↓ty_i, ↓ty_b, ↓ty_s, ↓ty_t, ↓ty_l, ↓ty_f, ↓ty_n, ↓wNeg_i, ↓wRng1_e, ↓wRng2_e,
  ↓isLst_l, ↓wAppend_e, ↓wPop_e, ↓wSetIx_e, ↓look_s, ↓wVB_e, ↓wBV_e, ↓isInt_i, ↓wAugI_e, ↓wIn_e, ↓inK_s, ↓wGtup_e, ↓wGcons_e, ↓wGnil_e, ↓bxGo_q, ↓isBx_b, ↓bxIn_e, ↓bxPos_i, ↓wBIx_e, ↓wBSet_e, ↓lsK_l, ↓wBAppend_e, ↓wBPop_e, ↓wBPopAt_e, ↓wBInsert_e, ↓refK_l, ↓wBLen_e, ↓wBIx2_e, ↓bxv_lf, ↓bxr_ls, ↓bxr_dc, ↓bxa_ls, ↓bxa_lf, ↓bxK_n, ↓bxK_v, ↓bxK_l, ↓wSl_t, ↓wSl_l, ↓wSl_f, ↓wSl_s, ↓mT_q, ↓isT_e, ↓in_ints, ↓in_intsL,
  ↓wMeth_q, ↓wXis_q, ↓wXiv_q, ↓wExt_q, ↓seqD_l, ↓seqD_t, ↓seqK_s, ↓wSrtSet_q, ↓wTxt_up, ↓wTry_e, ↓wHds_n, ↓wHds_c, ↓inX_n, ↓inX_s, ↓bindX_n, ↓bindX_s, ↓clrX_n, ↓clrX_s, ↓unX_e, ↓xcK_s, ↓wXf_e, ↓wRaise_e, ↓lkK_s, ↓tyD_s, ↓tyD_l, ↓tyD_d, ↓wTr_e, ↓truK_s, ↓tru_b, ↓tru_i, ↓tru_s, ↓tru_n, ↓tru_t, ↓tru_l, ↓tru_f, ↓tru_d, ↓oneK_1, ↓lstK_l, ↓lstK_f, ↓wEnum_e, ↓wRevd_e, ↓keyK1_s, ↓keyOf_i, ↓keyOf_s, ↓wPrs_0, ↓wPrs_1, ↓wDc_q, ↓wDisp_q, ↓wN_q, ↓wNext_q, ↓wSeq_q, ↓wBrk_q, ↓wCt_q, ↓wDrop_q, ↓wRet_q, ↓wMov_q, ↓wRetN_q, ↓wSet_q, ↓wAsg_q, ↓wIf_q, ↓wForS_q, ↓look_q, ↓wNoP_q, ↓wPt_e, ↓wSlice_q, ↓wSliceV_e, ↓wLc_q, ↓wLc2_q, ↓wYes_q, ↓wPar_q, ↓wFn_q, ↓wCall_q, ↓wFnK_q, ↓wFnK0_q, ↓wCallK_q, ↓pk_q, ↓wBox_q, ↓wONil_q, ↓wOCons_q, ↓ini_q, ↓ixN,
  List.getElem?_cons_zero, List.getElem?_cons_succ, List.getElem?_nil, List.set_cons_zero, List.set_cons_succ, List.length_cons, List.length_nil, List.map_cons, List.map_nil, List.cons_append, List.nil_append, List.replicate, List.length_map, List.length_set, List.length_replicate, List.length_append, sapp_len, s1_len, repS_len,
  wipeG, sv, DL.rest, List.filterMap_cons, List.filterMap_nil, isi_ib, isi_ii, isi_bb, isi_bi, isi_tt, isi_it, isi_ti, isi_tb, isi_bt,
  and_true, true_and, and_self, true_or, or_true, ite_true, ite_false, if_true, if_false, reduceIte, decide_eq_true_eq, decide_eq_false_iff_not, Bool.not_eq_true', Nat.reduceAdd, Nat.reduceSub, Nat.reduceLT, Nat.reduceLeDiff, Int.reduceLT, Int.reduceLE, Int.reduceNeg, Int.reduceToNat, Int.reduceAdd, Int.reduceSub, Int.reduceMul, Int.reducePow, Nat.zero_add, Int.cast_ofNat_Int, reduceCtorEq, false_and, and_false, exists_false, false_or, or_false, not_false_eq_true, not_true_eq_false, Bool.false_eq_true, Bool.true_eq_false, Bool.not_true, Bool.not_false, decide_true, decide_false, szL, szL', forall_const, exists_const, implies_true, true_implies])
local macro_rules | `(tactic| walk_at "cm") => `(tactic| first
  | trivial
  | exact cmulR (by decide) (by decide) | exact cmulL (by decide) (by decide)
  | exact cmulR (by omega) (by omega) | exact cmulL (by omega) (by omega)
  | exact sz (by decide) | exact sz (by omega) | exact sz' (by omega)
  | exact (show CDiv _ _ from ⟨by omega, by omega⟩)
  | exact (show CPow _ _ from ⟨by omega, by omega, by decide⟩)
  | decide | omega)
local macro_rules | `(tactic| walk_at "cs") => `(tactic| repeat' (first | (refine And.intro ?_ ?_ <;> first | (walk_at "cm"; done) | skip) | fail))
local macro_rules | `(tactic| walk_at "sl") => `(tactic| (first | refine sz ?_ | refine sz' ?_ | skip) <;> (try simp only [sapp_len, s1_len, repS_len, ln_0, ln_1, ln_2, ln_3, ln_4, ln_5, ln_6, ln_7, ln_8, ln_9, ln_10, ln_11, ln_12, ln_13, ln_14, ln_15, ln_16, ln_17, ln_18, ln_19, ln_20, ln_21, ln_22, ln_23, ln_24, ln_25, ln_26, ln_27, ln_28, ln_29, ln_30, ln_31, ln_32, ln_33, ln_34, ln_35, ln_36, ln_37, ln_38, ln_39, ln_40, ln_41, ln_42, ln_43, ln_44, ln_45, ln_46, ln_47]) <;> omega)
local macro_rules | `(tactic| walk_at "an") => `(tactic| repeat ((with_reducible refine And.intro ?_ ?_); (focus (first | (walk_at "sl"; done) | (walk_at "cm"; done)))))
/-! ### the chest -/
def C05 : Option (List Key) → List BxC → Prop := fun ks ts => ks = none ∧ ∃ (l : List Int) (t m h : Int), ts = [.lf (.lst (l.map D.int)), .lf (.int t), .lf (.int m), .lf (.int h)] ∧ 0 ≤ t
def f_draw : WF := fun ds rt _ => ∃ n p : Int, ds = [.tok, .int n, .int p] ∧ 0 < n ∧ ∀ r : Nat, (r : Int) < n → rt (.val (.int (r : Nat)))
theorem h_draw (es rt xp a ks ts) (_ : es.length = 2) (h : f_draw (.tok :: es) rt xp) (hc : C05 ks ts) :
    b_u_law_draw (some (.bx a ks ts) :: ini (N_u_law_draw.length - 1) es) { nx := shutQ C05 a (a :: adS ts) (rt (.val .non)), rt := fun r => shutQ C05 a (a :: adS ts) (rt r), xp := fun x => shutQ C05 a (a :: adS ts) (xp x) } := by
  obtain ⟨n, p, he, hn, hr⟩ := h
  cases he
  obtain ⟨rfl, l, t, m, hh, rfl, ht⟩ := hc
  have fin : ∀ (t' m' r : Int) (Γ : Nv), 0 ≤ t' → 0 ≤ r → r < n → shutQ C05 a (a :: adS [BxC.lf (D.lst (List.map D.int l)), BxC.lf (D.int t), BxC.lf (D.int m), BxC.lf (D.int hh)]) (rt (R.val (D.int r)))
      (some (R.bx a none [BxC.lf (D.lst (List.map D.int l)), BxC.lf (D.int t'), BxC.lf (D.int m'), BxC.lf (D.int hh)]) :: Γ) := fun t' m' r Γ h0 h1 h2 =>
    ⟨none, _, rfl, ⟨rfl, l, t', m', hh, rfl, h0⟩, rfl, by have := hr r.toNat (by omega); rwa [Int.toNat_of_nonneg h1] at this⟩
  have rng : ∀ z : Int, 0 ≤ z % n ∧ z % n < n := fun z => ⟨Int.emod_nonneg _ (by omega), Int.emod_lt_of_pos _ hn⟩
  simp only [b_u_law_draw, b_u_law_draw_1, t_u_law_draw_2, b_u_law_draw_2, t_u_law_draw_3, b_u_law_draw_3, b_u_law_draw_4, t_u_law_draw_4, b_u_law_draw_5, t_u_law_draw_5, t_u_law_draw_6, b_u_law_draw_6, b_u_law_draw_7, t_u_law_draw_7, t_u_law_draw_8, b_u_law_draw_8]
  walk_at "dl"
  refine ⟨by walk_at "cm", by walk_at "cm", ?_⟩
  rw [show D.tup [D.int 6, D.int 20] = D.tup (([6, 20] : List Int).map D.int) from rfl, in_ints]
  walk_at "dl"
  refine ite2 (fun _ => fin _ _ _ _ (by omega) (by omega) hn) fun _ => ite2 (fun _ => fin _ _ _ _ (by omega) (by omega) (by omega)) fun _ => ite2 (fun _ => ⟨by walk_at "cm", hn, fin _ _ _ _ (by omega) (rng _).1 (rng _).2⟩) fun _ => ite2 (fun hl => ?_) fun _ => ⟨by walk_at "cm", by walk_at "cm", by walk_at "cm", hn, fin _ _ _ _ (by omega) (rng _).1 (rng _).2⟩
  refine ixK_n (n := t.toNat) (d := .int (l[t.toNat]'(by omega))) (by rw [List.getElem?_map, List.getElem?_eq_getElem (by omega)]; rfl) (by omega) ?_
  walk_at "dl"
  exact ⟨hn, fin _ _ _ _ (by omega) (rng _).1 (rng _).2⟩
def f_chest : WF := fun ds rt _ => ∃ ns : List Int, ds = [.fro (ns.map D.int)] ∧ ns.length ≤ 63 ∧ ∀ (l : List Int) (m : Int), rt (.lst [.lst (l.map D.int), .int 0, .int m, .int m])
theorem h_chest (ds rt xp) (h : f_chest ds rt xp) : b_u_law_chest (ini N_u_law_chest.length ds) (mR rt xp) := by
  obtain ⟨ns, rfl, hl, hr⟩ := h
  unfold b_u_law_chest b_u_law_chest_3
  walk_at "dl"
  rw [t_u_law_chest_2_e]
  unfold b_u_law_chest_4
  walk_at "dl"
  have hcl : (cutL ns none (some 40)).length ≤ 63 := Nat.le_trans (cutL_len _ _ _) hl
  rw [cutL_map]
  intro _
  refine wFor_run (fun i Γ => ∃ (l : List Int) (m : Int) (y3 y4 y5 : Option R), Γ = [some (R.val (D.fro (List.map D.int ns))), some (.lst (l.map D.int)), some (.val (.int m)), y3, y4, y5] ∧ l.length ≤ 77 * i) (fun i d Γ k hd hI hk => ?_) (fun Γ hI => ?_) ⟨[], _, _, _, _, rfl, Nat.le_refl _⟩
  · obtain ⟨l, m, y3, y4, y5, rfl, hli⟩ := hI
    obtain ⟨n, hn, rfl⟩ := map_get hd
    have hi : i < 63 := by
      have := (List.getElem?_eq_some_iff.mp hn).1
      omega
    unfold b_u_law_chest_2
    walk_at "dl"
    refine ⟨by walk_at "cm", by decide +kernel, by walk_at "cm", by walk_at "cm", ?_⟩
    generalize ((m * 30269 + (if n < 0 then -n else n) % (1 * 2 ^ 1020) % 1000187 + 31 * if n < 0 then 1 else 0) % 2147483477) = m'
    generalize ((if n < 0 then -n else n) % (1 * 2 ^ 1020)) = z
    refine wFor_run (fun j Γ => ∃ (l : List Int) (z : Int) (y5 : Option R), Γ = [some (R.val (D.fro (List.map D.int ns))), some (.lst (l.map D.int)), some (.val (.int m')), some (.val (.int n)), some (.val (.int z)), y5] ∧ l.length ≤ 77 * i + j) (fun j d Γ k3 hd3 hI3 hk3 => ?_) (fun Γ hI3 => ?_) ⟨l, _, _, rfl, by omega⟩
    · obtain ⟨l, z, y5, rfl, hli⟩ := hI3
      obtain ⟨hj, rfl⟩ := rng_get hd3
      unfold b_u_law_chest_1
      walk_at "dl"
      have lz : l.length < sizeLine := sz' (by omega)
      have go : l.length < sizeLine ∧ CDiv z 9901 ∧ k3 [some (R.val (D.fro (List.map D.int ns))), some (R.lst (List.map D.int l ++ [D.int (z % 9901)])), some (R.val (D.int m')), some (R.val (D.int n)), some (R.val (D.int (z / 9901))), some (R.val (D.int (0 + ↑j)))] :=
        ⟨lz, by walk_at "cm", hk3 _ ⟨l ++ [z % 9901], _, _, by rw [List.map_append]; rfl, by simp; omega⟩⟩
      refine ite2 (fun _ => go) fun _ => ite2 (fun _ => go) fun _ => ⟨by walk_at "cm", hk3 _ ⟨l, _, _, rfl, by omega⟩⟩
    · obtain ⟨l, z, y5, rfl, hli⟩ := hI3
      rw [rng_len] at hli
      exact hk _ ⟨l, _, _, _, _, rfl, by omega⟩
  · obtain ⟨l, m, y3, y4, y5, rfl, hli⟩ := hI
    walk_at "dl"
    rw [t_u_law_chest_3_e]
    unfold b_u_law_chest_5
    walk_at "dl"
    exact hr l m

def f_names : WF := fun ds rt _ => ∃ (n : Nat) (z p : Int), ds = [.tok, .int z, .int p] ∧ z = n ∧ n ≤ 6 ∧ ∀ os : List Str, os.length = n → (∀ s ∈ os, s.length ≤ 12) → rt (.lst (os.map D.str))
def stemL : List Str := ["hall", "h", "hal", "hallway", "k9", "pit"]
theorem draw_i (m p : Int) (rt : R → Prop) (xp : XD → Prop) (h1 : 0 < m) (h2 : ∀ r : Nat, (r : Int) < m → rt (.val (.int (r : Nat)))) : f_draw [.tok, .int m, .int p] rt xp := ⟨m, p, rfl, h1, h2⟩
theorem pick_s {L : List Str} {q : Nat} {P : R → Prop} {k : Nat} (hq : q < L.length) (hL : ∀ s ∈ L, s.length ≤ k) (h : ∀ s ∈ L, s.length ≤ k → P (.val (.str s))) : ixK (L.map D.str) (q : Int) fun d => P (.val d) := by
  refine ixK_n (n := q) (d := .str L[q]) (by rw [List.getElem?_map, List.getElem?_eq_getElem hq]; rfl) rfl ?_
  exact h _ (List.getElem_mem hq) (hL _ (List.getElem_mem hq))
theorem h_names (ds rt xp) (h : f_names ds rt xp) : b_u_law_names f_draw (ini N_u_law_names.length ds) (mR rt xp) := by
  obtain ⟨n, z, p, rfl, rfl, hn, hr⟩ := h
  unfold b_u_law_names b_u_law_names_2
  walk_at "dl"
  rw [t_u_law_names_2_e]
  unfold b_u_law_names_3
  walk_at "dl"
  refine draw_i _ _ _ _ (by omega) fun q hq => ?_
  walk_at "dl"
  rw [show [D.str (Str.ofString "hall"), D.str (Str.ofString "h"), D.str (Str.ofString "hal"), D.str (Str.ofString "hallway"), D.str (Str.ofString "k9"), D.str (Str.ofString "pit")] = stemL.map D.str from rfl]
  refine ixK_n (n := q) (d := .str (stemL[q]'(by show q < 6; omega))) (by rw [List.getElem?_map, List.getElem?_eq_getElem (by show q < 6; omega)]; rfl) rfl ?_
  have hst : (stemL[q]'(by show q < 6; omega)).length ≤ 7 := (show ∀ s ∈ stemL, s.length ≤ 7 by decide +kernel) _ (List.getElem_mem _)
  generalize (stemL[q]'(by show q < 6; omega)) = st at hst ⊢
  walk_at "dl"
  rw [t_u_law_names_3_e]
  unfold b_u_law_names_4
  walk_at "dl"
  refine ⟨by omega, by omega, ?_⟩
  refine wFor_run (fun i Γ => ∃ (T : List Str) (y6 y7 : Option R), Γ = [some (R.val D.tok), some (R.val (D.int (n : Nat))), some (R.val (D.int p)), some (R.val (D.tup (stemL.map D.str))), some (.lst (T.map D.str)), some (.val (.str st)), y6, y7] ∧ T.length = i ∧ ∀ s ∈ T, s.length ≤ 12) (fun i d Γ k hd hI hk => ?_) (fun Γ hI => ?_) ⟨[], _, _, rfl, rfl, by simp⟩
  · obtain ⟨T, y6, y7, rfl, hT, hS⟩ := hI
    obtain ⟨hi, rfl⟩ := rng_get hd
    have hi6 : i < 6 := by omega
    unfold b_u_law_names_1
    walk_at "dl"
    walk_at "an"
    have c1 := cutS_length st none (some 6)
    have c2 := cutS_length st none (some 1)
    have key : ∀ L : List Str, L.length = 6 → (∀ s ∈ L, s.length ≤ 12) → ixK (L.map D.str) (0 + (i : Nat)) fun d => T.length < sizeLine ∧ k [some (R.val D.tok), some (R.val (D.int ↑n)), some (R.val (D.int p)), some (R.val (D.tup (List.map D.str stemL))), some (R.lst (List.map D.str T ++ [d])), some (R.val (D.str st)), some (R.val (D.int (0 + ↑i))), some (R.val d)] := fun L hL6 hL => by
      have hi' : i < L.length := by omega
      refine ixK_n (n := i) (d := .str L[i]) (by rw [List.getElem?_map, List.getElem?_eq_getElem hi']; rfl) (by omega) ?_
      refine ⟨sz' (by omega), hk _ ⟨T ++ [L[i]], _, _, by rw [List.map_append]; rfl, by simp; omega, fun s hs => ?_⟩⟩
      rcases List.mem_append.mp hs with h | h
      · exact hS s h
      · simp at h; subst h; exact hL _ (List.getElem_mem hi')
    refine ⟨sz (by omega), sz (by omega), key [st, st ++ Str.ofString "a", st ++ Str.ofString "0", Str.ofString "z" ++ cutS st none (some 6), Str.ofString "b", cutS st none (some 1) ++ Str.ofString "zz9"] rfl fun s hs => ?_⟩
    simp only [List.mem_cons, List.not_mem_nil, or_false] at hs
    rcases hs with rfl | rfl | rfl | rfl | rfl | rfl <;> walk_at "sl"
  · obtain ⟨T, y6, y7, rfl, hT, hS⟩ := hI
    rw [rng_len, Int.toNat_natCast] at hT
    walk_at "dl"
    rw [t_u_law_names_4_e]
    unfold b_u_law_names_5
    walk_at "dl"
    refine .inr (.inl ⟨T, rfl, by omega, fun zs pm so => ?_⟩)
    walk_at "dl"
    exact hr zs (by rw [pm.length_eq, hT]) fun s hs => hS s (pm.mem_iff.mp hs)

/-! ### sayings, conditions -/
def f_saying : WF := fun ds rt _ => ∃ z : Int, ds = [.tok, .int z] ∧ 0 ≤ z ∧ ∀ s : Str, rt (.val (.str s))
theorem h_saying (ds rt xp) (h : f_saying ds rt xp) : b_u_law_saying (ini N_u_law_saying.length ds) (mR rt xp) := by
  obtain ⟨z, rfl, hz, hr⟩ := h
  obtain ⟨a, rfl⟩ := Int.eq_ofNat_of_zero_le hz
  unfold b_u_law_saying b_u_law_saying_1
  walk_at "dl"
  rw [t_u_law_saying_2_e]
  unfold b_u_law_saying_2
  walk_at "dl"
  have key : ∀ L : List Str, L.length = 6 → (∀ s ∈ L, s.length ≤ 30) → ixK (L.map D.str) ((a : Int) % 6) fun d => if (a : Int) < 6 then wAdd d (D.str (Str.ofString "")) fun c => rt c else wAdd d (D.str (Str.ofString "7")) fun c => rt c := fun L hL6 hL => by
    have m0 : 0 ≤ (a : Int) % 6 := by omega
    have m1 : (a : Int) % 6 < 6 := by omega
    have hi' : ((a : Int) % 6).toNat < L.length := by omega
    refine ixK_n (n := ((a : Int) % 6).toNat) (d := .str L[((a : Int) % 6).toNat]) (by rw [List.getElem?_map, List.getElem?_eq_getElem hi']; rfl) (by omega) ?_
    have hl := hL _ (List.getElem_mem hi')
    walk_at "dl"
    refine ite2 (fun _ => ⟨by walk_at "sl", hr _⟩) fun _ => ⟨by walk_at "sl", hr _⟩
  exact key ["go", "a dark hall", "9", "take the lamp again and again", "x y", "dig"] rfl (by decide +kernel)

theorem d_and (cs : List Cd) : (Cd.many true cs).d = .tup [.str "and", .tup (Cd.ds cs)] := by rw [Cd.d]
theorem d_or (cs : List Cd) : (Cd.many false cs).d = .tup [.str "or", .tup (Cd.ds cs)] := by rw [Cd.d]
theorem d_no (c : Cd) : (Cd.no c).d = .tup [.str "not", c.d] := by rw [Cd.d]
theorem d_has (s : Str) : (Cd.has s).d = .tup [.str "has", .str s] := by rw [Cd.d]
theorem d_gold (n : Int) : (Cd.gold n).d = .tup [.str "gold", .int n] := by rw [Cd.d]
theorem d_al : Cd.al.d = .tup [.str "always"] := by rw [Cd.d]
theorem szs_ones : ∀ T : List Cd, (∀ c ∈ T, c.sz = 1) → Cd.szs T = T.length
  | [], _ => rfl
  | c :: T, h => by rw [Cd.szs, List.length_cons, h c (by simp), szs_ones T fun c hc => h c (by simp [hc])]; omega
theorem szs_set : ∀ (T : List Cd) (j : Nat) (c : Cd) (h : j < T.length), Cd.szs (T.set j c) + (T[j]).sz = Cd.szs T + c.sz
  | x :: T, 0, c, _ => by
    show Cd.szs (c :: T) + x.sz = Cd.szs (x :: T) + c.sz
    rw [Cd.szs, Cd.szs]; omega
  | x :: T, j + 1, c, h => by
    show Cd.szs (x :: T.set j c) + (T[j]'(by simpa using h)).sz = Cd.szs (x :: T) + c.sz
    have := szs_set T j c (by simpa using h)
    rw [Cd.szs, Cd.szs]; omega
theorem ds_set (T : List Cd) (j : Nat) (c : Cd) : Cd.ds (T.set j c) = (Cd.ds T).set j c.d := by
  rw [ds_map, ds_map, List.map_set]
def f_condition : WF := fun ds rt _ => ∃ (ms : List Str) (z : Int), ds = [.tok, .lst (ms.map D.str), .int z] ∧ 0 ≤ z ∧ ms.length ≤ 60 ∧ ∀ c : Cd, c.sz ≤ 6 → rt (.val c.d)
theorem ds_get {T : List Cd} {n : Nat} (h : n < T.length) : (Cd.ds T)[n]? = some (T[n]).d := by
  rw [ds_map, List.getElem?_map, List.getElem?_eq_getElem h]; rfl
theorem h_condition (ds rt xp) (h : f_condition ds rt xp) : b_u_law_condition f_draw (ini N_u_law_condition.length ds) (mR rt xp) := by
  obtain ⟨ms, z, rfl, hz, hml, hr⟩ := h
  unfold b_u_law_condition
  walk_at "dl"
  rw [t_u_law_condition_2_e]
  unfold b_u_law_condition_2
  walk_at "dl"
  refine draw_i _ _ _ _ (by omega) fun q hq => ?_
  walk_at "dl"
  obtain ⟨n, hn, hn4, hn1⟩ : ∃ n : Nat, [D.int 1, D.int 1, D.int 2, D.int 3, D.int 4][q]? = some (.int (n : Nat)) ∧ n ≤ 4 ∧ 1 ≤ n := by
    have : q = 0 ∨ q = 1 ∨ q = 2 ∨ q = 3 ∨ q = 4 := by omega
    rcases this with rfl | rfl | rfl | rfl | rfl
    · exact ⟨1, rfl, by omega, by omega⟩
    · exact ⟨1, rfl, by omega, by omega⟩
    · exact ⟨2, rfl, by omega, by omega⟩
    · exact ⟨3, rfl, by omega, by omega⟩
    · exact ⟨4, rfl, by omega, by omega⟩
  refine ixK_n (n := q) hn rfl ?_
  walk_at "dl"
  refine ⟨by omega, by omega, ?_⟩
  refine wFor_run (fun i Γ => ∃ (T : List Cd) (y4 y5 y6 : Option R), Γ = [some (R.val D.tok), some (R.val (D.lst (ms.map D.str))), some (R.val (D.int z)), some (.lst (Cd.ds T)), y4, y5, y6, none] ∧ T.length = i ∧ ∀ c ∈ T, c.sz = 1) (fun i d Γ k hd hI hk => ?_) (fun Γ hI => ?_) ⟨[], _, _, _, rfl, rfl, by simp⟩
  · obtain ⟨T, y4, y5, y6, rfl, hT, hS⟩ := hI
    obtain ⟨hi, rfl⟩ := rng_get hd
    have nx : ∀ (c : Cd) (y5 : Option R) (d : D), c.sz = 1 → d = c.d → (Cd.ds T).length < sizeLine ∧ k [some (R.val D.tok), some (R.val (D.lst (ms.map D.str))), some (R.val (D.int z)), some (.lst (Cd.ds T ++ [d])), some (R.val (D.int (0 + (i : Nat)))), y5, some (.val d), none] := fun c y5 d hc e => by
      subst e
      refine ⟨by rw [ds_len]; exact sz' (by omega), hk _ ⟨T ++ [c], _, _, _, by rw [ds_app]; rfl, by simp; omega, fun c' hc' => ?_⟩⟩
      rcases List.mem_append.mp hc' with h | h
      · exact hS c' h
      · simp at h; subst h; exact hc
    unfold b_u_law_condition_1
    walk_at "dl"
    refine draw_i _ _ _ _ (by omega) fun w hw => ?_
    walk_at "dl"
    refine draw_i _ _ _ _ (by omega) fun g hg => ?_
    walk_at "dl"
    have al := nx .al (some (R.val (D.int w))) _ rfl d_al.symm
    have gg := nx (.gold g) (some (R.val (D.int w))) _ rfl (d_gold g).symm
    refine ite2 (fun _ => ite2 (fun hm => draw_i _ _ _ _ (by omega) fun r hr1 => ?_) fun _ => ite2 (fun _ => al) fun _ => gg) fun _ => ite2 (fun _ => al) fun _ => gg
    walk_at "dl"
    have hr2 : r < ms.length := by omega
    refine ixK_n (n := r) (d := .str ms[r]) (by rw [List.getElem?_map, List.getElem?_eq_getElem hr2]; rfl) rfl ?_
    exact nx (.has ms[r]) (some (R.val (D.int w))) _ rfl (d_has _).symm
  · obtain ⟨T, y4, y5, y6, rfl, hT, hS⟩ := hI
    walk_at "dl"
    rw [t_u_law_condition_3_e]
    unfold b_u_law_condition_3
    walk_at "dl"
    rw [rng_len, Int.toNat_natCast] at hT
    have hsz : Cd.szs T = T.length := szs_ones T hS
    have fin : ∀ (T' : List Cd) (y7 : Option R), T'.length = n → Cd.szs T' ≤ 5 → t_u_law_condition_4 f_draw [some (R.val D.tok), some (R.val (D.lst (List.map D.str ms))), some (R.val (D.int z)), some (R.lst (Cd.ds T')), y4, y5, y6, y7] (mR rt xp) := fun T' y7 hl hs => by
      rw [t_u_law_condition_4_e]
      unfold b_u_law_condition_4
      walk_at "dl"
      rw [ds_len]
      refine ite2 (fun h1 => ?_) fun h1 => ?_
      · have h0 : 0 < T'.length := by omega
        refine ixK_n (n := 0) (ds_get h0) rfl ?_
        exact hr _ (by have := szs_mem T' _ (List.getElem_mem h0); omega)
      · refine draw_i _ _ _ _ (by omega) fun r hr1 => ?_
        walk_at "dl"
        have r01 : r = 0 ∨ r = 1 := by omega
        rcases r01 with rfl | rfl
        · refine ixK_n (n := 0) rfl rfl ?_
          have := hr (.many true T') (by rw [Cd.sz]; omega)
          rw [d_and] at this
          walk_at "dl"
          exact this
        · refine ixK_n (n := 1) rfl rfl ?_
          have := hr (.many false T') (by rw [Cd.sz]; omega)
          rw [d_or] at this
          walk_at "dl"
          exact this
    rw [ds_len]
    refine ite2 (fun h4 => draw_i _ _ _ _ (by omega) fun r hr1 => ?_) fun _ => fin T _ hT (by omega)
    have hr2 : r < T.length := by omega
    walk_at "dl"
    refine ixK_n (n := r) (ds_get hr2) rfl ?_
    rw [if_pos (by omega), if_pos (by omega)]
    have e := ds_set T r (.no T[r])
    rw [d_no] at e
    show t_u_law_condition_4 _ _ _
    rw [Int.toNat_natCast, ← e]
    refine fin _ _ (by rw [List.length_set]; exact hT) ?_
    have := szs_set T r (.no T[r]) hr2
    rw [Cd.sz, hS _ (List.getElem_mem hr2)] at this
    omega
end Nk05

set_option maxHeartbeats 4000000
namespace Nk05
open PySem PySem.Spec L2 DL
local macro_rules | `(tactic| walk_at "dl") => `(tactic| simp (config := { failIfUnchanged := false, maxSteps := 2000000 }) only [↓wVar_q, lx_TaleError, ht_0, ht_1, ht_2, ht_3, ht_4, lx_BadStory, ht_5, ht_6, ht_7, ht_8, ht_9, vx_BadStory_scene, vx_BadStory_place, vx_BadStory_word, lx_BadStep, ht_10, ht_11, ht_12, ht_13, ht_14, vx_BadStep_word, lx_NoSuch, ht_15, ht_16, ht_17, ht_18, ht_19, vx_NoSuch_word, vx_NoSuch_name, lx_Taken, ht_20, ht_21, ht_22, ht_23, ht_24, vx_Taken_name, ln_0, ln_1, ln_2, ln_3, ln_4, ln_5, ln_6, ln_7, ln_8, ln_9, ln_10, ln_11, ln_12, ln_13, ln_14, ln_15, ln_16, ln_17, ln_18, ln_19, ln_20, ln_21, ln_22, ln_23, ln_24, ln_25, ln_26, ln_27, ln_28, ln_29, ln_30, ln_31, ln_32, ln_33, ln_34, ln_35, ln_36, ln_37, ln_38, ln_39, ln_40, ln_41, ln_42, ln_43, ln_44, ln_45, ln_46, ln_47, ↓wC_q, ↓wBin_q, ↓wUn_q, ↓wB_e, ↓wAnd_q, ↓wOr_q, ↓wNot_q, ↓wAndV_q, ↓wOrV_q, ↓wNotV_q, ↓wIfE_q, ↓wChain_q, ↓wNil_q, ↓wCons_q, ↓wTup_q, ↓wLst_q, ↓wCB_q, ↓Rd_v, ↓Rd_l, ↓Rd_d, ↓Rs_v, ↓Rs_l, ↓Rs_d,
  ↓wAdd_i, ↓wAdd_s, ↓wAdd_l, ↓wAdd_t, ↓wSub_i, ↓wMul_i, ↓wMul_l, ↓wMul_s, ↓wMod_i, ↓wDiv_i, ↓wPow_i, ↓wShl_i, ↓wShr_i, ↓wBAnd_i, ↓wBOr_i, ↓wBXor_i, ↓wLt_i, ↓wLe_i, ↓wGt_i, ↓wGe_i, ↓wLt_s, ↓wGt_s, ↓wEq_i, ↓wNe_i, ↓wEq_s, ↓wNe_s, ↓wEq_b, ↓wNe_b, ↓wIsN_n, ↓wNotN_n, ↓wIsN_t, ↓wNotN_t, ↓wIsN_i, ↓wNotN_i, ↓wIsN_s, ↓wNotN_s,
  ↓wIx_t, ↓wIx_l, ↓wIx_f, ↓wIx_d, ↓ixK_0, ↓ixK_1, ↓ixK_2, ↓ixK_3, ↓ixK_4, ↓ixK_5, ↓len_t, ↓len_l, ↓len_f, ↓len_s, ↓len_d, ↓lenK_s, ↓wLen_1, ↓wLenV_e, ↓items_t, ↓items_l, ↓items_f, ↓items_s, ↓asInt_i, ↓asInt_b, ↓wIter_e, ↓wInt_1, ↓wAbs_1, ↓wMax_1, ↓wMin_1, ↓wList_l, ↓wList_t, ↓wList_f, ↓wList_s, ↓wTuple_l, ↓wTuple_t, ↓wAll_1, ↓wAny_1, ↓wSum_1, ↓wIsi_1, ↓ty_i, ↓ty_b, ↓ty_s, ↓ty_t, ↓ty_l, ↓ty_f, ↓ty_n, ↓wNeg_i, ↓wRng1_e, ↓wRng2_e,
  ↓isLst_l, ↓wAppend_e, ↓wPop_e, ↓wSetIx_e, ↓look_s, ↓wVB_e, ↓wBV_e, ↓isInt_i, ↓wAugI_e, ↓wIn_e, ↓inK_s, ↓wGtup_e, ↓wGcons_e, ↓wGnil_e, ↓bxGo_q, ↓isBx_b, ↓bxIn_e, ↓bxPos_i, ↓wBIx_e, ↓wBSet_e, ↓lsK_l, ↓wBAppend_e, ↓wBPop_e, ↓wBPopAt_e, ↓wBInsert_e, ↓refK_l, ↓wBLen_e, ↓wBIx2_e, ↓bxv_lf, ↓bxr_ls, ↓bxr_dc, ↓bxa_ls, ↓bxa_lf, ↓bxK_n, ↓bxK_v, ↓bxK_l, ↓wSl_t, ↓wSl_l, ↓wSl_f, ↓wSl_s, ↓mT_q, ↓isT_e, ↓in_ints, ↓in_intsL,
  ↓wMeth_q, ↓wXis_q, ↓wXiv_q, ↓wExt_q, ↓seqD_l, ↓seqD_t, ↓seqK_s, ↓wSrtSet_q, ↓wTxt_up, ↓wTry_e, ↓wHds_n, ↓wHds_c, ↓inX_n, ↓inX_s, ↓bindX_n, ↓bindX_s, ↓clrX_n, ↓clrX_s, ↓unX_e, ↓xcK_s, ↓wXf_e, ↓wRaise_e, ↓lkK_s, ↓tyD_s, ↓tyD_l, ↓tyD_d, ↓wTr_e, ↓truK_s, ↓tru_b, ↓tru_i, ↓tru_s, ↓tru_n, ↓tru_t, ↓tru_l, ↓tru_f, ↓tru_d, ↓oneK_1, ↓lstK_l, ↓lstK_f, ↓wEnum_e, ↓wRevd_e, ↓keyK1_s, ↓keyOf_i, ↓keyOf_s, ↓wPrs_0, ↓wPrs_1, ↓wDc_q, ↓wDisp_q, ↓wN_q, ↓wNext_q, ↓wSeq_q, ↓wBrk_q, ↓wCt_q, ↓wDrop_q, ↓wRet_q, ↓wMov_q, ↓wRetN_q, ↓wSet_q, ↓wAsg_q, ↓wIf_q, ↓wForS_q, ↓look_q, ↓wNoP_q, ↓wPt_e, ↓wSlice_q, ↓wSliceV_e, ↓wLc_q, ↓wLc2_q, ↓wYes_q, ↓wPar_q, ↓wFn_q, ↓wCall_q, ↓wFnK_q, ↓wFnK0_q, ↓wCallK_q, ↓pk_q, ↓wBox_q, ↓wONil_q, ↓wOCons_q, ↓ini_q, ↓ixN,
  List.getElem?_cons_zero, List.getElem?_cons_succ, List.getElem?_nil, List.set_cons_zero, List.set_cons_succ, List.length_cons, List.length_nil, List.map_cons, List.map_nil, List.cons_append, List.nil_append, List.replicate, List.length_map, List.length_set, List.length_replicate, List.length_append, sapp_len, s1_len, repS_len,
  wipeG, sv, DL.rest, List.filterMap_cons, List.filterMap_nil, isi_ib, isi_ii, isi_bb, isi_bi, isi_tt, isi_it, isi_ti, isi_tb, isi_bt,
  and_true, true_and, and_self, true_or, or_true, ite_true, ite_false, if_true, if_false, reduceIte, decide_eq_true_eq, decide_eq_false_iff_not, Bool.not_eq_true', Nat.reduceAdd, Nat.reduceSub, Nat.reduceLT, Nat.reduceLeDiff, Int.reduceLT, Int.reduceLE, Int.reduceNeg, Int.reduceToNat, Int.reduceAdd, Int.reduceSub, Int.reduceMul, Int.reducePow, Nat.zero_add, Int.cast_ofNat_Int, reduceCtorEq, false_and, and_false, exists_false, false_or, or_false, not_false_eq_true, not_true_eq_false, Bool.false_eq_true, Bool.true_eq_false, Bool.not_true, Bool.not_false, decide_true, decide_false, szL, szL', forall_const, exists_const, implies_true, true_implies])
local macro_rules | `(tactic| walk_at "cm") => `(tactic| first
  | trivial
  | exact cmulR (by decide) (by decide) | exact cmulL (by decide) (by decide)
  | exact cmulR (by omega) (by omega) | exact cmulL (by omega) (by omega)
  | exact sz (by decide) | exact sz (by omega) | exact sz' (by omega)
  | exact (show CDiv _ _ from ⟨by omega, by omega⟩)
  | exact (show CPow _ _ from ⟨by omega, by omega, by decide⟩)
  | decide | omega)
local macro_rules | `(tactic| walk_at "cs") => `(tactic| repeat' (first | (refine And.intro ?_ ?_ <;> first | (walk_at "cm"; done) | skip) | fail))
local macro_rules | `(tactic| walk_at "sl") => `(tactic| (first | refine sz ?_ | refine sz' ?_ | skip) <;> (try simp only [sapp_len, s1_len, repS_len, ln_0, ln_1, ln_2, ln_3, ln_4, ln_5, ln_6, ln_7, ln_8, ln_9, ln_10, ln_11, ln_12, ln_13, ln_14, ln_15, ln_16, ln_17, ln_18, ln_19, ln_20, ln_21, ln_22, ln_23, ln_24, ln_25, ln_26, ln_27, ln_28, ln_29, ln_30, ln_31, ln_32, ln_33, ln_34, ln_35, ln_36, ln_37, ln_38, ln_39, ln_40, ln_41, ln_42, ln_43, ln_44, ln_45, ln_46, ln_47]) <;> omega)
local macro_rules | `(tactic| walk_at "an") => `(tactic| repeat ((with_reducible refine And.intro ?_ ?_); (focus (first | (walk_at "sl"; done) | (walk_at "cm"; done)))))
/-! ### stories -/
def f_story : WF := fun ds rt _ => ∃ (n m : Nat) (z1 z2 z : Int) (b : Bool), ds = [.tok, .int z1, .int z2, .int z, .bl b] ∧ z1 = n ∧ z2 = m ∧ 1 ≤ n ∧ n ≤ 6 ∧ m ≤ 4 ∧ 0 ≤ z ∧ ∀ y : Sy, y.ok → y.sc.length ≤ 6 → rt (.val y.d)
/-- the names of the story's maker -/
def gs (n m : Nat) (z : Int) (b : Bool) (os1 : List Str) (lv : Int) (y6 y8 y9 y10 y11 y12 y13 y14 y15 : Option R) : Nv := [some (R.val D.tok), some (R.val (D.int (n : Nat))), some (R.val (D.int (m : Nat))), some (R.val (D.int z)), some (R.val (D.bl b)), some (R.val (D.lst (List.map D.str os1))), y6, some (R.val (D.int lv)), y8, y9, y10, y11, y12, y13, y14, y15, none, none, none]
def Own (os2 : List Str) (y6 : Option R) : Prop := y6 = some (R.lst (os2.map D.str)) ∨ y6 = some (R.val (D.lst (os2.map D.str)))
section
variable {n m : Nat} {z lv : Int} {b : Bool} {os1 os2 : List Str} {mm : M}
theorem ln_loop {q : Nat} (hq : q ≤ 4) (hz : 0 ≤ z) (ho : os2.length ≤ 60) {y6 y8 y9 y11 y12 y13 y14 y15 : Option R} (h6 : Own os2 y6)
    (hk : ∀ (ln : List (Str × Cd)) (y6 y12 : Option R), Own os2 y6 → ln.length ≤ 4 → (∀ p ∈ ln, p.2.sz ≤ 6) → mm.nx (gs n m z b os1 lv y6 y8 y9 (some (R.lst (ln.map lnD))) y11 y12 y13 y14 y15)) :
    wFor (wN 12) (b_u_law_story_1 f_condition f_draw f_names f_saying) (rng 0 q) (gs n m z b os1 lv y6 y8 y9 (some (R.lst [])) y11 y12 y13 y14 y15) mm := by
  refine wFor_run (fun i Γ => ∃ (ln : List (Str × Cd)) (y6 y12 : Option R), Γ = gs n m z b os1 lv y6 y8 y9 (some (R.lst (ln.map lnD))) y11 y12 y13 y14 y15 ∧ Own os2 y6 ∧ ln.length = i ∧ ∀ p ∈ ln, p.2.sz ≤ 6) (fun i d Γ k hd hI hk2 => ?_) (fun Γ hI => ?_) ⟨[], _, _, rfl, h6, rfl, by simp⟩
  · obtain ⟨ln, y6, y12, rfl, h6, hl, hs⟩ := hI
    obtain ⟨hi, rfl⟩ := rng_get hd
    unfold gs b_u_law_story_1
    walk_at "dl"
    refine draw_i _ _ _ _ (by omega) fun r hr1 => ?_
    walk_at "dl"
    refine ⟨_, rfl, by omega, fun s => ?_⟩
    walk_at "dl"
    rcases h6 with rfl | rfl
    all_goals (
      walk_at "dl"
      refine ⟨os2, z, rfl, hz, ho, fun c hc => ?_⟩
      walk_at "dl"
      refine ⟨sz' (by omega), hk2 _ ⟨ln ++ [(s, c)], _, _, by rw [List.map_append]; rfl, .inr rfl, by simp; omega, fun p hp => ?_⟩⟩
      rcases List.mem_append.mp hp with h | h
      · exact hs p h
      · simp at h; subst h; exact hc)
  · obtain ⟨ln, y6, y12, rfl, h6, hl, hs⟩ := hI
    rw [rng_len] at hl
    exact hk ln _ _ h6 (by omega) hs
theorem ef_loop {q : Nat} (hq : q ≤ 4) (hlv : 0 < q → 0 < lv) (hlm : lv ≤ os2.length) {y6 y8 y9 y10 y11 y12 y13 y15 : Option R} (h6 : Own os2 y6)
    (hk : ∀ (ef : List (Str × Str)) (y15 : Option R), ef.length ≤ 4 → mm.nx (gs n m z b os1 lv y6 y8 y9 y10 y11 y12 y13 (some (R.lst (ef.map efD))) y15)) :
    wFor (wN 15) (b_u_law_story_2 f_condition f_draw f_names f_saying) (rng 0 q) (gs n m z b os1 lv y6 y8 y9 y10 y11 y12 y13 (some (R.lst [])) y15) mm := by
  refine wFor_run (fun i Γ => ∃ (ef : List (Str × Str)) (y15 : Option R), Γ = gs n m z b os1 lv y6 y8 y9 y10 y11 y12 y13 (some (R.lst (ef.map efD))) y15 ∧ ef.length = i) (fun i d Γ k hd hI hk2 => ?_) (fun Γ hI => ?_) ⟨[], _, rfl, rfl⟩
  · obtain ⟨ef, y15, rfl, hl⟩ := hI
    obtain ⟨hi, rfl⟩ := rng_get hd
    have hlv' := hlv (by omega)
    unfold gs b_u_law_story_2
    rcases h6 with rfl | rfl
    all_goals (
      walk_at "dl"
      refine draw_i _ _ _ _ (by omega) fun r hr1 => ?_
      walk_at "dl"
      have hr2 : r < os2.length := by omega
      refine ixK_n (n := r) (d := .str os2[r]) (by rw [List.getElem?_map, List.getElem?_eq_getElem hr2]; rfl) rfl ?_
      walk_at "dl"
      refine draw_i _ _ _ _ (by omega) fun u hu => ?_
      walk_at "dl"
      have fin : ∀ w : Str, ef.length < sizeLine ∧ k (gs n m z b os1 lv _ y8 y9 y10 y11 y12 y13 (some (R.lst (ef.map efD ++ [.tup [.str os2[r], .str w]]))) (some (R.val (D.int (0 + (i : Nat)))))) := fun w =>
        ⟨sz' (by omega), hk2 _ ⟨ef ++ [(os2[r], w)], _, by rw [List.map_append]; rfl, by simp; omega⟩⟩
      unfold gs at fin
      have u3 : u = 0 ∨ u = 1 ∨ u = 2 := by omega
      rcases u3 with rfl | rfl | rfl
      · exact ixK_n (n := 0) rfl rfl (fin _)
      · exact ixK_n (n := 1) rfl rfl (fin _)
      · exact ixK_n (n := 2) rfl rfl (fin _))
  · obtain ⟨ef, y15, rfl, hl⟩ := hI
    rw [rng_len] at hl
    exact hk ef _ (by omega)
theorem st_ln (hz : 0 ≤ z) (ho : os2.length ≤ 60) {y6 y8 y9 y11 y12 y13 y14 y15 : Option R} (h6 : Own os2 y6)
    (hk : ∀ (ln : List (Str × Cd)) (y6 y12 : Option R), Own os2 y6 → ln.length ≤ 4 → (∀ p ∈ ln, p.2.sz ≤ 6) → mm.nx (gs n m z b os1 lv y6 y8 y9 (some (R.lst (ln.map lnD))) y11 y12 y13 y14 y15)) :
    (wForS (wRng1 (wCons (wIfE (wB (wVar 4)) (wC (.int 4)) (wFn 3 f_draw (wCons (wVar 0) (wCons (wC (.int 5)) (wCons (wC (.int 9)) wNil))))) wNil)) (wN 12) (b_u_law_story_1 f_condition f_draw f_names f_saying)) (gs n m z b os1 lv y6 y8 y9 (some (R.lst [])) y11 y12 y13 y14 y15) mm := by
  have L := fun (q : Nat) (hq : q ≤ 4) => ln_loop (n := n) (m := m) (b := b) (os1 := os1) (lv := lv) (y12 := y12) hq hz ho h6 hk
  unfold gs
  walk_at "dl"
  refine ite2 (fun _ => L 4 (by omega)) fun _ => draw_i _ _ _ _ (by omega) fun r hr1 => ?_
  have := L r (by omega)
  unfold gs at this
  walk_at "dl"
  exact ⟨by omega, by omega, this⟩
theorem st_ef (hlm : lv ≤ os2.length) {y6 y8 y9 y10 y11 y12 y13 y15 : Option R} (h6 : Own os2 y6)
    (hk : ∀ (ef : List (Str × Str)) (y15 : Option R), ef.length ≤ 4 → mm.nx (gs n m z b os1 lv y6 y8 y9 y10 y11 y12 y13 (some (R.lst (ef.map efD))) y15)) :
    (wForS (wRng1 (wCons (wIfE (wB (wBin wGt (wVar 7) (wC (.int 0)))) (wIfE (wB (wVar 4)) (wC (.int 3)) (wFn 3 f_draw (wCons (wVar 0) (wCons (wC (.int 4)) (wCons (wC (.int 13)) wNil))))) (wC (.int 0))) wNil)) (wN 15) (b_u_law_story_2 f_condition f_draw f_names f_saying)) (gs n m z b os1 lv y6 y8 y9 y10 y11 y12 y13 (some (R.lst [])) y15) mm := by
  have L := fun (q : Nat) (hq : q ≤ 4) (hl : 0 < q → 0 < lv) => ef_loop (n := n) (m := m) (b := b) (os1 := os1) (z := z) (y15 := y15) hq hl hlm h6 hk
  unfold gs
  walk_at "dl"
  refine ite2 (fun h => ite2 (fun _ => L 3 (by omega) fun _ => h) fun _ => draw_i _ _ _ _ (by omega) fun r hr1 => ?_) fun _ => L 0 (by omega) fun h => absurd h (by omega)
  have := L r (by omega) fun _ => h
  unfold gs at this
  walk_at "dl"
  exact ⟨by omega, by omega, this⟩
theorem ch_loop {q : Nat} {sh : Int} (hq : q ≤ 4) (hz : 0 ≤ z) (hsh : 0 ≤ sh) (ho : os2.length ≤ 60) (hn : 0 < n) (ho1 : os1.length = n) (hlm : lv ≤ os2.length) {y6 y8 y9 y10 y12 y14 y15 : Option R} (h6 : Own os2 y6)
    (hk : ∀ (cs : List Ch) (y6 y12 y14 y15 : Option R), Own os2 y6 → cs.length ≤ 4 → (∀ c ∈ cs, c.c.sz ≤ 6 ∧ c.ef.length ≤ 4) → mm.nx (gs n m z b os1 lv y6 y8 y9 y10 (some (R.lst (cs.map Ch.d))) y12 (some (R.val (D.int sh))) y14 y15)) :
    wFor (wN 12) (b_u_law_story_3 f_condition f_draw f_names f_saying) (rng 0 q) (gs n m z b os1 lv y6 y8 y9 y10 (some (R.lst [])) y12 (some (R.val (D.int sh))) y14 y15) mm := by
  refine wFor_run (fun i Γ => ∃ (cs : List Ch) (y6 y12 y14 y15 : Option R), Γ = gs n m z b os1 lv y6 y8 y9 y10 (some (R.lst (cs.map Ch.d))) y12 (some (R.val (D.int sh))) y14 y15 ∧ Own os2 y6 ∧ cs.length = i ∧ ∀ c ∈ cs, c.c.sz ≤ 6 ∧ c.ef.length ≤ 4) (fun i d Γ k hd hI hk2 => ?_) (fun Γ hI => ?_) ⟨[], _, _, _, _, rfl, h6, rfl, by simp⟩
  · obtain ⟨cs, y6, y12, y14, y15, rfl, h6, hl, hs⟩ := hI
    obtain ⟨hi, rfl⟩ := rng_get hd
    unfold b_u_law_story_3
    show 12 < (gs n m z b os1 lv y6 y8 y9 y10 (some (R.lst (cs.map Ch.d))) y12 (some (R.val (D.int sh))) y14 y15).length ∧ wSeq _ _ (gs n m z b os1 lv y6 y8 y9 y10 (some (R.lst (cs.map Ch.d))) (some (R.val (D.int (0 + (i : Nat))))) (some (R.val (D.int sh))) y14 y15) _
    refine ⟨by unfold gs; simp, ?_⟩
    rw [wSeq_e]
    generalize hB : wSeq (wForS _ _ _) _ = BB
    unfold gs
    walk_at "dl"
    rw [← hB, wSeq_e]
    refine st_ef (n := n) (m := m) (z := z) (b := b) (os1 := os1) hlm h6 fun ef y15 hef => ?_
    unfold gs
    walk_at "dl"
    refine ⟨_, rfl, by omega, fun s => ?_⟩
    walk_at "dl"
    rcases h6 with rfl | rfl
    all_goals (
      walk_at "dl"
      refine ⟨os2, z, rfl, hz, ho, fun c hc => ?_⟩
      walk_at "dl"
      refine ⟨by walk_at "cm", draw_i _ _ _ _ (by omega) fun g hg => ?_⟩
      walk_at "dl"
      refine draw_i _ _ _ _ (by omega) fun r hr1 => ?_
      walk_at "dl"
      have hr2 : r < os1.length := by omega
      refine ixK_n (n := r) (d := .str os1[r]) (by rw [List.getElem?_map, List.getElem?_eq_getElem hr2]; rfl) rfl ?_
      refine ⟨sz' (by omega), hk2 _ ⟨cs ++ [⟨s, c, ef, (g : Int) - z, os1[r]⟩], _, _, _, _, by rw [List.map_append]; rfl, .inr rfl, by simp; omega, fun c' hc' => ?_⟩⟩
      rcases List.mem_append.mp hc' with h | h
      · exact hs c' h
      · simp at h; subst h; exact ⟨hc, hef⟩)
  · obtain ⟨cs, y6, y12, y14, y15, rfl, h6, hl, hs⟩ := hI
    rw [rng_len] at hl
    exact hk cs _ _ _ _ h6 (by omega) hs
theorem st_ch {sh : Int} (hz : 0 ≤ z) (hsh : 0 ≤ sh) (ho : os2.length ≤ 60) (hn : 0 < n) (ho1 : os1.length = n) (hlm : lv ≤ os2.length) {y6 y8 y9 y10 y12 y14 y15 : Option R} (h6 : Own os2 y6)
    (hk : ∀ (cs : List Ch) (y6 y12 y14 y15 : Option R), Own os2 y6 → cs.length ≤ 4 → (∀ c ∈ cs, c.c.sz ≤ 6 ∧ c.ef.length ≤ 4) → mm.nx (gs n m z b os1 lv y6 y8 y9 y10 (some (R.lst (cs.map Ch.d))) y12 (some (R.val (D.int sh))) y14 y15)) :
    (wForS (wRng1 (wCons (wIfE (wB (wVar 4)) (wC (.int 4)) (wFn 3 f_draw (wCons (wVar 0) (wCons (wC (.int 5)) (wCons (wC (.int 12)) wNil))))) wNil)) (wN 12) (b_u_law_story_3 f_condition f_draw f_names f_saying)) (gs n m z b os1 lv y6 y8 y9 y10 (some (R.lst [])) y12 (some (R.val (D.int sh))) y14 y15) mm := by
  have L := fun (q : Nat) (hq : q ≤ 4) => ch_loop (b := b) (y12 := y12) (y14 := y14) (y15 := y15) hq hz hsh ho hn ho1 hlm h6 hk
  unfold gs
  walk_at "dl"
  refine ite2 (fun _ => L 4 (by omega)) fun _ => draw_i _ _ _ _ (by omega) fun r hr1 => ?_
  have := L r (by omega)
  unfold gs at this
  walk_at "dl"
  exact ⟨by omega, by omega, this⟩
end
theorem ef_all : ∀ acc : List D, (∀ d ∈ acc, ∃ p : Str × Str, d = efD p) → ∃ fs : List (Str × Str), acc = fs.map efD
  | [], _ => ⟨[], rfl⟩
  | d :: acc, h => by
    obtain ⟨p, rfl⟩ := h d (by simp)
    obtain ⟨fs, rfl⟩ := ef_all acc fun x hx => h x (by simp [hx])
    exact ⟨p :: fs, rfl⟩
theorem h_story (ds rt xp) (h : f_story ds rt xp) : b_u_law_story f_condition f_draw f_names f_saying (ini N_u_law_story.length ds) (mR rt xp) := by
  obtain ⟨n, m, z1, z2, z, b, rfl, rfl, rfl, hn1, hn6, hm4, hz, hr⟩ := h
  unfold b_u_law_story b_u_law_story_5
  walk_at "dl"
  refine ⟨n, _, _, rfl, rfl, hn6, fun os1 ho1 hs1 => ?_⟩
  walk_at "dl"
  refine ⟨m, _, _, rfl, rfl, by omega, fun os2 ho2 hs2 => ?_⟩
  walk_at "dl"
  rw [t_u_law_story_2_e]
  unfold b_u_law_story_6
  walk_at "dl"
  obtain ⟨v, hv⟩ : ∃ v : Int, [D.int 4, D.int 4, D.int 3, D.int 2, D.int 2, D.int 2, D.int 1][n]? = some (.int v) := by
    have : n = 1 ∨ n = 2 ∨ n = 3 ∨ n = 4 ∨ n = 5 ∨ n = 6 := by omega
    rcases this with rfl | rfl | rfl | rfl | rfl | rfl <;> exact ⟨_, rfl⟩
  refine ixK_n (n := n) hv rfl ?_
  walk_at "dl"
  obtain ⟨lv, hlv, hlm⟩ : ∃ lv : Int, (if v < (m : Int) then v else (m : Int)) = lv ∧ lv ≤ m := ⟨_, rfl, by split <;> omega⟩
  simp only [hlv]
  rw [t_u_law_story_3_e]
  unfold b_u_law_story_7
  walk_at "dl"
  intro _
  refine wFor_run (fun i Γ => ∃ (SC : List Sc) (y6 y9 y10 y11 y12 y13 y14 y15 : Option R), Γ = gs n m z b os1 lv y6 (some (R.lst (SC.map Sc.d))) y9 y10 y11 y12 y13 y14 y15 ∧ Own os2 y6 ∧ SC.length = i ∧ ∀ x ∈ SC, x.ok) (fun i d Γ k hd hI hk => ?_) (fun Γ hI => ?_) ⟨[], _, _, _, _, _, _, _, _, rfl, .inl rfl, rfl, by simp⟩
  · obtain ⟨SC, y6, y9, y10, y11, y12, y13, y14, y15, rfl, h6, hS, hok⟩ := hI
    obtain ⟨nm, hnm, rfl⟩ := map_get hd
    have hi : i < os1.length := (List.getElem?_eq_some_iff.mp hnm).1
    have hnl := hs1 nm (List.mem_of_getElem? hnm)
    unfold b_u_law_story_4
    show 9 < (gs n m z b os1 lv y6 (some (R.lst (SC.map Sc.d))) y9 y10 y11 y12 y13 y14 y15).length ∧ wSeq _ _ (gs n m z b os1 lv y6 (some (R.lst (SC.map Sc.d))) (some (R.val (D.str nm))) y10 y11 y12 y13 y14 y15) _
    refine ⟨by unfold gs; simp, ?_⟩
    rw [wSeq_e]
    generalize hB : wSeq (wForS _ _ _) _ = BB
    unfold gs
    walk_at "dl"
    rw [← hB, wSeq_e]
    refine st_ln (n := n) (m := m) (b := b) (os1 := os1) hz (by omega) h6 fun ln y6 y12 h6 hln hlc => ?_
    dsimp only
    rw [wSeq_e]
    generalize hC : wSeq (wForS _ _ _) _ = CC
    unfold gs
    walk_at "dl"
    refine draw_i _ _ _ _ (by omega) fun sh hsh => ?_
    walk_at "dl"
    rw [← hC, wSeq_e]
    refine st_ch (n := n) (m := m) (b := b) (os1 := os1) hz (by omega) (by omega) (by omega) ho1 (by omega) h6 fun cs y6 y12 y14 y15 h6 hcs hcc => ?_
    unfold gs
    walk_at "dl"
    refine ⟨sz' (by omega), hk _ ⟨SC ++ [⟨nm, ln, cs⟩], _, _, _, _, _, _, _, _, by rw [List.map_append]; rfl, h6, by simp; omega, fun x hx => ?_⟩⟩
    rcases List.mem_append.mp hx with h | h
    · exact hok x h
    · simp at h; subst h; exact ⟨hln, hcs, hlc, hcc, by show nm.length ≤ 20; omega⟩
  · obtain ⟨SC, y6, y9, y10, y11, y12, y13, y14, y15, rfl, h6, hS, hok⟩ := hI
    rw [List.length_map] at hS
    unfold gs
    walk_at "dl"
    rw [t_u_law_story_4_e]
    unfold b_u_law_story_8
    rcases h6 with rfl | rfl
    all_goals (
      walk_at "dl"
      intro hL
      refine ⟨hL, ?_⟩
      refine wLcL_each (fun Γ => Γ = [some (R.val D.tok), some (R.val (D.int ↑n)), some (R.val (D.int ↑m)), some (R.val (D.int z)), some (R.val (D.bl b)), some (R.val (D.lst (List.map D.str os1))), some (R.val (D.lst (List.map D.str os2))), some (R.val (D.int lv)), some (R.lst (List.map Sc.d SC)), y9, y10, y11, y12, y13, y14, y15, none, none, none]) (fun d => ∃ p : Str × Str, d = efD p) os2 D.str (fun x acc Γ k hx hG hk => ?_) (fun acc Γ hl hE hG => ?_) rfl
      · subst hG
        walk_at "dl"
        refine draw_i _ _ _ _ (by omega) fun r hr1 => ?_
        walk_at "dl"
        have r01 : r = 0 ∨ r = 1 := by omega
        rcases r01 with rfl | rfl
        · exact ixK_n (n := 0) rfl rfl (hk _ _ ⟨(x, "no"), rfl⟩ rfl)
        · exact ixK_n (n := 1) rfl rfl (hk _ _ ⟨(x, "yes"), rfl⟩ rfl)
      · subst hG
        obtain ⟨fs, rfl⟩ := ef_all acc hE
        rw [List.length_map] at hl
        walk_at "dl"
        rw [t_u_law_story_5_e]
        unfold b_u_law_story_9
        walk_at "dl"
        refine draw_i _ _ _ _ (by omega) fun g hg => ?_
        walk_at "dl"
        refine draw_i _ _ _ _ (by omega) fun r hr1 => ?_
        walk_at "dl"
        have hr2 : r < os1.length := by omega
        refine ixK_n (n := r) (d := .str os1[r]) (by rw [List.getElem?_map, List.getElem?_eq_getElem hr2]; rfl) rfl ?_
        walk_at "dl"
        exact hr ⟨fs, g, os1[r], SC⟩ ⟨by show fs.length ≤ 6; omega, by show SC.length ≤ 7; omega, by show 0 < SC.length; omega, hok⟩ (by show SC.length ≤ 6; omega))
end Nk05

set_option maxHeartbeats 4000000
namespace Nk05
open PySem PySem.Spec L2 DL
local macro_rules | `(tactic| walk_at "dl") => `(tactic| simp (config := { failIfUnchanged := false, maxSteps := 2000000 }) only [↓wVar_q, lx_TaleError, ht_0, ht_1, ht_2, ht_3, ht_4, lx_BadStory, ht_5, ht_6, ht_7, ht_8, ht_9, vx_BadStory_scene, vx_BadStory_place, vx_BadStory_word, lx_BadStep, ht_10, ht_11, ht_12, ht_13, ht_14, vx_BadStep_word, lx_NoSuch, ht_15, ht_16, ht_17, ht_18, ht_19, vx_NoSuch_word, vx_NoSuch_name, lx_Taken, ht_20, ht_21, ht_22, ht_23, ht_24, vx_Taken_name, ln_0, ln_1, ln_2, ln_3, ln_4, ln_5, ln_6, ln_7, ln_8, ln_9, ln_10, ln_11, ln_12, ln_13, ln_14, ln_15, ln_16, ln_17, ln_18, ln_19, ln_20, ln_21, ln_22, ln_23, ln_24, ln_25, ln_26, ln_27, ln_28, ln_29, ln_30, ln_31, ln_32, ln_33, ln_34, ln_35, ln_36, ln_37, ln_38, ln_39, ln_40, ln_41, ln_42, ln_43, ln_44, ln_45, ln_46, ln_47, ↓wC_q, ↓wBin_q, ↓wUn_q, ↓wB_e, ↓wAnd_q, ↓wOr_q, ↓wNot_q, ↓wAndV_q, ↓wOrV_q, ↓wNotV_q, ↓wIfE_q, ↓wChain_q, ↓wNil_q, ↓wCons_q, ↓wTup_q, ↓wLst_q, ↓wCB_q, ↓Rd_v, ↓Rd_l, ↓Rd_d, ↓Rs_v, ↓Rs_l, ↓Rs_d,
  ↓wAdd_i, ↓wAdd_s, ↓wAdd_l, ↓wAdd_t, ↓wSub_i, ↓wMul_i, ↓wMul_l, ↓wMul_s, ↓wMod_i, ↓wDiv_i, ↓wPow_i, ↓wShl_i, ↓wShr_i, ↓wBAnd_i, ↓wBOr_i, ↓wBXor_i, ↓wLt_i, ↓wLe_i, ↓wGt_i, ↓wGe_i, ↓wLt_s, ↓wGt_s, ↓wEq_i, ↓wNe_i, ↓wEq_s, ↓wNe_s, ↓wEq_b, ↓wNe_b, ↓wIsN_n, ↓wNotN_n, ↓wIsN_t, ↓wNotN_t, ↓wIsN_i, ↓wNotN_i, ↓wIsN_s, ↓wNotN_s,
  ↓wIx_t, ↓wIx_l, ↓wIx_f, ↓wIx_d, ↓ixK_0, ↓ixK_1, ↓ixK_2, ↓ixK_3, ↓ixK_4, ↓ixK_5, ↓len_t, ↓len_l, ↓len_f, ↓len_s, ↓len_d, ↓lenK_s, ↓wLen_1, ↓wLenV_e, ↓items_t, ↓items_l, ↓items_f, ↓items_s, ↓asInt_i, ↓asInt_b, ↓wIter_e, ↓wInt_1, ↓wAbs_1, ↓wMax_1, ↓wMin_1, ↓wList_l, ↓wList_t, ↓wList_f, ↓wList_s, ↓wTuple_l, ↓wTuple_t, ↓wAll_1, ↓wAny_1, ↓wSum_1, ↓wIsi_1, ↓ty_i, ↓ty_b, ↓ty_s, ↓ty_t, ↓ty_l, ↓ty_f, ↓ty_n, ↓wNeg_i, ↓wRng1_e, ↓wRng2_e,
  ↓isLst_l, ↓wAppend_e, ↓wPop_e, ↓wSetIx_e, ↓look_s, ↓wVB_e, ↓wBV_e, ↓isInt_i, ↓wAugI_e, ↓wIn_e, ↓inK_s, ↓wGtup_e, ↓wGcons_e, ↓wGnil_e, ↓bxGo_q, ↓isBx_b, ↓bxIn_e, ↓bxPos_i, ↓wBIx_e, ↓wBSet_e, ↓lsK_l, ↓wBAppend_e, ↓wBPop_e, ↓wBPopAt_e, ↓wBInsert_e, ↓refK_l, ↓wBLen_e, ↓wBIx2_e, ↓bxv_lf, ↓bxr_ls, ↓bxr_dc, ↓bxa_ls, ↓bxa_lf, ↓bxK_n, ↓bxK_v, ↓bxK_l, ↓wSl_t, ↓wSl_l, ↓wSl_f, ↓wSl_s, ↓mT_q, ↓isT_e, ↓in_ints, ↓in_intsL,
  ↓wMeth_q, ↓wXis_q, ↓wXiv_q, ↓wExt_q, ↓seqD_l, ↓seqD_t, ↓seqK_s, ↓wSrtSet_q, ↓wTxt_up, ↓wTry_e, ↓wHds_n, ↓wHds_c, ↓inX_n, ↓inX_s, ↓bindX_n, ↓bindX_s, ↓clrX_n, ↓clrX_s, ↓unX_e, ↓xcK_s, ↓wXf_e, ↓wRaise_e, ↓lkK_s, ↓tyD_s, ↓tyD_l, ↓tyD_d, ↓wTr_e, ↓truK_s, ↓tru_b, ↓tru_i, ↓tru_s, ↓tru_n, ↓tru_t, ↓tru_l, ↓tru_f, ↓tru_d, ↓oneK_1, ↓lstK_l, ↓lstK_f, ↓wEnum_e, ↓wRevd_e, ↓keyK1_s, ↓keyOf_i, ↓keyOf_s, ↓wPrs_0, ↓wPrs_1, ↓wDc_q, ↓wDisp_q, ↓wN_q, ↓wNext_q, ↓wSeq_q, ↓wBrk_q, ↓wCt_q, ↓wDrop_q, ↓wRet_q, ↓wMov_q, ↓wRetN_q, ↓wSet_q, ↓wAsg_q, ↓wIf_q, ↓wForS_q, ↓look_q, ↓wNoP_q, ↓wPt_e, ↓wSlice_q, ↓wSliceV_e, ↓wLc_q, ↓wLc2_q, ↓wYes_q, ↓wPar_q, ↓wFn_q, ↓wCall_q, ↓wFnK_q, ↓wFnK0_q, ↓wCallK_q, ↓pk_q, ↓wBox_q, ↓wONil_q, ↓wOCons_q, ↓ini_q, ↓ixN,
  List.getElem?_cons_zero, List.getElem?_cons_succ, List.getElem?_nil, List.set_cons_zero, List.set_cons_succ, List.length_cons, List.length_nil, List.map_cons, List.map_nil, List.cons_append, List.nil_append, List.replicate, List.length_map, List.length_set, List.length_replicate, List.length_append, sapp_len, s1_len, repS_len,
  wipeG, sv, DL.rest, List.filterMap_cons, List.filterMap_nil, isi_ib, isi_ii, isi_bb, isi_bi, isi_tt, isi_it, isi_ti, isi_tb, isi_bt,
  and_true, true_and, and_self, true_or, or_true, ite_true, ite_false, if_true, if_false, reduceIte, decide_eq_true_eq, decide_eq_false_iff_not, Bool.not_eq_true', Nat.reduceAdd, Nat.reduceSub, Nat.reduceLT, Nat.reduceLeDiff, Int.reduceLT, Int.reduceLE, Int.reduceNeg, Int.reduceToNat, Int.reduceAdd, Int.reduceSub, Int.reduceMul, Int.reducePow, Nat.zero_add, Int.cast_ofNat_Int, reduceCtorEq, false_and, and_false, exists_false, false_or, or_false, not_false_eq_true, not_true_eq_false, Bool.false_eq_true, Bool.true_eq_false, Bool.not_true, Bool.not_false, decide_true, decide_false, szL, szL', forall_const, exists_const, implies_true, true_implies])
local macro_rules | `(tactic| walk_at "cm") => `(tactic| first
  | trivial
  | exact cmulR (by decide) (by decide) | exact cmulL (by decide) (by decide)
  | exact cmulR (by omega) (by omega) | exact cmulL (by omega) (by omega)
  | exact sz (by decide) | exact sz (by omega) | exact sz' (by omega)
  | exact (show CDiv _ _ from ⟨by omega, by omega⟩)
  | exact (show CPow _ _ from ⟨by omega, by omega, by decide⟩)
  | decide | omega)
local macro_rules | `(tactic| walk_at "cs") => `(tactic| repeat' (first | (refine And.intro ?_ ?_ <;> first | (walk_at "cm"; done) | skip) | fail))
local macro_rules | `(tactic| walk_at "sl") => `(tactic| (first | refine sz ?_ | refine sz' ?_ | skip) <;> (try simp only [sapp_len, s1_len, repS_len, ln_0, ln_1, ln_2, ln_3, ln_4, ln_5, ln_6, ln_7, ln_8, ln_9, ln_10, ln_11, ln_12, ln_13, ln_14, ln_15, ln_16, ln_17, ln_18, ln_19, ln_20, ln_21, ln_22, ln_23, ln_24, ln_25, ln_26, ln_27, ln_28, ln_29, ln_30, ln_31, ln_32, ln_33, ln_34, ln_35, ln_36, ln_37, ln_38, ln_39, ln_40, ln_41, ln_42, ln_43, ln_44, ln_45, ln_46, ln_47]) <;> omega)
local macro_rules | `(tactic| walk_at "an") => `(tactic| repeat ((with_reducible refine And.intro ?_ ?_); (focus (first | (walk_at "sl"; done) | (walk_at "cm"; done)))))
/-! ### one scene more -/
def f_with : WF := fun ds rt _ => ∃ (y : Sy) (k : Int), ds = [.tok, y.d, .int k] ∧ y.ok ∧ y.sc.length ≤ 6 ∧ ∀ y' : Sy, y'.ok → rt (.val y'.d)
theorem h_with (ds rt xp) (h : f_with ds rt xp) : b_u_law_with f_draw (ini N_u_law_with.length ds) (mR rt xp) := by
  obtain ⟨y, k, rfl, ok, hl, hr⟩ := h
  rw [Sy.d]
  unfold b_u_law_with b_u_law_with_1
  walk_at "dl"
  refine draw_i _ _ _ _ (by omega) fun w hw => ?_
  walk_at "dl"
  intro hL
  refine ⟨hL, ?_⟩
  refine wLcL_lst y.ms efD (fun _ => true) (fun p => .str p.1) (fun p acc k2 hcs hk2 => ?_) ?_
  · rw [efD]
    walk_at "dl"
    simpa using hk2
  rw [List.filter_eq_self.mpr (by simp)]
  walk_at "dl"
  rw [t_u_law_with_2_e]
  unfold b_u_law_with_2
  walk_at "dl"
  rw [t_u_law_with_3_e]
  unfold b_u_law_with_3
  walk_at "dl"
  refine draw_i _ _ _ _ (by omega) fun u hu => ?_
  walk_at "dl"
  have go : ∀ c : Cd, c.sz ≤ 6 → t_u_law_with_4 f_draw [some (R.val D.tok), some (R.val (D.tup [D.tup (List.map efD y.ms), D.int y.gd, D.str y.bg, D.tup (List.map Sc.d y.sc)])), some (R.val (D.int k)), some (R.val (D.int (w : Nat))), some (R.lst (y.ms.map fun p => D.str p.1)), some (R.val c.d), none, none, none, none, none] (mR rt xp) := fun c hc => by
    rw [t_u_law_with_4_e]
    unfold b_u_law_with_4
    walk_at "dl"
    rw [t_u_law_with_5_e]
    unfold b_u_law_with_5
    walk_at "dl"
    have six : ∀ (L C : D) (ln : List (Str × Cd)) (ch : Ch), L = .tup (ln.map lnD) → C = ch.d → ln.length ≤ 4 → (∀ p ∈ ln, p.2.sz ≤ 6) → ch.c.sz ≤ 6 → ch.ef = [] → t_u_law_with_6 f_draw [some (R.val D.tok), some (R.val (D.tup [D.tup (List.map efD y.ms), D.int y.gd, D.str y.bg, D.tup (List.map Sc.d y.sc)])), some (R.val (D.int k)), some (R.val (D.int (w : Nat))), some (R.lst (y.ms.map fun p => D.str p.1)), some (R.val c.d), some (R.val L), some (R.val C), none, none, none] (mR rt xp) := fun L C ln ch e1 e2 h1 h2 h3 h4 => by
      subst e1 e2
      rw [t_u_law_with_6_e]
      unfold b_u_law_with_6
      walk_at "dl"
      rw [t_u_law_with_7_e]
      unfold b_u_law_with_7
      walk_at "dl"
      refine ⟨sz (by omega), ?_⟩
      have := hr ⟨y.ms, y.gd, y.bg, y.sc ++ [⟨"zzzz", ln, [⟨"ahead", .gold 0, [], 0, y.bg⟩, ch]⟩]⟩ ⟨ok.ms, by simp; omega, by simp, fun x hx => ?_⟩
      · rw [Sy.d, List.map_append] at this
        simp only [List.map_cons, List.map_nil, Sc.d, Ch.d, d_gold] at this
        rw [Ch.d]
        exact this
      · rcases List.mem_append.mp hx with h | h
        · exact ok.al x h
        · simp at h
          subst h
          refine ⟨h1, by simp, h2, fun q hq => ?_, (show (Str.ofString "zzzz").length ≤ 20 from by decide +kernel)⟩
          simp at hq
          rcases hq with rfl | rfl
          · exact ⟨by simp [Cd.sz], by simp⟩
          · exact ⟨h3, by rw [h4]; simp⟩
    have al1 : Cd.al.sz ≤ 6 := by decide
    refine ite2 (fun _ => ?_) fun _ => ite2 (fun _ => ?_) fun _ => ite2 (fun _ => ?_) fun _ => ite2 (fun _ => ?_) fun _ => ?_
    · exact six _ _ [("a line", c)] ⟨"on", .al, [], 0, y.bg⟩ rfl (by rw [Ch.d, d_al]; rfl) (by simp) (by simpa using hc) al1 rfl
    · exact six _ _ [("first", .al), ("last", c)] ⟨"on", .al, [], 0, y.bg⟩ (by simp only [List.map_cons, List.map_nil, lnD, d_al]) (by rw [Ch.d, d_al]; rfl) (by simp) (by intro p hp; simp at hp; rcases hp with rfl | rfl; exact al1; exact hc) al1 rfl
    · exact six _ _ [("a line", .al)] ⟨"on", c, [], 0, y.bg⟩ (by simp only [List.map_cons, List.map_nil, lnD, d_al]) (by rw [Ch.d]; rfl) (by simp) (by simpa using al1) hc rfl
    · exact six _ _ [("a line", .al)] ⟨"on", .al, [], k, y.bg⟩ (by simp only [List.map_cons, List.map_nil, lnD, d_al]) (by rw [Ch.d, d_al]; rfl) (by simp) (by simpa using al1) al1 rfl
    · exact six _ _ [("a line", .al)] ⟨"on", .no .al, [], -k, y.bg⟩ (by simp only [List.map_cons, List.map_nil, lnD, d_al]) (by rw [Ch.d, d_no, d_al]; rfl) (by simp) (by simpa using al1) (by simp [Cd.sz]) rfl
  refine ite2 (fun _ => ?_) fun _ => ?_
  · have := go (.many true [.al, .many false [.gold 0, .no (.gold k)]]) (by simp [Cd.sz, Cd.szs])
    simp only [d_and, d_or, d_no, d_gold, d_al, Cd.ds] at this
    exact this
  · have := go (.gold k) (by simp [Cd.sz])
    rw [d_gold] at this
    exact this

/-! ### looks -/
def okA (y : Sy) (p : Str × Str) : Prop := p.1 = "marks" ∨ p.1 = "scenes" ∨ p.1 = "most" ∨ p.1 = "lines" ∨ p.1 = "choices"
def asD (p : Str × Str) : D := .tup [.str p.1, .str p.2]
theorem pl_s (k : Nat) (s : Str) : plV k (.str s) := by cases k <;> trivial
theorem pl_i (k : Nat) (i : Int) : plV k (.int i) := by cases k <;> trivial
theorem pl_t {k : Nat} {l : List D} (h : l.length ≤ 60) (h2 : ∀ d ∈ l, plV k d) : plV (k + 1) (.tup l) := ⟨h, h2⟩
theorem pl_mono : ∀ (k : Nat) (d : D), plV k d → plV (k + 1) d
  | k, .str s, _ => pl_s _ s
  | k, .int i, _ => pl_i _ i
  | 0, .tup l, h => h.elim
  | k + 1, .tup l, ⟨h1, h2⟩ => ⟨h1, fun d hd => pl_mono k d (h2 d hd)⟩
  | 0, .bl _, h => h.elim
  | 0, .non, h => h.elim
  | 0, .lst _, h => h.elim
  | 0, .fro _, h => h.elim
  | 0, .dct _, h => h.elim
  | 0, .raw _, h => h.elim
  | 0, .tok, h => h.elim
  | 0, .exc _ _ _, h => h.elim
  | k + 1, .bl _, h => h.elim
  | k + 1, .non, h => h.elim
  | k + 1, .lst _, h => h.elim
  | k + 1, .fro _, h => h.elim
  | k + 1, .dct _, h => h.elim
  | k + 1, .raw _, h => h.elim
  | k + 1, .tok, h => h.elim
  | k + 1, .exc _ _ _, h => h.elim
theorem pl_le {j k : Nat} (h : j ≤ k) {d : D} (p : plV j d) : plV k d := by
  obtain ⟨n, rfl⟩ := Nat.exists_eq_add_of_le h
  clear h
  induction n with
  | zero => exact p
  | succ n ih => exact pl_mono _ _ ih
theorem pl_2 {k : Nat} {a b : D} (ha : plV k a) (hb : plV k b) : plV (k + 1) (.tup [a, b]) := pl_t (by simp) fun d hd => by simp at hd; rcases hd with rfl | rfl; exact ha; exact hb
mutual
theorem plC : ∀ c : Cd, c.sz ≤ 60 → plV (2 * c.sz) c.d
  | .al, _ => by rw [d_al, Cd.sz]; exact pl_t (k := 1) (by simp) fun d hd => by simp at hd; subst hd; exact pl_s _ _
  | .has s, _ => by rw [d_has, Cd.sz]; exact pl_2 (k := 1) (pl_s _ _) (pl_s _ _)
  | .gold n, _ => by rw [d_gold, Cd.sz]; exact pl_2 (k := 1) (pl_s _ _) (pl_i _ _)
  | .no c, h => by
    rw [Cd.sz] at h
    have := plC c (by omega)
    rw [d_no, Cd.sz]
    exact pl_le (by omega) (pl_2 (pl_s _ _) this)
  | .many a cs, h => by
    rw [Cd.sz] at h
    have h1 := plCs cs (by omega)
    have h2 : plV (2 * Cd.szs cs + 1) (.tup (Cd.ds cs)) := pl_t (by rw [ds_len]; have := szs_len cs; omega) h1
    rw [Cd.sz]
    cases a
    · rw [d_or]; exact pl_le (by omega) (pl_2 (pl_s _ _) h2)
    · rw [d_and]; exact pl_le (by omega) (pl_2 (pl_s _ _) h2)
theorem plCs : ∀ cs : List Cd, Cd.szs cs ≤ 59 → ∀ d ∈ Cd.ds cs, plV (2 * Cd.szs cs) d
  | [], _, d, hd => by rw [Cd.ds] at hd; cases hd
  | c :: cs, h, d, hd => by
    rw [Cd.szs] at h ⊢
    rw [Cd.ds] at hd
    rcases List.mem_cons.mp hd with e | hd
    · rw [e]; exact pl_le (by omega) (plC c (by omega))
    · exact pl_le (by omega) (plCs cs (by omega) d hd)
end
theorem pl_strs {l : List Str} (h : l.length ≤ 60) : plV 16 (.tup (l.map D.str)) := pl_t (by simpa using h) fun d hd => by
  obtain ⟨s, _, rfl⟩ := List.mem_map.mp hd
  exact pl_s _ _
theorem pl_ln {x : Sc} (ok : x.ok) : plV 15 (.tup (x.ln.map lnD)) := pl_t (by have := ok.ln; simp; omega) fun d hd => by
  obtain ⟨p, hp, rfl⟩ := List.mem_map.mp hd
  have := ok.lc p hp
  exact pl_2 (pl_s _ _) (pl_le (by omega) (plC p.2 (by omega)))
theorem pl_cs {x : Sc} (ok : x.ok) : plV 15 (.tup (x.cs.map Ch.d)) := pl_t (by have := ok.cs; simp; omega) fun d hd => by
  obtain ⟨c, hc, rfl⟩ := List.mem_map.mp hd
  obtain ⟨h1, h2⟩ := ok.cc c hc
  rw [Ch.d]
  refine pl_t (k := 13) (by simp) fun d hd => ?_
  simp only [List.mem_cons, List.not_mem_nil, or_false] at hd
  rcases hd with rfl | rfl | rfl | rfl | rfl
  · exact pl_s _ _
  · exact pl_le (by omega) (plC c.c (by omega))
  · refine pl_t (by simp; omega) fun d hd => ?_
    obtain ⟨e, _, rfl⟩ := List.mem_map.mp hd
    exact pl_2 (pl_s _ _) (pl_s _ _)
  · exact pl_i _ _
  · exact pl_s _ _
theorem ixK_last {l : List D} {Q : D → Prop} {d : D} (h0 : 0 < l.length) (h : l[l.length - 1]? = some d) (q : Q d) : ixK l (-1) Q := by
  refine ⟨d, ?_, q⟩
  unfold atI ixN
  have e : ((-1 : Int) + (l.length : Int)).toNat = l.length - 1 := by omega
  rw [if_neg (by omega), if_pos (by omega)]
  simp only [e]
  exact h
theorem sy0 {y : Sy} {P : R → Prop} : wIx y.d (.int 0) P = P (.val (.tup (y.ms.map efD))) := by rw [Sy.d]; walk_at "dl"
theorem sy3 {y : Sy} {P : R → Prop} : wIx y.d (.int 3) P = P (.val (.tup (y.sc.map Sc.d))) := by rw [Sy.d]; walk_at "dl"
theorem sc1 {x : Sc} {P : R → Prop} : wIx x.d (.int 1) P = P (.val (.tup (x.ln.map lnD))) := by rw [Sc.d]; walk_at "dl"
theorem sc2 {x : Sc} {P : R → Prop} : wIx x.d (.int 2) P = P (.val (.tup (x.cs.map Ch.d))) := by rw [Sc.d]; walk_at "dl"
theorem in_strsL (g : Str) (l : List Str) : D.inOk (.str g) (.lst (l.map D.str)) = some (decide (g ∈ l)) := by
  simp only [D.inOk, strs_plain, strs_any]
  simp [D.plain, D.py, PyData.depth]
/-- where the first scene of a name stands -/
theorem sc_at {y : Sy} {s : Str} (h : s ∈ y.sc.map (·.nm)) : ∃ (x : Sc) (j : Nat), scAt y s = some x ∧ y.sc[j]? = some x ∧ (y.sc.map (·.nm))[j]? = some s ∧ ∀ (m : Nat) (z : Str), m < j → (y.sc.map (·.nm))[m]? = some z → z ≠ s := by
  obtain ⟨x0, hx0, e0⟩ := List.mem_map.mp h
  cases hf : scAt y s with
  | none =>
    have := List.find?_eq_none.mp hf x0 hx0
    simp [e0] at this
  | some x =>
    obtain ⟨hp, as, bs, he, hn⟩ := List.find?_eq_some_iff_append.mp hf
    have hxs : x.nm = s := of_decide_eq_true hp
    refine ⟨x, as.length, rfl, by rw [he]; simp, by rw [he]; simp [hxs], fun m z hm hz => ?_⟩
    rw [List.getElem?_map, he, List.getElem?_append_left hm] at hz
    cases hq : as[m]? with
    | none => rw [hq] at hz; cases hz
    | some a =>
      rw [hq] at hz
      cases hz
      have := hn a (List.mem_of_getElem? hq)
      simpa using this
theorem sc_no {y : Sy} {s : Str} (h : s ∉ y.sc.map (·.nm)) : scAt y s = none :=
  List.find?_eq_none.mpr fun z hz e => h (List.mem_map.mpr ⟨z, hz, of_decide_eq_true e⟩)
def f_looks : WF := fun ds rt _ => ∃ y : Sy, ds = [.tok, y.d] ∧ y.ok ∧ rt (.val (.bl true))
theorem h_looks (ds rt xp) (h : f_looks ds rt xp) : b_u_law_looks f_ask f_draw f_law_most (f_same 16) f_most_number f_story_marks f_story_scenes (ini N_u_law_looks.length ds) (mR rt xp) := by
  obtain ⟨y, rfl, ok, hr⟩ := h
  unfold b_u_law_looks b_u_law_looks_3
  rw [Sy.d]
  walk_at "dl"
  intro hL
  refine ⟨hL, ?_⟩
  refine wLcL_lst y.sc Sc.d (fun _ => true) (fun x => .str x.nm) (fun p acc k2 hcs hk2 => ?_) ?_
  · rw [Sc.d]
    walk_at "dl"
    simpa using hk2
  rw [List.filter_eq_self.mpr (by simp)]
  walk_at "dl"
  rw [t_u_law_looks_2_e]
  unfold b_u_law_looks_4
  walk_at "dl"
  rw [t_u_law_looks_3_e]
  unfold b_u_law_looks_5
  walk_at "dl"
  obtain ⟨NM, hNM⟩ : ∃ NM, NM = y.sc.map (·.nm) := ⟨_, rfl⟩
  have hN : List.map (fun x : Sc => D.str x.nm) y.sc = NM.map D.str := by rw [hNM, List.map_map]; rfl
  have hNl : NM.length = y.sc.length := by rw [hNM, List.length_map]
  have hsc := ok.sc
  have hne := ok.ne
  have hms := ok.ms
  have hnm : ∀ s ∈ NM, s.length ≤ 20 := fun s hs => by
    rw [hNM] at hs
    obtain ⟨x, hx, rfl⟩ := List.mem_map.mp hs
    exact (ok.al x hx).nm
  rw [hN]
  have h0 : 0 < NM.length := by omega
  have hz : NM.length - 1 < NM.length := by omega
  refine ixK_n (n := 0) (d := .str NM[0]) (by rw [List.getElem?_map, List.getElem?_eq_getElem h0]; rfl) rfl ?_
  have l0 := hnm _ (List.getElem_mem h0)
  generalize NM[0] = n0 at l0 ⊢
  walk_at "dl"
  refine ⟨by walk_at "sl", ?_⟩
  refine ixK_last (d := .str NM[NM.length - 1]) (by rw [List.length_map]; exact h0) (by rw [List.length_map, List.getElem?_map, List.getElem?_eq_getElem hz]; rfl) ?_
  generalize NM[NM.length - 1] = n1
  walk_at "dl"
  refine ⟨sz (by omega), fun hL2 => ⟨hL2, ?_⟩⟩
  refine wLcL_lst y.ms efD (fun _ => true) (fun x => .str x.1) (fun p acc k2 hcs hk2 => ?_) ?_
  · rw [efD]
    walk_at "dl"
    simpa using hk2
  rw [List.filter_eq_self.mpr (by simp), show y.ms.map (fun x => D.str x.1) = (y.ms.map (·.1)).map D.str by rw [List.map_map]; rfl]
  walk_at "dl"
  refine ⟨sz (by omega), fun _ => ?_⟩
  have eA : List.map D.str NM ++ [D.str (Str.ofString "nowhere9"), D.str (n0 ++ Str.ofString "x"), D.str (cutS n1 none (some 1)), D.str (Str.ofString "q"), D.str (Str.ofString "hal"), D.str (Str.ofString "zzzy")] ++ List.map D.str (List.map (fun x => x.fst) y.ms) = (NM ++ [Str.ofString "nowhere9", n0 ++ Str.ofString "x", cutS n1 none (some 1), Str.ofString "q", Str.ofString "hal", Str.ofString "zzzy"] ++ y.ms.map (·.1)).map D.str := by
    simp only [List.map_append, List.map_cons, List.map_nil]
  rw [eA]
  have hAl : (NM ++ [Str.ofString "nowhere9", n0 ++ Str.ofString "x", cutS n1 none (some 1), Str.ofString "q", Str.ofString "hal", Str.ofString "zzzy"] ++ y.ms.map (·.1)).length ≤ 40 := by simp; omega
  generalize (NM ++ [Str.ofString "nowhere9", n0 ++ Str.ofString "x", cutS n1 none (some 1), Str.ofString "q", Str.ofString "hal", Str.ofString "zzzy"] ++ y.ms.map (·.1)) = ALL at hAl
  have hY : D.tup [D.tup (List.map efD y.ms), D.int y.gd, D.str y.bg, D.tup (List.map Sc.d y.sc)] = y.d := by rw [Sy.d]
  rw [hY]
  refine wFor_run (fun i Γ => ∃ (A : List (Str × Str)) (y4 : Option R), Γ = [some (R.val D.tok), some (R.val y.d), some (R.val (D.lst (List.map D.str NM))), some (R.lst (A.map asD)), y4, none, none, none, none, none, none, none] ∧ 3 ≤ A.length ∧ A.length ≤ 3 + 2 * i ∧ ∀ p ∈ A, okA y p) (fun i d Γ k hd hI hk => ?_) (fun Γ hI => ?_) ⟨[("marks", ""), ("scenes", ""), ("most", "")], _, rfl, by simp, by simp, fun p hp => ?_⟩
  · obtain ⟨A, y4, rfl, hA3, hAn, hA⟩ := hI
    obtain ⟨s, hs, rfl⟩ := map_get hd
    have hi : i < ALL.length := (List.getElem?_eq_some_iff.mp hs).1
    unfold b_u_law_looks_1
    walk_at "dl"
    refine ite2 (fun _ => ?_) fun _ => hk _ ⟨A, _, rfl, hA3, by omega, hA⟩
    refine ⟨sz (by omega), hk _ ⟨A ++ ([("lines", s), ("choices", s)] : List (Str × Str)), _, by rw [List.map_append]; rfl, by simp; omega, by simp; omega, fun p hp => ?_⟩⟩
    rcases List.mem_append.mp hp with h | h
    · exact hA p h
    · simp at h
      rcases h with rfl | rfl
      · exact .inr (.inr (.inr (.inl rfl)))
      · exact .inr (.inr (.inr (.inr rfl)))
  · obtain ⟨A, y4, rfl, hA3, hAn, hA⟩ := hI
    rw [List.length_map] at hAn
    walk_at "dl"
    rw [t_u_law_looks_4_e]
    unfold b_u_law_looks_6
    walk_at "dl"
    refine draw_i _ _ _ _ (by omega) fun r hr1 => ?_
    walk_at "dl"
    rw [t_u_law_looks_5_e]
    unfold b_u_law_looks_7
    walk_at "dl"
    rw [← List.map_append, cutL_map]
    refine ⟨sz (by omega), fun hL3 => ?_⟩
    refine wFor_run (fun i Γ => ∃ (y4 y6 y7 y8 : Option R), Γ = [some (R.val D.tok), some (R.val y.d), some (R.val (D.lst (List.map D.str NM))), some (R.val (D.lst (A.map asD))), y4, some (R.val (D.int (r : Nat))), y6, y7, y8, none, none, none]) (fun i d Γ k hd hI hk => ?_) (fun Γ hI => ?_) ⟨_, _, _, _, rfl⟩
    · obtain ⟨y4, y6, y7, y8, rfl⟩ := hI
      obtain ⟨p, hp, rfl⟩ := map_get hd
      have hpA : p ∈ A := by
        have h1 := List.mem_of_getElem? hp
        unfold cutL at h1
        have h2 := List.mem_of_mem_drop (List.mem_of_mem_take h1)
        rcases List.mem_append.mp h2 with h | h <;> exact h
      have hpo := hA p hpA
      obtain ⟨w, s⟩ := p
      unfold b_u_law_looks_2 asD
      walk_at "dl"
      have fin : ∀ (v : D) (y7 y8 : Option R), plV 16 v → f_same 16 [v, v] (fun r_3 => match r_3 with | R.val (D.bl b) => if b = false then rt (R.val (D.bl false)) else k [some (R.val D.tok), some (R.val y.d), some (R.val (D.lst (List.map D.str NM))), some (R.val (D.lst (List.map (fun p => D.tup [D.str p.fst, D.str p.snd]) A))), some (R.val (D.str s)), some (R.val (D.int ↑r)), some (R.val (D.str w)), y7, y8, none, none, none] | x => False) (fun y => xp y) := fun v y7 y8 hv =>
        ⟨v, rfl, hv, by walk_at "dl"; exact hk _ ⟨_, _, _, _, rfl⟩⟩
      refine ite2 (fun _ => ?_) fun _ => ite2 (fun _ => ?_) fun _ => ite2 (fun _ => ?_) fun _ => ?_
      · refine ⟨y, rfl, ?_⟩
        dsimp only
        rw [sy0]
        walk_at "dl"
        intro hL4
        refine ⟨hL4, ?_⟩
        refine wLcL_lst y.ms efD (fun _ => true) (fun x => .str x.1) (fun p acc k2 hcs hk2 => ?_) ?_
        · rw [efD]
          walk_at "dl"
          simpa using hk2
        rw [List.filter_eq_self.mpr (by simp), show y.ms.map (fun x => D.str x.1) = (y.ms.map (·.1)).map D.str by rw [List.map_map]; rfl]
        walk_at "dl"
        exact fin _ _ _ (pl_strs (by simp; omega))
      · refine ⟨y, rfl, ?_⟩
        rw [← hNM]
        exact fin _ _ _ (pl_strs (by omega))
      · refine ⟨y, rfl, ok, ⟨y, rfl, ok, ?_⟩⟩
        exact fin _ _ _ (pl_i _ _)
      · rw [in_strsL]
        walk_at "dl"
        refine ite2 (fun hin => ?_) fun hin => ?_
        · rw [hNM] at hin
          obtain ⟨x, j, hx, hj, hNj, hno⟩ := sc_at hin
          rw [← hNM] at hNj hno
          have xo := ok.al x (List.mem_of_getElem? hj)
          have hx2 : scAt y s = none → False := fun hn => by rw [hx] at hn; cases hn
          refine ⟨y, w, s, rfl, ?_, fun hn => (hx2 hn).elim⟩
          intro x' hx'
          rw [hx] at hx'
          cases hx'
          rw [sy3]
          refine ⟨NM, s, j, rfl, rfl, hNj, hno, ?_⟩
          walk_at "dl"
          refine ixK_n (n := j) (d := x.d) (by rw [List.getElem?_map, hj]; rfl) rfl ?_
          refine ite2 (fun e => ?_) fun e => ?_
          · rw [sc1, if_pos e]
            exact fin _ _ _ (pl_2 (pl_s _ _) (pl_ln xo))
          · rw [sc2, if_neg e]
            exact fin _ _ _ (pl_2 (pl_s _ _) (pl_cs xo))
        · rw [hNM] at hin
          refine ⟨y, w, s, rfl, ?_, ?_⟩
          · intro x' hx'
            rw [sc_no hin] at hx'
            cases hx'
          intro _
          exact fin _ _ _ (pl_t (k := 15) (by simp) fun d hd => by
            simp only [List.mem_cons, List.not_mem_nil, or_false] at hd
            rcases hd with rfl | rfl | rfl <;> exact pl_s _ _)
    · obtain ⟨y4, y6, y7, y8, rfl⟩ := hI
      walk_at "dl"
      rw [t_u_law_looks_6_e]
      walk_at "dl"
      exact hr
  · simp at hp
    rcases hp with rfl | rfl | rfl
    · exact .inl rfl
    · exact .inr (.inl rfl)
    · exact .inr (.inr (.inl rfl))

/-! ### the law -/
theorem h_law (ns : List Int) (hl : ns.length ≤ 63) : g_law C05 f_chest f_draw f_looks f_story f_with (ini N_law.length [.fro (ns.map D.int)]) := by
  unfold g_law
  unfold b_law_1
  walk_at "dl"
  refine ⟨ns, rfl, hl, fun l m => ?_⟩
  walk_at "dl"
  unfold b_law_2
  walk_at "dl"
  refine gShut_i rfl (show stOf C05 _ from ⟨rfl, l, 0, m, m, rfl, by omega⟩) rfl ?_
  rw [wSeq_e]
  have go : ∀ (b : Bool) (n k : Nat) (y3 y4 : D), 1 ≤ n → n ≤ 6 → k ≤ 4 → y3 = .int n → y4 = .int k → t_law_2 f_chest f_draw f_looks f_story f_with [some (R.val (D.fro (List.map D.int ns))), some (R.val D.tok), some (R.val (D.bl b)), some (R.val y3), some (R.val y4), none, none, none, none, none, none, none] { nx := fun _ => False, rt := isT } := fun b n k y3 y4 h1 h2 h3 e1 e2 => by
    subst e1 e2
    rw [t_law_2_e]
    unfold b_law_5
    walk_at "dl"
    refine ⟨n, k, _, _, _, _, rfl, rfl, rfl, h1, h2, h3, by omega, fun y1 o1 q1 => ?_⟩
    walk_at "dl"
    rw [t_law_3_e]
    unfold b_law_6
    walk_at "dl"
    refine draw_i _ _ _ _ (by omega) fun mo hmo => ?_
    walk_at "dl"
    rw [t_law_4_e]
    unfold b_law_7
    walk_at "dl"
    refine draw_i _ _ _ _ (by omega) fun r1 hr1 => ?_
    walk_at "dl"
    refine draw_i _ _ _ _ (by omega) fun r2 hr2 => ?_
    walk_at "dl"
    refine ⟨1 + r1, (if (r2 : Int) < 1 then (r2 : Int) else 1).toNat, _, _, _, _, rfl, by omega, by split <;> omega, by omega, by omega, by split <;> omega, by omega, fun y2 o2 q2 => ?_⟩
    walk_at "dl"
    rw [t_law_5_e]
    unfold b_law_8
    walk_at "dl"
    rw [sy0]
    walk_at "dl"
    obtain ⟨y3, hy3, o3⟩ : ∃ y3 : Sy, D.tup [D.tup (List.map efD y1.ms), D.int 9, D.str (Str.ofString "only"), D.tup [D.tup [D.str (Str.ofString "only"), D.tup [], D.tup []]]] = y3.d ∧ y3.ok ∧ y3.sc.length ≤ 6 :=
      ⟨⟨y1.ms, 9, "only", [⟨"only", [], []⟩]⟩, by rw [Sy.d]; simp only [List.map_cons, List.map_nil, Sc.d], ⟨o1.ms, by simp, by simp, fun x hx => by simp at hx; subst hx; exact ⟨by simp, by simp, by simp, by simp, (show (Str.ofString "only").length ≤ 20 from by decide +kernel)⟩⟩, by simp⟩
    rw [hy3]
    rw [t_law_6_e]
    unfold b_law_9
    walk_at "dl"
    refine ⟨y2, _, rfl, o2, q2, fun y4 o4 => ?_⟩
    walk_at "dl"
    refine draw_i _ _ _ _ (by omega) fun r3 hr3 => ?_
    walk_at "dl"
    refine ⟨y3, _, rfl, o3.1, o3.2, fun y5 o5 => ?_⟩
    walk_at "dl"
    rw [t_law_7_e]
    unfold b_law_10
    walk_at "dl"
    refine draw_i _ _ _ _ (by omega) fun r4 hr4 => ?_
    walk_at "dl"
    rw [t_law_8_e]
    unfold b_law_11
    walk_at "dl"
    intro _
    refine wFor_run (fun i Γ => ∃ y11 : Option R, Γ = [some (R.val (D.fro (List.map D.int ns))), some (R.val D.tok), some (R.val (D.bl b)), some (R.val (D.int ↑n)), some (R.val (D.int ↑k)), some (R.val y1.d), some (R.val (D.int ↑mo)), some (R.val y2.d), some (R.val y3.d), some (R.val (D.lst [y1.d, y2.d, y4.d, y3.d, y5.d])), some (R.val (D.int ↑r4)), y11]) (fun i x Γ k2 hd hI hk => ?_) (fun Γ hI => ?_) ⟨_, rfl⟩
    · obtain ⟨y11, rfl⟩ := hI
      obtain ⟨y, rfl, oy⟩ : ∃ y : Sy, x = y.d ∧ y.ok := by
        have h1 := List.mem_of_getElem? hd
        unfold cutL at h1
        have h2 := List.mem_of_mem_drop (List.mem_of_mem_take h1)
        simp only [List.mem_cons, List.not_mem_nil, or_false] at h2
        rcases h2 with rfl | rfl | rfl | rfl | rfl | rfl | rfl | rfl | rfl | rfl
        · exact ⟨y1, rfl, o1⟩
        · exact ⟨y2, rfl, o2⟩
        · exact ⟨y4, rfl, o4⟩
        · exact ⟨y3, rfl, o3.1⟩
        · exact ⟨y5, rfl, o5⟩
        · exact ⟨y1, rfl, o1⟩
        · exact ⟨y2, rfl, o2⟩
        · exact ⟨y4, rfl, o4⟩
        · exact ⟨y3, rfl, o3.1⟩
        · exact ⟨y5, rfl, o5⟩
      unfold b_law_3
      walk_at "dl"
      refine ⟨y, rfl, oy, ?_⟩
      walk_at "dl"
      exact hk _ ⟨_, rfl⟩
    · obtain ⟨y11, rfl⟩ := hI
      walk_at "dl"
      rw [t_law_9_e]
      unfold b_law_12
      walk_at "dl"
      exact ⟨y1, rfl, o1, rfl⟩
  unfold b_law_4
  walk_at "dl"
  refine ite2 (fun _ => go _ 6 4 _ _ (by omega) (by omega) (by omega) rfl rfl) fun _ => draw_i _ _ _ _ (by omega) fun r1 hr1 => ?_
  walk_at "dl"
  refine draw_i _ _ _ _ (by omega) fun r2 hr2 => ?_
  walk_at "dl"
  exact go _ (1 + r1) r2 _ _ (by omega) (by omega) (by omega) (by rw [Int.natCast_add]; rfl) rfl
end Nk05

set_option maxHeartbeats 4000000
namespace Nk05
open PySem PySem.Spec L2 DL
theorem all_mk {l : PySem.W.OpenLaw} {w : World} {K : PySem.W.Frag} {h : Heap} {mg : Str → Option Value} {fa : Addr} (X : K.In h) (G : h.Ns mainGlobals mg) (hfa : mg "law" = some (.ref fa))
    {ad_conditions_within ad_condition_parts ad_most_asked ad_story_marks ad_story_scenes ad_scene_of ad_scene_lines ad_scene_choices ad_most_number ad_u_law_chest ad_u_law_draw ad_u_law_names ad_u_law_saying ad_u_law_condition ad_u_law_story ad_u_law_with ad_u_law_most ad_u_law_same ad_u_law_ask ad_u_law_looks ad_law : Addr} {od_conditions_within an_conditions_within od_condition_parts an_condition_parts od_most_asked an_most_asked od_story_marks an_story_marks od_story_scenes an_story_scenes od_scene_of an_scene_of od_scene_lines an_scene_lines od_scene_choices an_scene_choices od_most_number an_most_number od_u_law_chest an_u_law_chest od_u_law_draw an_u_law_draw od_u_law_names an_u_law_names od_u_law_saying an_u_law_saying od_u_law_condition an_u_law_condition od_u_law_story an_u_law_story od_u_law_with an_u_law_with od_u_law_most an_u_law_most od_u_law_same an_u_law_same od_u_law_ask an_u_law_ask od_u_law_looks an_u_law_looks od_law an_law : Option Addr} {sl_conditions_within sl_condition_parts sl_most_asked sl_story_marks sl_story_scenes sl_scene_of sl_scene_lines sl_scene_choices sl_most_number sl_u_law_chest sl_u_law_draw sl_u_law_names sl_u_law_saying sl_u_law_condition sl_u_law_story sl_u_law_with sl_u_law_most sl_u_law_same sl_u_law_ask sl_u_law_looks sl_law : Array (Option Value)} {oc_conditions_within kV_conditions_within dc_conditions_within pm_conditions_within cd_conditions_within ct_conditions_within oc_condition_parts kV_condition_parts dc_condition_parts pm_condition_parts cd_condition_parts ct_condition_parts oc_most_asked kV_most_asked dc_most_asked pm_most_asked cd_most_asked ct_most_asked oc_story_marks kV_story_marks dc_story_marks pm_story_marks cd_story_marks ct_story_marks oc_story_scenes kV_story_scenes dc_story_scenes pm_story_scenes cd_story_scenes ct_story_scenes oc_scene_of kV_scene_of dc_scene_of pm_scene_of cd_scene_of ct_scene_of oc_scene_lines kV_scene_lines dc_scene_lines pm_scene_lines cd_scene_lines ct_scene_lines oc_scene_choices kV_scene_choices dc_scene_choices pm_scene_choices cd_scene_choices ct_scene_choices oc_most_number kV_most_number dc_most_number pm_most_number cd_most_number ct_most_number oc_u_law_chest kV_u_law_chest dc_u_law_chest pm_u_law_chest cd_u_law_chest ct_u_law_chest oc_u_law_draw kV_u_law_draw dc_u_law_draw pm_u_law_draw cd_u_law_draw ct_u_law_draw oc_u_law_names kV_u_law_names dc_u_law_names pm_u_law_names cd_u_law_names ct_u_law_names oc_u_law_saying kV_u_law_saying dc_u_law_saying pm_u_law_saying cd_u_law_saying ct_u_law_saying oc_u_law_condition kV_u_law_condition dc_u_law_condition pm_u_law_condition cd_u_law_condition ct_u_law_condition oc_u_law_story kV_u_law_story dc_u_law_story pm_u_law_story cd_u_law_story ct_u_law_story oc_u_law_with kV_u_law_with dc_u_law_with pm_u_law_with cd_u_law_with ct_u_law_with oc_u_law_most kV_u_law_most dc_u_law_most pm_u_law_most cd_u_law_most ct_u_law_most oc_u_law_same kV_u_law_same dc_u_law_same pm_u_law_same cd_u_law_same ct_u_law_same oc_u_law_ask kV_u_law_ask dc_u_law_ask pm_u_law_ask cd_u_law_ask ct_u_law_ask oc_u_law_looks kV_u_law_looks dc_u_law_looks pm_u_law_looks cd_u_law_looks ct_u_law_looks oc_law kV_law dc_law pm_law cd_law ct_law : Value}
    (a_conditions_within : PySem.W.nsIn K mainGlobals "conditions_within" = some (some (.ref ad_conditions_within))) (l_conditions_within : K.lookup ad_conditions_within = some ⟨oc_conditions_within, od_conditions_within, .func (PySem.W.fnOf "conditions_within" "conditions_within" (defArgs s_conditions_within) (defBody s_conditions_within) (defScope s_conditions_within) .none kV_conditions_within dc_conditions_within pm_conditions_within an_conditions_within cd_conditions_within ct_conditions_within), sl_conditions_within⟩) (c_conditions_within : PySem.W.codeIn K cd_conditions_within "conditions_within" = true) (k_conditions_within : PySem.W.keepIn K (.ref ad_conditions_within) = true)
    (a_condition_parts : PySem.W.nsIn K mainGlobals "condition_parts" = some (some (.ref ad_condition_parts))) (l_condition_parts : K.lookup ad_condition_parts = some ⟨oc_condition_parts, od_condition_parts, .func (PySem.W.fnOf "condition_parts" "condition_parts" (defArgs s_condition_parts) (defBody s_condition_parts) (defScope s_condition_parts) .none kV_condition_parts dc_condition_parts pm_condition_parts an_condition_parts cd_condition_parts ct_condition_parts), sl_condition_parts⟩) (c_condition_parts : PySem.W.codeIn K cd_condition_parts "condition_parts" = true) (k_condition_parts : PySem.W.keepIn K (.ref ad_condition_parts) = true)
    (a_most_asked : PySem.W.nsIn K mainGlobals "most_asked" = some (some (.ref ad_most_asked))) (l_most_asked : K.lookup ad_most_asked = some ⟨oc_most_asked, od_most_asked, .func (PySem.W.fnOf "most_asked" "most_asked" (defArgs s_most_asked) (defBody s_most_asked) (defScope s_most_asked) .none kV_most_asked dc_most_asked pm_most_asked an_most_asked cd_most_asked ct_most_asked), sl_most_asked⟩) (c_most_asked : PySem.W.codeIn K cd_most_asked "most_asked" = true) (k_most_asked : PySem.W.keepIn K (.ref ad_most_asked) = true)
    (a_story_marks : PySem.W.nsIn K mainGlobals "story_marks" = some (some (.ref ad_story_marks))) (l_story_marks : K.lookup ad_story_marks = some ⟨oc_story_marks, od_story_marks, .func (PySem.W.fnOf "story_marks" "story_marks" (defArgs s_story_marks) (defBody s_story_marks) (defScope s_story_marks) .none kV_story_marks dc_story_marks pm_story_marks an_story_marks cd_story_marks ct_story_marks), sl_story_marks⟩) (c_story_marks : PySem.W.codeIn K cd_story_marks "story_marks" = true) (k_story_marks : PySem.W.keepIn K (.ref ad_story_marks) = true)
    (a_story_scenes : PySem.W.nsIn K mainGlobals "story_scenes" = some (some (.ref ad_story_scenes))) (l_story_scenes : K.lookup ad_story_scenes = some ⟨oc_story_scenes, od_story_scenes, .func (PySem.W.fnOf "story_scenes" "story_scenes" (defArgs s_story_scenes) (defBody s_story_scenes) (defScope s_story_scenes) .none kV_story_scenes dc_story_scenes pm_story_scenes an_story_scenes cd_story_scenes ct_story_scenes), sl_story_scenes⟩) (c_story_scenes : PySem.W.codeIn K cd_story_scenes "story_scenes" = true) (k_story_scenes : PySem.W.keepIn K (.ref ad_story_scenes) = true)
    (a_scene_of : PySem.W.nsIn K mainGlobals "scene_of" = some (some (.ref ad_scene_of))) (l_scene_of : K.lookup ad_scene_of = some ⟨oc_scene_of, od_scene_of, .func (PySem.W.fnOf "scene_of" "scene_of" (defArgs s_scene_of) (defBody s_scene_of) (defScope s_scene_of) .none kV_scene_of dc_scene_of pm_scene_of an_scene_of cd_scene_of ct_scene_of), sl_scene_of⟩) (c_scene_of : PySem.W.codeIn K cd_scene_of "scene_of" = true) (k_scene_of : PySem.W.keepIn K (.ref ad_scene_of) = true)
    (a_scene_lines : PySem.W.nsIn K mainGlobals "scene_lines" = some (some (.ref ad_scene_lines))) (l_scene_lines : K.lookup ad_scene_lines = some ⟨oc_scene_lines, od_scene_lines, .func (PySem.W.fnOf "scene_lines" "scene_lines" (defArgs s_scene_lines) (defBody s_scene_lines) (defScope s_scene_lines) .none kV_scene_lines dc_scene_lines pm_scene_lines an_scene_lines cd_scene_lines ct_scene_lines), sl_scene_lines⟩) (c_scene_lines : PySem.W.codeIn K cd_scene_lines "scene_lines" = true) (k_scene_lines : PySem.W.keepIn K (.ref ad_scene_lines) = true)
    (a_scene_choices : PySem.W.nsIn K mainGlobals "scene_choices" = some (some (.ref ad_scene_choices))) (l_scene_choices : K.lookup ad_scene_choices = some ⟨oc_scene_choices, od_scene_choices, .func (PySem.W.fnOf "scene_choices" "scene_choices" (defArgs s_scene_choices) (defBody s_scene_choices) (defScope s_scene_choices) .none kV_scene_choices dc_scene_choices pm_scene_choices an_scene_choices cd_scene_choices ct_scene_choices), sl_scene_choices⟩) (c_scene_choices : PySem.W.codeIn K cd_scene_choices "scene_choices" = true) (k_scene_choices : PySem.W.keepIn K (.ref ad_scene_choices) = true)
    (a_most_number : PySem.W.nsIn K mainGlobals "most_number" = some (some (.ref ad_most_number))) (l_most_number : K.lookup ad_most_number = some ⟨oc_most_number, od_most_number, .func (PySem.W.fnOf "most_number" "most_number" (defArgs s_most_number) (defBody s_most_number) (defScope s_most_number) .none kV_most_number dc_most_number pm_most_number an_most_number cd_most_number ct_most_number), sl_most_number⟩) (c_most_number : PySem.W.codeIn K cd_most_number "most_number" = true) (k_most_number : PySem.W.keepIn K (.ref ad_most_number) = true)
    (a_u_law_chest : PySem.W.nsIn K mainGlobals "_law_chest" = some (some (.ref ad_u_law_chest))) (l_u_law_chest : K.lookup ad_u_law_chest = some ⟨oc_u_law_chest, od_u_law_chest, .func (PySem.W.fnOf "_law_chest" "_law_chest" (defArgs s_u_law_chest) (defBody s_u_law_chest) (defScope s_u_law_chest) .none kV_u_law_chest dc_u_law_chest pm_u_law_chest an_u_law_chest cd_u_law_chest ct_u_law_chest), sl_u_law_chest⟩) (c_u_law_chest : PySem.W.codeIn K cd_u_law_chest "_law_chest" = true) (k_u_law_chest : PySem.W.keepIn K (.ref ad_u_law_chest) = true)
    (a_u_law_draw : PySem.W.nsIn K mainGlobals "_law_draw" = some (some (.ref ad_u_law_draw))) (l_u_law_draw : K.lookup ad_u_law_draw = some ⟨oc_u_law_draw, od_u_law_draw, .func (PySem.W.fnOf "_law_draw" "_law_draw" (defArgs s_u_law_draw) (defBody s_u_law_draw) (defScope s_u_law_draw) .none kV_u_law_draw dc_u_law_draw pm_u_law_draw an_u_law_draw cd_u_law_draw ct_u_law_draw), sl_u_law_draw⟩) (c_u_law_draw : PySem.W.codeIn K cd_u_law_draw "_law_draw" = true) (k_u_law_draw : PySem.W.keepIn K (.ref ad_u_law_draw) = true)
    (a_u_law_names : PySem.W.nsIn K mainGlobals "_law_names" = some (some (.ref ad_u_law_names))) (l_u_law_names : K.lookup ad_u_law_names = some ⟨oc_u_law_names, od_u_law_names, .func (PySem.W.fnOf "_law_names" "_law_names" (defArgs s_u_law_names) (defBody s_u_law_names) (defScope s_u_law_names) .none kV_u_law_names dc_u_law_names pm_u_law_names an_u_law_names cd_u_law_names ct_u_law_names), sl_u_law_names⟩) (c_u_law_names : PySem.W.codeIn K cd_u_law_names "_law_names" = true) (k_u_law_names : PySem.W.keepIn K (.ref ad_u_law_names) = true)
    (a_u_law_saying : PySem.W.nsIn K mainGlobals "_law_saying" = some (some (.ref ad_u_law_saying))) (l_u_law_saying : K.lookup ad_u_law_saying = some ⟨oc_u_law_saying, od_u_law_saying, .func (PySem.W.fnOf "_law_saying" "_law_saying" (defArgs s_u_law_saying) (defBody s_u_law_saying) (defScope s_u_law_saying) .none kV_u_law_saying dc_u_law_saying pm_u_law_saying an_u_law_saying cd_u_law_saying ct_u_law_saying), sl_u_law_saying⟩) (c_u_law_saying : PySem.W.codeIn K cd_u_law_saying "_law_saying" = true) (k_u_law_saying : PySem.W.keepIn K (.ref ad_u_law_saying) = true)
    (a_u_law_condition : PySem.W.nsIn K mainGlobals "_law_condition" = some (some (.ref ad_u_law_condition))) (l_u_law_condition : K.lookup ad_u_law_condition = some ⟨oc_u_law_condition, od_u_law_condition, .func (PySem.W.fnOf "_law_condition" "_law_condition" (defArgs s_u_law_condition) (defBody s_u_law_condition) (defScope s_u_law_condition) .none kV_u_law_condition dc_u_law_condition pm_u_law_condition an_u_law_condition cd_u_law_condition ct_u_law_condition), sl_u_law_condition⟩) (c_u_law_condition : PySem.W.codeIn K cd_u_law_condition "_law_condition" = true) (k_u_law_condition : PySem.W.keepIn K (.ref ad_u_law_condition) = true)
    (a_u_law_story : PySem.W.nsIn K mainGlobals "_law_story" = some (some (.ref ad_u_law_story))) (l_u_law_story : K.lookup ad_u_law_story = some ⟨oc_u_law_story, od_u_law_story, .func (PySem.W.fnOf "_law_story" "_law_story" (defArgs s_u_law_story) (defBody s_u_law_story) (defScope s_u_law_story) .none kV_u_law_story dc_u_law_story pm_u_law_story an_u_law_story cd_u_law_story ct_u_law_story), sl_u_law_story⟩) (c_u_law_story : PySem.W.codeIn K cd_u_law_story "_law_story" = true) (k_u_law_story : PySem.W.keepIn K (.ref ad_u_law_story) = true)
    (a_u_law_with : PySem.W.nsIn K mainGlobals "_law_with" = some (some (.ref ad_u_law_with))) (l_u_law_with : K.lookup ad_u_law_with = some ⟨oc_u_law_with, od_u_law_with, .func (PySem.W.fnOf "_law_with" "_law_with" (defArgs s_u_law_with) (defBody s_u_law_with) (defScope s_u_law_with) .none kV_u_law_with dc_u_law_with pm_u_law_with an_u_law_with cd_u_law_with ct_u_law_with), sl_u_law_with⟩) (c_u_law_with : PySem.W.codeIn K cd_u_law_with "_law_with" = true) (k_u_law_with : PySem.W.keepIn K (.ref ad_u_law_with) = true)
    (a_u_law_most : PySem.W.nsIn K mainGlobals "_law_most" = some (some (.ref ad_u_law_most))) (l_u_law_most : K.lookup ad_u_law_most = some ⟨oc_u_law_most, od_u_law_most, .func (PySem.W.fnOf "_law_most" "_law_most" (defArgs s_u_law_most) (defBody s_u_law_most) (defScope s_u_law_most) .none kV_u_law_most dc_u_law_most pm_u_law_most an_u_law_most cd_u_law_most ct_u_law_most), sl_u_law_most⟩) (c_u_law_most : PySem.W.codeIn K cd_u_law_most "_law_most" = true) (k_u_law_most : PySem.W.keepIn K (.ref ad_u_law_most) = true)
    (a_u_law_same : PySem.W.nsIn K mainGlobals "_law_same" = some (some (.ref ad_u_law_same))) (l_u_law_same : K.lookup ad_u_law_same = some ⟨oc_u_law_same, od_u_law_same, .func (PySem.W.fnOf "_law_same" "_law_same" (defArgs s_u_law_same) (defBody s_u_law_same) (defScope s_u_law_same) .none kV_u_law_same dc_u_law_same pm_u_law_same an_u_law_same cd_u_law_same ct_u_law_same), sl_u_law_same⟩) (c_u_law_same : PySem.W.codeIn K cd_u_law_same "_law_same" = true) (k_u_law_same : PySem.W.keepIn K (.ref ad_u_law_same) = true)
    (a_u_law_ask : PySem.W.nsIn K mainGlobals "_law_ask" = some (some (.ref ad_u_law_ask))) (l_u_law_ask : K.lookup ad_u_law_ask = some ⟨oc_u_law_ask, od_u_law_ask, .func (PySem.W.fnOf "_law_ask" "_law_ask" (defArgs s_u_law_ask) (defBody s_u_law_ask) (defScope s_u_law_ask) .none kV_u_law_ask dc_u_law_ask pm_u_law_ask an_u_law_ask cd_u_law_ask ct_u_law_ask), sl_u_law_ask⟩) (c_u_law_ask : PySem.W.codeIn K cd_u_law_ask "_law_ask" = true) (k_u_law_ask : PySem.W.keepIn K (.ref ad_u_law_ask) = true)
    (a_u_law_looks : PySem.W.nsIn K mainGlobals "_law_looks" = some (some (.ref ad_u_law_looks))) (l_u_law_looks : K.lookup ad_u_law_looks = some ⟨oc_u_law_looks, od_u_law_looks, .func (PySem.W.fnOf "_law_looks" "_law_looks" (defArgs s_u_law_looks) (defBody s_u_law_looks) (defScope s_u_law_looks) .none kV_u_law_looks dc_u_law_looks pm_u_law_looks an_u_law_looks cd_u_law_looks ct_u_law_looks), sl_u_law_looks⟩) (c_u_law_looks : PySem.W.codeIn K cd_u_law_looks "_law_looks" = true) (k_u_law_looks : PySem.W.keepIn K (.ref ad_u_law_looks) = true)
    (a_law : PySem.W.nsIn K mainGlobals "law" = some (some (.ref ad_law))) (l_law : K.lookup ad_law = some ⟨oc_law, od_law, .func (PySem.W.fnOf "law" "law" (defArgs s_law) (defBody s_law) (defScope s_law) .none kV_law dc_law pm_law an_law cd_law ct_law), sl_law⟩) (c_law : PySem.W.codeIn K cd_law "law" = true) (k_law : PySem.W.keepIn K (.ref ad_law) = true)
    {C_xNoSuch fI_NoSuch cc_NoSuch cda_NoSuch : Addr} {od_xNoSuch an_xNoSuch : Option Addr} {sl_xNoSuch : Array (Option Value)} {oc_xNoSuch kV_xNoSuch dc_xNoSuch pm_xNoSuch ct_xNoSuch : Value}
    (gc_NoSuch : PySem.W.nsIn K mainGlobals "NoSuch" = some (some (.ref C_xNoSuch))) (ic_NoSuch : PySem.W.findIn K (.ref C_xNoSuch) "__init__" = some (some (.ref fI_NoSuch))) (lc_NoSuch : K.lookup fI_NoSuch = some ⟨oc_xNoSuch, od_xNoSuch, .func (PySem.W.fnX "__init__" "NoSuch.__init__" (defArgs s_cls_NoSuch) (defBody s_cls_NoSuch) (defScope s_cls_NoSuch) [("__class__", cc_NoSuch)] .none kV_xNoSuch dc_xNoSuch pm_xNoSuch an_xNoSuch (.ref cda_NoSuch) ct_xNoSuch), sl_xNoSuch⟩) (bc_NoSuch : clsB l.prog.main.file K "NoSuch.__init__" C_xNoSuch fI_NoSuch cda_NoSuch cc_NoSuch ["word", "name"] = true)
    (tp : (l.prog.main.scope.names.lookup ("super" : Str)).isSome = false) (z_super : PySem.W.nsIn K mainGlobals "super" = some none)
    (xq : xsB K xL xF = true)
    (iq : isB K xL = true)
    (z_ve : PySem.W.nsIn K mainGlobals "ValueError" = some none)
    (z_len : PySem.W.nsIn K mainGlobals "len" = some none)
    (z_range : PySem.W.nsIn K mainGlobals "range" = some none)
    (z_all : PySem.W.nsIn K mainGlobals "all" = some none)
    (z_any : PySem.W.nsIn K mainGlobals "any" = some none)
    (z_abs : PySem.W.nsIn K mainGlobals "abs" = some none)
    (z_int : PySem.W.nsIn K mainGlobals "int" = some none)
    (z_str : PySem.W.nsIn K mainGlobals "str" = some none)
    (z_bool : PySem.W.nsIn K mainGlobals "bool" = some none)
    (z_list : PySem.W.nsIn K mainGlobals "list" = some none)
    (z_tuple : PySem.W.nsIn K mainGlobals "tuple" = some none)
    (z_dict : PySem.W.nsIn K mainGlobals "dict" = some none)
    (z_set : PySem.W.nsIn K mainGlobals "set" = some none)
    (z_isinstance : PySem.W.nsIn K mainGlobals "isinstance" = some none)
    (z_max : PySem.W.nsIn K mainGlobals "max" = some none)
    (z_min : PySem.W.nsIn K mainGlobals "min" = some none)
    (z_sum : PySem.W.nsIn K mainGlobals "sum" = some none)
    (z_sorted : PySem.W.nsIn K mainGlobals "sorted" = some none)
    (z_enumerate : PySem.W.nsIn K mainGlobals "enumerate" = some none)
    (z_zip : PySem.W.nsIn K mainGlobals "zip" = some none)
    (z_reversed : PySem.W.nsIn K mainGlobals "reversed" = some none)
    : ∃ fd : FuncData, (∀ (s : Shared) (v : Value), BindsTo s fd ⟨[v], []⟩ [("script", v)]) ∧ ∀ base : Heap, K.In base → base.Ns mainGlobals mg → FnOk l.prog w K mg base (L2.CX l.prog w) 19 fa fd ["script"] (spLaw K) := by
  have e := hfa.symm.trans (PySem.W.mg_of X G a_law)
  cases e
  have F_conditions_within := fun_mk (st := s_conditions_within) l_conditions_within c_conditions_within k_conditions_within
  have g_conditions_within := PySem.W.mg_of X G a_conditions_within
  have b_conditions_within := F_conditions_within.binds (ps := ["condition"]) fun _ _ _ _ _ _ us hl => match us, hl with | [_], _ => rfl
  have F_condition_parts := fun_mk (st := s_condition_parts) l_condition_parts c_condition_parts k_condition_parts
  have g_condition_parts := PySem.W.mg_of X G a_condition_parts
  have b_condition_parts := F_condition_parts.binds (ps := ["condition"]) fun _ _ _ _ _ _ us hl => match us, hl with | [_], _ => rfl
  have F_most_asked := fun_mk (st := s_most_asked) l_most_asked c_most_asked k_most_asked
  have g_most_asked := PySem.W.mg_of X G a_most_asked
  have b_most_asked := F_most_asked.binds (ps := ["condition"]) fun _ _ _ _ _ _ us hl => match us, hl with | [_], _ => rfl
  have F_story_marks := fun_mk (st := s_story_marks) l_story_marks c_story_marks k_story_marks
  have g_story_marks := PySem.W.mg_of X G a_story_marks
  have b_story_marks := F_story_marks.binds (ps := ["story"]) fun _ _ _ _ _ _ us hl => match us, hl with | [_], _ => rfl
  have F_story_scenes := fun_mk (st := s_story_scenes) l_story_scenes c_story_scenes k_story_scenes
  have g_story_scenes := PySem.W.mg_of X G a_story_scenes
  have b_story_scenes := F_story_scenes.binds (ps := ["story"]) fun _ _ _ _ _ _ us hl => match us, hl with | [_], _ => rfl
  have F_scene_of := fun_mk (st := s_scene_of) l_scene_of c_scene_of k_scene_of
  have g_scene_of := PySem.W.mg_of X G a_scene_of
  have b_scene_of := F_scene_of.binds (ps := ["story", "scene"]) fun _ _ _ _ _ _ us hl => match us, hl with | [_, _], _ => rfl
  have F_scene_lines := fun_mk (st := s_scene_lines) l_scene_lines c_scene_lines k_scene_lines
  have g_scene_lines := PySem.W.mg_of X G a_scene_lines
  have b_scene_lines := F_scene_lines.binds (ps := ["story", "scene"]) fun _ _ _ _ _ _ us hl => match us, hl with | [_, _], _ => rfl
  have F_scene_choices := fun_mk (st := s_scene_choices) l_scene_choices c_scene_choices k_scene_choices
  have g_scene_choices := PySem.W.mg_of X G a_scene_choices
  have b_scene_choices := F_scene_choices.binds (ps := ["story", "scene"]) fun _ _ _ _ _ _ us hl => match us, hl with | [_, _], _ => rfl
  have F_most_number := fun_mk (st := s_most_number) l_most_number c_most_number k_most_number
  have g_most_number := PySem.W.mg_of X G a_most_number
  have b_most_number := F_most_number.binds (ps := ["story"]) fun _ _ _ _ _ _ us hl => match us, hl with | [_], _ => rfl
  have F_u_law_chest := fun_mk (st := s_u_law_chest) l_u_law_chest c_u_law_chest k_u_law_chest
  have g_u_law_chest := PySem.W.mg_of X G a_u_law_chest
  have b_u_law_chest := F_u_law_chest.binds (ps := ["script"]) fun _ _ _ _ _ _ us hl => match us, hl with | [_], _ => rfl
  have F_u_law_draw := fun_mk (st := s_u_law_draw) l_u_law_draw c_u_law_draw k_u_law_draw
  have g_u_law_draw := PySem.W.mg_of X G a_u_law_draw
  have b_u_law_draw := F_u_law_draw.binds (ps := ["chest", "many", "place"]) fun _ _ _ _ _ _ us hl => match us, hl with | [_, _, _], _ => rfl
  have F_u_law_names := fun_mk (st := s_u_law_names) l_u_law_names c_u_law_names k_u_law_names
  have g_u_law_names := PySem.W.mg_of X G a_u_law_names
  have b_u_law_names := F_u_law_names.binds (ps := ["chest", "many", "place"]) fun _ _ _ _ _ _ us hl => match us, hl with | [_, _, _], _ => rfl
  have F_u_law_saying := fun_mk (st := s_u_law_saying) l_u_law_saying c_u_law_saying k_u_law_saying
  have g_u_law_saying := PySem.W.mg_of X G a_u_law_saying
  have b_u_law_saying := F_u_law_saying.binds (ps := ["chest", "at"]) fun _ _ _ _ _ _ us hl => match us, hl with | [_, _], _ => rfl
  have F_u_law_condition := fun_mk (st := s_u_law_condition) l_u_law_condition c_u_law_condition k_u_law_condition
  have g_u_law_condition := PySem.W.mg_of X G a_u_law_condition
  have b_u_law_condition := F_u_law_condition.binds (ps := ["chest", "marks", "most"]) fun _ _ _ _ _ _ us hl => match us, hl with | [_, _, _], _ => rfl
  have F_u_law_story := fun_mk (st := s_u_law_story) l_u_law_story c_u_law_story k_u_law_story
  have g_u_law_story := PySem.W.mg_of X G a_u_law_story
  have b_u_law_story := F_u_law_story.binds (ps := ["chest", "scenes", "marks", "most", "full"]) fun _ _ _ _ _ _ us hl => match us, hl with | [_, _, _, _, _], _ => rfl
  have F_u_law_with := fun_mk (st := s_u_law_with) l_u_law_with c_u_law_with k_u_law_with
  have g_u_law_with := PySem.W.mg_of X G a_u_law_with
  have b_u_law_with := F_u_law_with.binds (ps := ["chest", "story", "number"]) fun _ _ _ _ _ _ us hl => match us, hl with | [_, _, _], _ => rfl
  have F_u_law_most := fun_mk (st := s_u_law_most) l_u_law_most c_u_law_most k_u_law_most
  have g_u_law_most := PySem.W.mg_of X G a_u_law_most
  have b_u_law_most := F_u_law_most.binds (ps := ["story"]) fun _ _ _ _ _ _ us hl => match us, hl with | [_], _ => rfl
  have F_u_law_same := fun_mk (st := s_u_law_same) l_u_law_same c_u_law_same k_u_law_same
  have g_u_law_same := PySem.W.mg_of X G a_u_law_same
  have b_u_law_same := F_u_law_same.binds (ps := ["told", "due"]) fun _ _ _ _ _ _ us hl => match us, hl with | [_, _], _ => rfl
  have F_u_law_ask := fun_mk (st := s_u_law_ask) l_u_law_ask c_u_law_ask k_u_law_ask
  have g_u_law_ask := PySem.W.mg_of X G a_u_law_ask
  have b_u_law_ask := F_u_law_ask.binds (ps := ["word", "story", "scene"]) fun _ _ _ _ _ _ us hl => match us, hl with | [_, _, _], _ => rfl
  have F_u_law_looks := fun_mk (st := s_u_law_looks) l_u_law_looks c_u_law_looks k_u_law_looks
  have g_u_law_looks := PySem.W.mg_of X G a_u_law_looks
  have b_u_law_looks := F_u_law_looks.binds (ps := ["chest", "story"]) fun _ _ _ _ _ _ us hl => match us, hl with | [_, _], _ => rfl
  have F_law := fun_mk (st := s_law) l_law c_law k_law
  have g_law := PySem.W.mg_of X G a_law
  have Z : Bn mg := ⟨fun x hx => by
    simp only [List.mem_cons, List.not_mem_nil, or_false] at hx
    rcases hx with rfl | rfl | rfl | rfl | rfl | rfl | rfl | rfl | rfl | rfl | rfl | rfl | rfl | rfl | rfl | rfl | rfl | rfl | rfl | rfl
    · exact PySem.W.mg_none_of X G z_len
    · exact PySem.W.mg_none_of X G z_range
    · exact PySem.W.mg_none_of X G z_all
    · exact PySem.W.mg_none_of X G z_any
    · exact PySem.W.mg_none_of X G z_abs
    · exact PySem.W.mg_none_of X G z_int
    · exact PySem.W.mg_none_of X G z_str
    · exact PySem.W.mg_none_of X G z_bool
    · exact PySem.W.mg_none_of X G z_list
    · exact PySem.W.mg_none_of X G z_tuple
    · exact PySem.W.mg_none_of X G z_dict
    · exact PySem.W.mg_none_of X G z_set
    · exact PySem.W.mg_none_of X G z_isinstance
    · exact PySem.W.mg_none_of X G z_max
    · exact PySem.W.mg_none_of X G z_min
    · exact PySem.W.mg_none_of X G z_sum
    · exact PySem.W.mg_none_of X G z_sorted
    · exact PySem.W.mg_none_of X G z_enumerate
    · exact PySem.W.mg_none_of X G z_zip
    · exact PySem.W.mg_none_of X G z_reversed
    ⟩
  have XS : Xs K mg xL xF := xs_of X G xq
  have IS : Is K mg xL := is_of X G iq
  have VE : mg "ValueError" = none := PySem.W.mg_none_of X G z_ve
  refine ⟨PySem.W.fnOf "law" "law" (defArgs s_law) (defBody s_law) (defScope s_law) .none kV_law dc_law pm_law an_law cd_law ct_law, fun s v => .of_eq rfl, fun base _ _ => ?_⟩
  have R_NoSuch : Rz l.prog w K mg base "NoSuch" ["word", "name"] := by
    obtain ⟨I, T, ty, nf⟩ := cls_of (st := s_cls_NoSuch) bc_NoSuch tp lc_NoSuch
    exact ⟨⟨_, _, _, PySem.W.mg_of X G gc_NoSuch, T, ic_NoSuch, ty, in_NoSuch I T (PySem.W.mg_none_of X G z_super) nf, .all fun us hl => match us, hl with | [_, _, _], _ => rfl⟩, by decide, by decide⟩
  have C_conditions_within : Cal l.prog w K mg base (skOf K (C05)) 1 "conditions_within" s_conditions_within ["condition"] (f_conditions_within) := Cal.of F_conditions_within g_conditions_within sc_conditions_within b_conditions_within (fun f cdv A outer s H E hr => d_conditions_within Z hr) fun ds rt xp _ h => h_conditions_within ds rt xp h
  have C_condition_parts : Cal l.prog w K mg base (skOf K (C05)) 2 "condition_parts" s_condition_parts ["condition"] (f_condition_parts) := Cal.of F_condition_parts g_condition_parts sc_condition_parts b_condition_parts (fun f cdv A outer s H E hr => d_condition_parts Z (C_conditions_within.mono (by decide)) hr) fun ds rt xp _ h => h_condition_parts ds rt xp h
  have C_most_asked : Cal l.prog w K mg base (skOf K (C05)) 3 "most_asked" s_most_asked ["condition"] (f_most_asked) := Cal.of F_most_asked g_most_asked sc_most_asked b_most_asked (fun f cdv A outer s H E hr => d_most_asked Z (C_condition_parts.mono (by decide)) hr) fun ds rt xp _ h => h_most_asked ds rt xp h
  have C_story_marks : Cal l.prog w K mg base (skOf K (C05)) 1 "story_marks" s_story_marks ["story"] (f_story_marks) := Cal.of F_story_marks g_story_marks sc_story_marks b_story_marks (fun f cdv A outer s H E hr => d_story_marks Z hr) fun ds rt xp _ h => h_story_marks ds rt xp h
  have C_story_scenes : Cal l.prog w K mg base (skOf K (C05)) 1 "story_scenes" s_story_scenes ["story"] (f_story_scenes) := Cal.of F_story_scenes g_story_scenes sc_story_scenes b_story_scenes (fun f cdv A outer s H E hr => d_story_scenes Z hr) fun ds rt xp _ h => h_story_scenes ds rt xp h
  have C_scene_of : Cal l.prog w K mg base (skOf K (C05)) 3 "scene_of" s_scene_of ["story", "scene"] (f_scene_of) := Cal.of F_scene_of g_scene_of sc_scene_of b_scene_of (fun f cdv A outer s H E hr => d_scene_of Z R_NoSuch (by decide) hr) fun ds rt xp _ h => h_scene_of ds rt xp h
  have C_scene_lines : Cal l.prog w K mg base (skOf K (C05)) 4 "scene_lines" s_scene_lines ["story", "scene"] (f_scene_lines) := Cal.of F_scene_lines g_scene_lines sc_scene_lines b_scene_lines (fun f cdv A outer s H E hr => d_scene_lines Z (C_scene_of.mono (by decide)) hr) fun ds rt xp _ h => h_scene_lines ds rt xp h
  have C_scene_choices : Cal l.prog w K mg base (skOf K (C05)) 4 "scene_choices" s_scene_choices ["story", "scene"] (f_scene_choices) := Cal.of F_scene_choices g_scene_choices sc_scene_choices b_scene_choices (fun f cdv A outer s H E hr => d_scene_choices Z (C_scene_of.mono (by decide)) hr) fun ds rt xp _ h => h_scene_choices ds rt xp h
  have C_most_number : Cal l.prog w K mg base (skOf K (C05)) 4 "most_number" s_most_number ["story"] (f_most_number) := Cal.of F_most_number g_most_number sc_most_number b_most_number (fun f cdv A outer s H E hr => d_most_number Z (C_most_asked.mono (by decide)) hr) fun ds rt xp _ h => h_most_number ds rt xp h
  have C_u_law_chest : Cal l.prog w K mg base (skOf K (C05)) 1 "_law_chest" s_u_law_chest ["script"] (f_chest) := Cal.of F_u_law_chest g_u_law_chest sc_u_law_chest b_u_law_chest (fun f cdv A outer s H E hr => d_u_law_chest Z hr) fun ds rt xp _ h => h_chest ds rt xp h
  have C_u_law_draw : Cal l.prog w K mg base (skOf K (C05)) 1 "_law_draw" s_u_law_draw ["chest", "many", "place"] (f_draw) := Cal.op F_u_law_draw g_u_law_draw sc_u_law_draw (by decide) b_u_law_draw (fun f cdv A outer s H E hr => d_u_law_draw Z hr) (fun ds rt xp ⟨n, p, h, _⟩ => ⟨_, h⟩) (fun es rt xp a ks ts hl h hc => h_draw es rt xp a ks ts hl h hc)
  have C_u_law_names : Cal l.prog w K mg base (skOf K (C05)) 2 "_law_names" s_u_law_names ["chest", "many", "place"] (f_names) := Cal.of F_u_law_names g_u_law_names sc_u_law_names b_u_law_names (fun f cdv A outer s H E hr => d_u_law_names Z (C_u_law_draw.mono (by decide)) hr) fun ds rt xp _ h => h_names ds rt xp h
  have C_u_law_saying : Cal l.prog w K mg base (skOf K (C05)) 1 "_law_saying" s_u_law_saying ["chest", "at"] (f_saying) := Cal.of F_u_law_saying g_u_law_saying sc_u_law_saying b_u_law_saying (fun f cdv A outer s H E hr => d_u_law_saying Z hr) fun ds rt xp _ h => h_saying ds rt xp h
  have C_u_law_condition : Cal l.prog w K mg base (skOf K (C05)) 2 "_law_condition" s_u_law_condition ["chest", "marks", "most"] (f_condition) := Cal.of F_u_law_condition g_u_law_condition sc_u_law_condition b_u_law_condition (fun f cdv A outer s H E hr => d_u_law_condition Z (C_u_law_draw.mono (by decide)) hr) fun ds rt xp _ h => h_condition ds rt xp h
  have C_u_law_story : Cal l.prog w K mg base (skOf K (C05)) 3 "_law_story" s_u_law_story ["chest", "scenes", "marks", "most", "full"] (f_story) := Cal.of F_u_law_story g_u_law_story sc_u_law_story b_u_law_story (fun f cdv A outer s H E hr => d_u_law_story Z (C_u_law_condition.mono (by decide)) (C_u_law_draw.mono (by decide)) (C_u_law_names.mono (by decide)) (C_u_law_saying.mono (by decide)) hr) fun ds rt xp _ h => h_story ds rt xp h
  have C_u_law_with : Cal l.prog w K mg base (skOf K (C05)) 2 "_law_with" s_u_law_with ["chest", "story", "number"] (f_with) := Cal.of F_u_law_with g_u_law_with sc_u_law_with b_u_law_with (fun f cdv A outer s H E hr => d_u_law_with Z (C_u_law_draw.mono (by decide)) hr) fun ds rt xp _ h => h_with ds rt xp h
  have C_u_law_most : Cal l.prog w K mg base (skOf K (C05)) 1 "_law_most" s_u_law_most ["story"] (f_law_most) := Cal.of F_u_law_most g_u_law_most sc_u_law_most b_u_law_most (fun f cdv A outer s H E hr => d_u_law_most Z hr) fun ds rt xp _ h => h_law_most ds rt xp h
  have C_u_law_samen : Cal l.prog w K mg base (skOf K (C05)) 0 "_law_same" s_u_law_same ["told", "due"] (fun _ _ _ => False) := Cal.no F_u_law_same g_u_law_same b_u_law_same
  have C_u_law_same0 : Cal l.prog w K mg base (skOf K (C05)) 1 "_law_same" s_u_law_same ["told", "due"] (f_same 0) := Cal.of F_u_law_same g_u_law_same sc_u_law_same b_u_law_same (fun f cdv A outer s H E hr => d_u_law_same Z (C_u_law_samen.mono (by decide)) hr) fun ds rt xp _ h => h_same 0 _ (fun d rt xp h => absurd h (by rintro ⟨q, e, _⟩; cases e)) ds rt xp h
  have C_u_law_same1 : Cal l.prog w K mg base (skOf K (C05)) 2 "_law_same" s_u_law_same ["told", "due"] (f_same 1) := Cal.of F_u_law_same g_u_law_same sc_u_law_same b_u_law_same (fun f cdv A outer s H E hr => d_u_law_same Z (C_u_law_same0.mono (by decide)) hr) fun ds rt xp _ h => h_same 1 _ (fun d rt xp h hr => by obtain ⟨q, e, hq⟩ := h; cases e; exact ⟨d, rfl, hq, hr⟩) ds rt xp h
  have C_u_law_same2 : Cal l.prog w K mg base (skOf K (C05)) 3 "_law_same" s_u_law_same ["told", "due"] (f_same 2) := Cal.of F_u_law_same g_u_law_same sc_u_law_same b_u_law_same (fun f cdv A outer s H E hr => d_u_law_same Z (C_u_law_same1.mono (by decide)) hr) fun ds rt xp _ h => h_same 2 _ (fun d rt xp h hr => by obtain ⟨q, e, hq⟩ := h; cases e; exact ⟨d, rfl, hq, hr⟩) ds rt xp h
  have C_u_law_same3 : Cal l.prog w K mg base (skOf K (C05)) 4 "_law_same" s_u_law_same ["told", "due"] (f_same 3) := Cal.of F_u_law_same g_u_law_same sc_u_law_same b_u_law_same (fun f cdv A outer s H E hr => d_u_law_same Z (C_u_law_same2.mono (by decide)) hr) fun ds rt xp _ h => h_same 3 _ (fun d rt xp h hr => by obtain ⟨q, e, hq⟩ := h; cases e; exact ⟨d, rfl, hq, hr⟩) ds rt xp h
  have C_u_law_same4 : Cal l.prog w K mg base (skOf K (C05)) 5 "_law_same" s_u_law_same ["told", "due"] (f_same 4) := Cal.of F_u_law_same g_u_law_same sc_u_law_same b_u_law_same (fun f cdv A outer s H E hr => d_u_law_same Z (C_u_law_same3.mono (by decide)) hr) fun ds rt xp _ h => h_same 4 _ (fun d rt xp h hr => by obtain ⟨q, e, hq⟩ := h; cases e; exact ⟨d, rfl, hq, hr⟩) ds rt xp h
  have C_u_law_same5 : Cal l.prog w K mg base (skOf K (C05)) 6 "_law_same" s_u_law_same ["told", "due"] (f_same 5) := Cal.of F_u_law_same g_u_law_same sc_u_law_same b_u_law_same (fun f cdv A outer s H E hr => d_u_law_same Z (C_u_law_same4.mono (by decide)) hr) fun ds rt xp _ h => h_same 5 _ (fun d rt xp h hr => by obtain ⟨q, e, hq⟩ := h; cases e; exact ⟨d, rfl, hq, hr⟩) ds rt xp h
  have C_u_law_same6 : Cal l.prog w K mg base (skOf K (C05)) 7 "_law_same" s_u_law_same ["told", "due"] (f_same 6) := Cal.of F_u_law_same g_u_law_same sc_u_law_same b_u_law_same (fun f cdv A outer s H E hr => d_u_law_same Z (C_u_law_same5.mono (by decide)) hr) fun ds rt xp _ h => h_same 6 _ (fun d rt xp h hr => by obtain ⟨q, e, hq⟩ := h; cases e; exact ⟨d, rfl, hq, hr⟩) ds rt xp h
  have C_u_law_same7 : Cal l.prog w K mg base (skOf K (C05)) 8 "_law_same" s_u_law_same ["told", "due"] (f_same 7) := Cal.of F_u_law_same g_u_law_same sc_u_law_same b_u_law_same (fun f cdv A outer s H E hr => d_u_law_same Z (C_u_law_same6.mono (by decide)) hr) fun ds rt xp _ h => h_same 7 _ (fun d rt xp h hr => by obtain ⟨q, e, hq⟩ := h; cases e; exact ⟨d, rfl, hq, hr⟩) ds rt xp h
  have C_u_law_same8 : Cal l.prog w K mg base (skOf K (C05)) 9 "_law_same" s_u_law_same ["told", "due"] (f_same 8) := Cal.of F_u_law_same g_u_law_same sc_u_law_same b_u_law_same (fun f cdv A outer s H E hr => d_u_law_same Z (C_u_law_same7.mono (by decide)) hr) fun ds rt xp _ h => h_same 8 _ (fun d rt xp h hr => by obtain ⟨q, e, hq⟩ := h; cases e; exact ⟨d, rfl, hq, hr⟩) ds rt xp h
  have C_u_law_same9 : Cal l.prog w K mg base (skOf K (C05)) 10 "_law_same" s_u_law_same ["told", "due"] (f_same 9) := Cal.of F_u_law_same g_u_law_same sc_u_law_same b_u_law_same (fun f cdv A outer s H E hr => d_u_law_same Z (C_u_law_same8.mono (by decide)) hr) fun ds rt xp _ h => h_same 9 _ (fun d rt xp h hr => by obtain ⟨q, e, hq⟩ := h; cases e; exact ⟨d, rfl, hq, hr⟩) ds rt xp h
  have C_u_law_same10 : Cal l.prog w K mg base (skOf K (C05)) 11 "_law_same" s_u_law_same ["told", "due"] (f_same 10) := Cal.of F_u_law_same g_u_law_same sc_u_law_same b_u_law_same (fun f cdv A outer s H E hr => d_u_law_same Z (C_u_law_same9.mono (by decide)) hr) fun ds rt xp _ h => h_same 10 _ (fun d rt xp h hr => by obtain ⟨q, e, hq⟩ := h; cases e; exact ⟨d, rfl, hq, hr⟩) ds rt xp h
  have C_u_law_same11 : Cal l.prog w K mg base (skOf K (C05)) 12 "_law_same" s_u_law_same ["told", "due"] (f_same 11) := Cal.of F_u_law_same g_u_law_same sc_u_law_same b_u_law_same (fun f cdv A outer s H E hr => d_u_law_same Z (C_u_law_same10.mono (by decide)) hr) fun ds rt xp _ h => h_same 11 _ (fun d rt xp h hr => by obtain ⟨q, e, hq⟩ := h; cases e; exact ⟨d, rfl, hq, hr⟩) ds rt xp h
  have C_u_law_same12 : Cal l.prog w K mg base (skOf K (C05)) 13 "_law_same" s_u_law_same ["told", "due"] (f_same 12) := Cal.of F_u_law_same g_u_law_same sc_u_law_same b_u_law_same (fun f cdv A outer s H E hr => d_u_law_same Z (C_u_law_same11.mono (by decide)) hr) fun ds rt xp _ h => h_same 12 _ (fun d rt xp h hr => by obtain ⟨q, e, hq⟩ := h; cases e; exact ⟨d, rfl, hq, hr⟩) ds rt xp h
  have C_u_law_same13 : Cal l.prog w K mg base (skOf K (C05)) 14 "_law_same" s_u_law_same ["told", "due"] (f_same 13) := Cal.of F_u_law_same g_u_law_same sc_u_law_same b_u_law_same (fun f cdv A outer s H E hr => d_u_law_same Z (C_u_law_same12.mono (by decide)) hr) fun ds rt xp _ h => h_same 13 _ (fun d rt xp h hr => by obtain ⟨q, e, hq⟩ := h; cases e; exact ⟨d, rfl, hq, hr⟩) ds rt xp h
  have C_u_law_same14 : Cal l.prog w K mg base (skOf K (C05)) 15 "_law_same" s_u_law_same ["told", "due"] (f_same 14) := Cal.of F_u_law_same g_u_law_same sc_u_law_same b_u_law_same (fun f cdv A outer s H E hr => d_u_law_same Z (C_u_law_same13.mono (by decide)) hr) fun ds rt xp _ h => h_same 14 _ (fun d rt xp h hr => by obtain ⟨q, e, hq⟩ := h; cases e; exact ⟨d, rfl, hq, hr⟩) ds rt xp h
  have C_u_law_same15 : Cal l.prog w K mg base (skOf K (C05)) 16 "_law_same" s_u_law_same ["told", "due"] (f_same 15) := Cal.of F_u_law_same g_u_law_same sc_u_law_same b_u_law_same (fun f cdv A outer s H E hr => d_u_law_same Z (C_u_law_same14.mono (by decide)) hr) fun ds rt xp _ h => h_same 15 _ (fun d rt xp h hr => by obtain ⟨q, e, hq⟩ := h; cases e; exact ⟨d, rfl, hq, hr⟩) ds rt xp h
  have C_u_law_same16 : Cal l.prog w K mg base (skOf K (C05)) 17 "_law_same" s_u_law_same ["told", "due"] (f_same 16) := Cal.of F_u_law_same g_u_law_same sc_u_law_same b_u_law_same (fun f cdv A outer s H E hr => d_u_law_same Z (C_u_law_same15.mono (by decide)) hr) fun ds rt xp _ h => h_same 16 _ (fun d rt xp h hr => by obtain ⟨q, e, hq⟩ := h; cases e; exact ⟨d, rfl, hq, hr⟩) ds rt xp h
  have C_u_law_ask : Cal l.prog w K mg base (skOf K (C05)) 5 "_law_ask" s_u_law_ask ["word", "story", "scene"] (f_ask) := Cal.of F_u_law_ask g_u_law_ask sc_u_law_ask b_u_law_ask (fun f cdv A outer s H E hr => d_u_law_ask Z XS IS VE (C_scene_choices.mono (by decide)) (C_scene_lines.mono (by decide)) hr) fun ds rt xp _ h => h_ask ds rt xp h
  have C_u_law_looks : Cal l.prog w K mg base (skOf K (C05)) 18 "_law_looks" s_u_law_looks ["chest", "story"] (f_looks) := Cal.of F_u_law_looks g_u_law_looks sc_u_law_looks b_u_law_looks (fun f cdv A outer s H E hr => d_u_law_looks Z (C_u_law_ask.mono (by decide)) (C_u_law_draw.mono (by decide)) (C_u_law_most.mono (by decide)) (C_u_law_same16.mono (by decide)) (C_most_number.mono (by decide)) (C_story_marks.mono (by decide)) (C_story_scenes.mono (by decide)) hr) fun ds rt xp _ h => h_looks ds rt xp h
  exact ok_law F_law sc_law (fun cdv A outer s H E hr => d_law (C := C05) Z (C_u_law_chest.mono (by decide)) (C_u_law_draw.mono (by decide)) (C_u_law_looks.mono (by decide)) (C_u_law_story.mono (by decide)) (C_u_law_with.mono (by decide)) hr) (fun ns h => h_law ns h)
end Nk05
open PySem PySem.W PyProof.Rows
set_option maxHeartbeats 0 in
theorem PySem.Challenge.cw_turnedpages_k05_parts_of_stories_holds : PySem.Challenge.rw_turnedpages_k05_parts_of_stories.Holds := by
  w_on; o_law; k_head; (case hw => w_witness2)
  k_fill
  refine L2.walk_of (l := PySem.Challenge.rw_turnedpages_k05_parts_of_stories) (n := 63) (k := 19) (x := "script") (CX := fun w => L2.CX PySem.Challenge.rw_turnedpages_k05_parts_of_stories.prog w) (sp := fun w => DL.spLaw _) rfl (by decide) rfl ⟨rfl, by decide, by decide⟩ (fun w h Y => PySem.W.kIn_of Y) ?F (fun _ _ a ns hl _ hS => ⟨a, ns, rfl, hS, hl, fun _ => rfl⟩) (fun _ _ _ _ _ ⟨_, _, _, _, _, _, _, _, _, _, _, _, h⟩ => h)
  case F =>
    intro w mg fa h KX G hmg
    refine' Nk05.all_mk KX G hmg ?a_conditions_within ?l_conditions_within ?c_conditions_within ?k_conditions_within ?a_condition_parts ?l_condition_parts ?c_condition_parts ?k_condition_parts ?a_most_asked ?l_most_asked ?c_most_asked ?k_most_asked ?a_story_marks ?l_story_marks ?c_story_marks ?k_story_marks ?a_story_scenes ?l_story_scenes ?c_story_scenes ?k_story_scenes ?a_scene_of ?l_scene_of ?c_scene_of ?k_scene_of ?a_scene_lines ?l_scene_lines ?c_scene_lines ?k_scene_lines ?a_scene_choices ?l_scene_choices ?c_scene_choices ?k_scene_choices ?a_most_number ?l_most_number ?c_most_number ?k_most_number ?a_u_law_chest ?l_u_law_chest ?c_u_law_chest ?k_u_law_chest ?a_u_law_draw ?l_u_law_draw ?c_u_law_draw ?k_u_law_draw ?a_u_law_names ?l_u_law_names ?c_u_law_names ?k_u_law_names ?a_u_law_saying ?l_u_law_saying ?c_u_law_saying ?k_u_law_saying ?a_u_law_condition ?l_u_law_condition ?c_u_law_condition ?k_u_law_condition ?a_u_law_story ?l_u_law_story ?c_u_law_story ?k_u_law_story ?a_u_law_with ?l_u_law_with ?c_u_law_with ?k_u_law_with ?a_u_law_most ?l_u_law_most ?c_u_law_most ?k_u_law_most ?a_u_law_same ?l_u_law_same ?c_u_law_same ?k_u_law_same ?a_u_law_ask ?l_u_law_ask ?c_u_law_ask ?k_u_law_ask ?a_u_law_looks ?l_u_law_looks ?c_u_law_looks ?k_u_law_looks ?a_law ?l_law ?c_law ?k_law ?gc_NoSuch ?ic_NoSuch ?lc_NoSuch ?bc_NoSuch ?tp ?z_super ?xq ?iq ?z_ve ?z_len ?z_range ?z_all ?z_any ?z_abs ?z_int ?z_str ?z_bool ?z_list ?z_tuple ?z_dict ?z_set ?z_isinstance ?z_max ?z_min ?z_sum ?z_sorted ?z_enumerate ?z_zip ?z_reversed
    (case a_conditions_within => k_is); (case l_conditions_within => k_is); (case c_conditions_within => k_is); (case k_conditions_within => k_is); (case a_condition_parts => k_is); (case l_condition_parts => k_is); (case c_condition_parts => k_is); (case k_condition_parts => k_is); (case a_most_asked => k_is); (case l_most_asked => k_is); (case c_most_asked => k_is); (case k_most_asked => k_is); (case a_story_marks => k_is); (case l_story_marks => k_is); (case c_story_marks => k_is); (case k_story_marks => k_is); (case a_story_scenes => k_is); (case l_story_scenes => k_is); (case c_story_scenes => k_is); (case k_story_scenes => k_is); (case a_scene_of => k_is); (case l_scene_of => k_is); (case c_scene_of => k_is); (case k_scene_of => k_is); (case a_scene_lines => k_is); (case l_scene_lines => k_is); (case c_scene_lines => k_is); (case k_scene_lines => k_is); (case a_scene_choices => k_is); (case l_scene_choices => k_is); (case c_scene_choices => k_is); (case k_scene_choices => k_is); (case a_most_number => k_is); (case l_most_number => k_is); (case c_most_number => k_is); (case k_most_number => k_is); (case a_u_law_chest => k_is); (case l_u_law_chest => k_is); (case c_u_law_chest => k_is); (case k_u_law_chest => k_is); (case a_u_law_draw => k_is); (case l_u_law_draw => k_is); (case c_u_law_draw => k_is); (case k_u_law_draw => k_is); (case a_u_law_names => k_is); (case l_u_law_names => k_is); (case c_u_law_names => k_is); (case k_u_law_names => k_is); (case a_u_law_saying => k_is); (case l_u_law_saying => k_is); (case c_u_law_saying => k_is); (case k_u_law_saying => k_is); (case a_u_law_condition => k_is); (case l_u_law_condition => k_is); (case c_u_law_condition => k_is); (case k_u_law_condition => k_is); (case a_u_law_story => k_is); (case l_u_law_story => k_is); (case c_u_law_story => k_is); (case k_u_law_story => k_is); (case a_u_law_with => k_is); (case l_u_law_with => k_is); (case c_u_law_with => k_is); (case k_u_law_with => k_is); (case a_u_law_most => k_is); (case l_u_law_most => k_is); (case c_u_law_most => k_is); (case k_u_law_most => k_is); (case a_u_law_same => k_is); (case l_u_law_same => k_is); (case c_u_law_same => k_is); (case k_u_law_same => k_is); (case a_u_law_ask => k_is); (case l_u_law_ask => k_is); (case c_u_law_ask => k_is); (case k_u_law_ask => k_is); (case a_u_law_looks => k_is); (case l_u_law_looks => k_is); (case c_u_law_looks => k_is); (case k_u_law_looks => k_is); (case a_law => k_is); (case l_law => k_is); (case c_law => k_is); (case k_law => k_is); (case z_len => k_is); (case z_range => k_is); (case z_all => k_is); (case z_any => k_is); (case z_abs => k_is); (case z_int => k_is); (case z_str => k_is); (case z_bool => k_is); (case z_list => k_is); (case z_tuple => k_is); (case z_dict => k_is); (case z_set => k_is); (case z_isinstance => k_is); (case z_max => k_is); (case z_min => k_is); (case z_sum => k_is); (case z_sorted => k_is); (case z_enumerate => k_is); (case z_zip => k_is); (case z_reversed => k_is); (case gc_NoSuch => k_is); (case ic_NoSuch => k_is); (case lc_NoSuch => k_is); (case z_super => k_is); (case z_ve => k_is)
    case tp => rfl
    all_goals kernel_rfl

