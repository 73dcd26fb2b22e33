import PyProof.Rows.All
import Wide.All
import OpenK.AllK
import Wide.FinOn
import HandS.ForMost
import HandS.ForExc
import KE.DataEq
import KE.DataAny
import KE.DataIsa
import KE.SortData
import HandS.IsInst
import HandS.Iter
import HandS.TupAny
import HandS.Wide
import HandS.WideBits
import HandS.Text
import HandS.More
import HandS.Zip
import HandS.ForList
import HandS.Comp
import HandS.List
import HandS.Ends
import KE.RegKSuper
import KE.KExcSuper
import HandS.Exc
import HandS.ExcSuper
import HandS.ExcIs
import KE.LtSeq
import HandS.HeadHook2
import HandS.Defaults
import HandS.Head0
import HandS.Head1
import HandS.Head2
import HandS.HeadEnd
import HandS.HeadHook1
import HandS.HeadHook3
import HandS.TupMul
import HandS.Style
import HandS.TupLe
import HandS.Dict
import PyProof.ListStr
import PyProof.StrOps2
import PyProof.Rows.StrOr
import HandS.WordsDict
import HandS.Words
import PyProof.ReprLen
import PyProof.StrLawsRepr
import PyProof.FitsInt
import KE.KxText
import PySem.Challenge.RW_reasonhouse_k02_names_fractions_and_refu
set_option Elab.async false
set_option linter.all false
set_option maxRecDepth 100000
set_option maxHeartbeats 4000000
namespace PP
open PySem L2

/-! ## the plain semantics -/
inductive Vl where
  | py (d : PyData)
  | fn (f : Str)
  | err (c : Str) (d : PyData)
  | box (k : Nat)
/-- how a value's object stands: shut for good, new and nobody's, the object of a name of ours -/
inductive Tg where
  | pure | fresh | mine
inductive Slot where
  | un
  | p (v : Vl)
  | own (d : PyData)
abbrev Sl := List Slot
abbrev SS := List PyData
inductive ER where
  | val (t : Tg) (v : Vl) (S : SS)
  | exn (c : Str) (d : PyData) (S : SS)
inductive AR where
  | vals (xs : List (Tg × Vl)) (S : SS)
  | exn (c : Str) (d : PyData) (S : SS)
inductive TR where
  | tb (b : Bool) (S : SS)
  | exn (c : Str) (d : PyData) (S : SS)
inductive SR where
  | nx (sl : Sl) (S : SS)
  | rt (t : Tg) (v : Vl) (S : SS)
  | bk (sl : Sl) (S : SS)
  | ct (sl : Sl) (S : SS)
  | exn (c : Str) (d : PyData) (sl : Sl) (S : SS)
abbrev FE := Sl → SS → Option ER
abbrev FA := Sl → SS → Option AR
abbrev FT := Sl → SS → Option TR
abbrev FS := Sl → SS → Option SR

/-- what stands there now -/
def cont (S : SS) : Vl → Option PyData
  | .py d => some d
  | .box k => S[k]?
  | _ => none

/-! ## what is held of it in the heap -/
/-- a list that nobody changes: shut, or an object of the module's -/
def FzK (K : PySem.W.Frag) (H : Hp) (p : Addr) (vs : List V) : Prop :=
  (∃ o, H p = some (.frz o (.lst vs))) ∨
    ∃ (o : Obj) (its : Array Value) (n : Nat), K.lookup p = some o ∧ o.cls = .type "list" ∧ o.dict = none ∧ o.data = .seq its n ∧ its.size ≤ sizeLine ∧ Vals vs its.toList
theorem FzK.sq {K : PySem.W.Frag} {H : Hp} {p : Addr} {vs : List V} (h : FzK K H p vs) : SqL K H p vs := by
  rcases h with h | h
  · exact .inl (.inr h)
  · exact .inr h
section
variable (K : PySem.W.Frag) (H : Hp)
mutual
/-- data that nobody changes any more -/
def Rp : PyData → V → Prop
  | .none, v => v = .non
  | .bool b, v => v = .bl b
  | .int i, v => v = .int i
  | .str s, v => v = .str s
  | .list ds, v => ∃ p vs, v = .ref p ∧ FzK K H p vs ∧ Rps ds vs
  | .tuple ds, v => ∃ p vs, v = .ref p ∧ SqT K H p vs ∧ Rps ds vs
  | .dict kvs, v => ∃ p o ks, v = .ref p ∧ H p = some (.frz o (.dK ks)) ∧ Rpk kvs ks
def Rps : List PyData → List V → Prop
  | [], vs => vs = []
  | d :: ds, vs => ∃ v r, vs = v :: r ∧ Rp d v ∧ Rps ds r
def Rpk : List (PyData × PyData) → List (Key × V) → Prop
  | [], ks => ks = []
  | (a, b) :: r, ks => ∃ k v t, ks = (k, v) :: t ∧ Rp a (kV k) ∧ Rp b v ∧ Rpk r t
end
end

/-! ### what stays -/
/-- an object that may be changed by somebody -/
def Mu : HO → Bool
  | .lst _ => true
  | .dK _ => true
  | _ => false
/-- all that nobody changes stands -/
def Fz (H H' : Hp) : Prop := ∀ a o, H a = some o → Mu o = false → H' a = some o
theorem Fz.refl (H : Hp) : Fz H H := fun _ _ h _ => h
theorem Fz.trans {H H1 H2 : Hp} (a : Fz H H1) (b : Fz H1 H2) : Fz H H2 := fun x o h m => b x o (a x o h m) m
theorem FzK.mono {K : PySem.W.Frag} {H H' : Hp} {p : Addr} {vs : List V} (z : Fz H H') (h : FzK K H p vs) : FzK K H' p vs := by
  rcases h with ⟨o, h⟩ | h
  · exact .inl ⟨o, z _ _ h rfl⟩
  · exact .inr h
theorem sqT_mono {K : PySem.W.Frag} {H H' : Hp} {p : Addr} {vs : List V} (z : Fz H H') (h : SqT K H p vs) : SqT K H' p vs := by
  rcases h with (h | ⟨o, h⟩) | h
  · exact .inl (.inl (z _ _ h rfl))
  · exact .inl (.inr ⟨o, z _ _ h rfl⟩)
  · exact .inr h
section
variable {K : PySem.W.Frag} {H H' : Hp}
mutual
theorem Rp.mono (z : Fz H H') : ∀ (d : PyData) {v : V}, Rp K H d v → Rp K H' d v
  | .none, _, h => h
  | .bool _, _, h => h
  | .int _, _, h => h
  | .str _, _, h => h
  | .list ds, _, ⟨p, vs, e, q, r⟩ => ⟨p, vs, e, q.mono z, Rps.mono z ds r⟩
  | .tuple ds, _, ⟨p, vs, e, q, r⟩ => ⟨p, vs, e, sqT_mono z q, Rps.mono z ds r⟩
  | .dict kvs, _, ⟨p, o, ks, e, q, r⟩ => ⟨p, o, ks, e, z _ _ q rfl, Rpk.mono z kvs r⟩
theorem Rps.mono (z : Fz H H') : ∀ (ds : List PyData) {vs : List V}, Rps K H ds vs → Rps K H' ds vs
  | [], _, h => h
  | d :: ds, _, ⟨v, r, e, a, b⟩ => ⟨v, r, e, Rp.mono z d a, Rps.mono z ds b⟩
theorem Rpk.mono (z : Fz H H') : ∀ (kvs : List (PyData × PyData)) {ks : List (Key × V)}, Rpk K H kvs ks → Rpk K H' kvs ks
  | [], _, h => h
  | (a, b) :: r, _, ⟨k, v, t, e, h1, h2, h3⟩ => ⟨k, v, t, e, Rp.mono z a h1, Rp.mono z b h2, Rpk.mono z r h3⟩
end
theorem Rps.len : ∀ {ds : List PyData} {vs : List V}, Rps K H ds vs → vs.length = ds.length
  | [], _, h => by cases h; rfl
  | d :: ds, _, ⟨v, r, e, _, b⟩ => by subst e; exact congrArg (· + 1) (Rps.len b)
theorem Rps.get : ∀ {ds : List PyData} {vs : List V} {i : Nat} {d : PyData}, Rps K H ds vs → ds[i]? = some d → ∃ v, vs[i]? = some v ∧ Rp K H d v
  | d :: ds, _, 0, _, ⟨v, r, e, a, _⟩, h => by subst e; cases h; exact ⟨v, rfl, a⟩
  | d :: ds, _, i + 1, _, ⟨v, r, e, _, b⟩, h => by subst e; exact Rps.get (i := i) b h
theorem Rps.get' : ∀ {ds : List PyData} {vs : List V} {i : Nat} {v : V}, Rps K H ds vs → vs[i]? = some v → ∃ d, ds[i]? = some d ∧ Rp K H d v
  | [], _, _, _, h, g => by cases h; cases g
  | d :: ds, _, 0, _, ⟨v, r, e, a, _⟩, h => by subst e; cases h; exact ⟨d, rfl, a⟩
  | d :: ds, _, i + 1, _, ⟨v, r, e, _, b⟩, h => by subst e; exact Rps.get' (i := i) b h
theorem Rps.app : ∀ {ds es : List PyData} {vs us : List V}, Rps K H ds vs → Rps K H es us → Rps K H (ds ++ es) (vs ++ us)
  | [], _, _, _, h, g => by cases h; exact g
  | d :: ds, _, _, _, ⟨v, r, e, a, b⟩, g => by subst e; exact ⟨v, _, rfl, a, Rps.app b g⟩
theorem Rps.take : ∀ (n : Nat) {ds : List PyData} {vs : List V}, Rps K H ds vs → Rps K H (ds.take n) (vs.take n)
  | 0, _, _, _ => rfl
  | n + 1, [], _, h => by cases h; rfl
  | n + 1, d :: ds, _, ⟨v, r, e, a, b⟩ => by subst e; exact ⟨v, _, rfl, a, Rps.take n b⟩
theorem Rps.drop : ∀ (n : Nat) {ds : List PyData} {vs : List V}, Rps K H ds vs → Rps K H (ds.drop n) (vs.drop n)
  | 0, _, _, h => h
  | n + 1, [], _, h => by cases h; rfl
  | n + 1, d :: ds, _, ⟨v, r, e, a, b⟩ => by subst e; exact Rps.drop n b
theorem Rps.set : ∀ (n : Nat) {ds : List PyData} {vs : List V} {d : PyData} {v : V}, Rps K H ds vs → Rp K H d v → Rps K H (ds.set n d) (vs.set n v)
  | _, [], _, _, _, h, _ => by cases h; rfl
  | 0, d :: ds, _, _, _, ⟨v, r, e, a, b⟩, g => by subst e; exact ⟨_, _, rfl, g, b⟩
  | n + 1, d :: ds, _, _, _, ⟨v, r, e, a, b⟩, g => by subst e; exact ⟨_, _, rfl, a, Rps.set n b g⟩
end
end PP
set_option Elab.async false
set_option linter.all false
set_option maxRecDepth 100000
set_option maxHeartbeats 4000000
namespace PP
open PySem L2
/-! ## a thing that may be read now (its own object may be a list or dict of ours, what lies within is shut) -/
def Sh (K : PySem.W.Frag) (H : Hp) : PyData → V → Prop
  | .list ds, v => ∃ p vs, v = .ref p ∧ SqL K H p vs ∧ Rps K H ds vs
  | .dict kvs, v => ∃ p ks, v = .ref p ∧ Rd H p (.dK ks) ∧ Rpk K H kvs ks
  | d, v => Rp K H d v
/-- an object of ours at p -/
def Own1 (K : PySem.W.Frag) (H : Hp) (p : Addr) : PyData → Prop
  | .list ds => ∃ vs, H p = some (.lst vs) ∧ Rps K H ds vs
  | .dict kvs => ∃ ks, H p = some (.dK ks) ∧ Rpk K H kvs ks
  | _ => False
section
variable {K : PySem.W.Frag} {H H' : Hp}
theorem Rp.sh : ∀ {d : PyData} {v : V}, Rp K H d v → Sh K H d v
  | .none, _, h => h
  | .bool _, _, h => h
  | .int _, _, h => h
  | .str _, _, h => h
  | .tuple _, _, h => h
  | .list _, _, ⟨p, vs, e, q, r⟩ => ⟨p, vs, e, q.sq, r⟩
  | .dict _, _, ⟨p, o, ks, e, q, r⟩ => ⟨p, ks, e, .inr ⟨o, q⟩, r⟩
theorem Own1.sh : ∀ {d : PyData} {p : Addr}, Own1 K H p d → Sh K H d (.ref p)
  | .list _, p, ⟨vs, e, r⟩ => ⟨p, vs, rfl, .inl (.inl e), r⟩
  | .dict _, p, ⟨ks, e, r⟩ => ⟨p, ks, rfl, .inl e, r⟩
  | .none, _, h => h.elim
  | .bool _, _, h => h.elim
  | .int _, _, h => h.elim
  | .str _, _, h => h.elim
  | .tuple _, _, h => h.elim
theorem Own1.mono (z : Fz H H') : ∀ {d : PyData} {p : Addr}, H' p = H p → Own1 K H p d → Own1 K H' p d
  | .list _, p, e, ⟨vs, h, r⟩ => ⟨vs, e.trans h, Rps.mono z _ r⟩
  | .dict _, p, e, ⟨ks, h, r⟩ => ⟨ks, e.trans h, Rpk.mono z _ r⟩
  | .none, _, _, h => h.elim
  | .bool _, _, _, h => h.elim
  | .int _, _, _, h => h.elim
  | .str _, _, _, h => h.elim
  | .tuple _, _, _, h => h.elim
theorem Own1.mu : ∀ {d : PyData} {p : Addr}, Own1 K H p d → ∃ o, H p = some o ∧ Mu o = true
  | .list _, p, ⟨vs, e, r⟩ => ⟨_, e, rfl⟩
  | .dict _, p, ⟨ks, e, r⟩ => ⟨_, e, rfl⟩
  | .none, _, h => h.elim
  | .bool _, _, h => h.elim
  | .int _, _, h => h.elim
  | .str _, _, h => h.elim
  | .tuple _, _, h => h.elim
end

/-! ## .. as the library's relation of values and data -/
section
variable {P : Program} {w : World} {K : PySem.W.Frag} {H : Hp} {h : Heap}
theorem ra_nil : ReadsAll h [] [] [] := .nil
mutual
theorem Rp.reads (ok : HOk P w H h) (kin : K.In h) : ∀ (d : PyData) {v : V} {u : Value}, Rp K H d v → RelV v u → ∃ as, Reads h u d as
  | .none, _, _, e, r => by cases e; cases r; exact ⟨_, .none⟩
  | .bool b, _, _, e, r => by cases e; cases r; exact ⟨_, .bool b⟩
  | .int i, _, _, e, r => by cases e; obtain ⟨t, rfl⟩ := r; exact ⟨_, .int i t⟩
  | .str s, _, _, e, r => by cases e; obtain ⟨t, rfl⟩ := r; exact ⟨_, .str s t⟩
  | .list ds, _, _, ⟨p, vs, e, q, rs⟩, r => by
    subst e
    cases r
    rcases q with ⟨o, q⟩ | ⟨o, its, n, hk, hc, hd, hs, hz, rv⟩
    · obtain ⟨_, its, n, rv, e2⟩ := (ok p _ q).2
      obtain ⟨as, ra⟩ := Rps.reads ok kin ds rs rv
      exact ⟨_, .list (vs := its.toArray) e2 rfl rfl (by simpa using ra)⟩
    · obtain ⟨as, ra⟩ := Rps.reads ok kin ds rs rv
      exact ⟨_, .list (kin p o hk) hc hs ra⟩
  | .tuple ds, _, _, ⟨p, vs, e, q, rs⟩, r => by
    subst e
    cases r
    rcases q with q | ⟨o, its, n, hk, hc, hs, hz, rv⟩
    · obtain ⟨_, its, rv, o, e1, e2, n, e3⟩ := (q.ok ok)
      obtain ⟨as, ra⟩ := Rps.reads ok kin ds rs rv
      exact ⟨_, .tuple (vs := its.toArray) e1 e2 e3 (by simpa using ra)⟩
    · obtain ⟨as, ra⟩ := Rps.reads ok kin ds rs rv
      exact ⟨_, .tuple (kin p o hk) hc hs ra⟩
  | .dict kvs, _, _, ⟨p, o, ks, e, q, rs⟩, r => by
    subst e
    cases r
    obtain ⟨_, _, vs, kv, o, es, ep, e1, e2, e3, e4, e5, _⟩ := (ok p _ q).2
    obtain ⟨as, bs, ra, rb⟩ := Rpk.reads ok kin kvs rs kv e5
    exact ⟨_, .dict e1 e2.1 e3 ra rb⟩
theorem Rps.reads (ok : HOk P w H h) (kin : K.In h) : ∀ (ds : List PyData) {vs : List V} {us : List Value}, Rps K H ds vs → Vals vs us → ∃ as, ReadsAll h us ds as
  | [], _, _, e, r => by cases e; cases r; exact ⟨_, .nil⟩
  | d :: ds, _, _, ⟨v, t, e, a, b⟩, r => by
    subst e
    cases r with
    | cons r1 r2 =>
      obtain ⟨as, x⟩ := Rp.reads ok kin d a r1
      obtain ⟨bs, y⟩ := Rps.reads ok kin ds b r2
      exact ⟨_, .cons x y⟩
theorem Rpk.reads (ok : HOk P w H h) (kin : K.In h) : ∀ (kvs : List (PyData × PyData)) {ks : List (Key × V)} {ws : List (Key × Value)} {es : List DictEntry}, Rpk K H kvs ks → KV ks ws → Pairs (mixKind P w) es ws →
    ∃ as bs, ReadsAll h (es.map (·.key)) (kvs.map (·.1)) as ∧ ReadsAll h (es.map (·.val)) (kvs.map (·.2)) bs
  | [], _, _, _, e, r, q => by cases e; cases r; cases q; exact ⟨_, _, .nil, .nil⟩
  | (a, b) :: r, _, _, _, ⟨k, v, t, e, h1, h2, h3⟩, rr, q => by
    subst e
    cases rr with
    | cons r1 r2 =>
      cases q with
      | cons q1 q2 q3 =>
        obtain ⟨e1, rv⟩ := r1
        obtain ⟨as, bs, x, y⟩ := Rpk.reads ok kin r h3 r2 q3
        obtain ⟨cs, x1⟩ := Rp.reads ok kin a h1 (by
          have := relV_key (k := _) q1
          rw [← e1] at this
          exact this)
        obtain ⟨dd, y1⟩ := Rp.reads ok kin b h2 (Eq.mpr (congrArg (RelV v) q2) rv)
        exact ⟨_, _, .cons x1 x, .cons y1 y⟩
end
theorem Sh.reads (ok : HOk P w H h) (kin : K.In h) : ∀ (d : PyData) {v : V} {u : Value}, Sh K H d v → RelV v u → ∃ as, Reads h u d as
  | .none, _, _, e, r => Rp.reads ok kin .none e r
  | .bool b, _, _, e, r => Rp.reads ok kin (.bool b) e r
  | .int i, _, _, e, r => Rp.reads ok kin (.int i) e r
  | .str s, _, _, e, r => Rp.reads ok kin (.str s) e r
  | .tuple ds, _, _, e, r => Rp.reads ok kin (.tuple ds) e r
  | .list ds, _, _, ⟨p, vs, e, q, rs⟩, r => by
    subst e
    cases r
    rcases q with q | ⟨o, its, n, hk, hc, hd, hs, hz, rv⟩
    · obtain ⟨_, its, n, rv, e2⟩ := q.ok ok
      obtain ⟨as, ra⟩ := Rps.reads ok kin ds rs rv
      exact ⟨_, .list (vs := its.toArray) e2 rfl rfl (by simpa using ra)⟩
    · obtain ⟨as, ra⟩ := Rps.reads ok kin ds rs rv
      exact ⟨_, .list (kin p o hk) hc hs ra⟩
  | .dict kvs, _, _, ⟨p, ks, e, q, rs⟩, r => by
    subst e
    cases r
    obtain ⟨_, _, vs, kv, o, es, ep, e1, e2, e3, e4, e5, _⟩ := q.ok ok
    obtain ⟨as, bs, ra, rb⟩ := Rpk.reads ok kin kvs rs kv e5
    exact ⟨_, .dict e1 e2.1 e3 ra rb⟩
end
end PP
set_option Elab.async false
set_option linter.all false
set_option maxRecDepth 100000
set_option maxHeartbeats 4000000
namespace PP
open PySem L2
/-! ## a state of ours and the machine's -/
/-- an error that is held: its object, its dict -/
def ErrAt (K : PySem.W.Frag) (mg : Str → Option Value) (H : Hp) (c : Str) (d : PyData) (u : V) : Prop :=
  ∃ (a C dx : Addr) (oe : Obj) (fs : List (Str × V)) (vv : V), u = .ref a ∧ mg c = some (.ref C) ∧ oe.cls = .ref C ∧ oe.dict = some dx ∧ (∃ ws, oe.data = .fields ws) ∧
    H a = some (.ext (fun h => h.get? a = some oe)) ∧ H dx = some (.xd fs) ∧ fs.lookup ("value" : Str) = some vv ∧ Rp K H d vv
def RpV (K : PySem.W.Frag) (mg : Str → Option Value) (H : Hp) (φ : List Addr) : Vl → V → Prop
  | .py d, u => Rp K H d u
  | .fn f, u => ∃ a, u = .ref a ∧ mg f = some (.ref a)
  | .err c d, u => ErrAt K mg H c d u
  | .box k, u => ∃ a, φ[k]? = some a ∧ u = .ref a
def RelS (K : PySem.W.Frag) (mg : Str → Option Value) (H0 H : Hp) (φ : List Addr) (x : Option (Option V)) : Slot → Prop
  | .un => True
  | .p v => ∃ u, x = some (some u) ∧ RpV K mg H φ v u
  | .own d => ∃ p, x = some (some (.ref p)) ∧ Own1 K H p d ∧ H0 p = none ∧ p ∉ φ
structure Rel (K : PySem.W.Frag) (mg : Str → Option Value) (H0 : Hp) (φ0 φ : List Addr) (σ : L2.St) (H : Hp) (sl : Sl) (S : SS) : Prop where
  len : σ.length = sl.length
  slots : ∀ (i : Nat) (s : Slot), sl[i]? = some s → RelS K mg H0 H φ σ[i]? s
  dist : ∀ (i j : Nat) (p q : Addr) (d d' : PyData), i ≠ j → sl[i]? = some (.own d) → sl[j]? = some (.own d') → σ[i]? = some (some (.ref p)) → σ[j]? = some (some (.ref q)) → p ≠ q
  blen : φ.length = S.length
  box : ∀ (k : Nat) (a : Addr) (d : PyData), φ[k]? = some a → S[k]? = some d → Own1 K H a d
  nd : φ.Nodup
  pre : ∃ ψ, φ = φ0 ++ ψ
  new : ∀ a, a ∈ φ → a ∉ φ0 → H0 a = none
  keep : ∀ a o, H0 a = some o → a ∉ φ0 → H a = some o
/-- a step of an expression: all stands but the boxes, some boxes are new -/
structure Le (φ : List Addr) (H : Hp) (φ' : List Addr) (H' : Hp) : Prop where
  keep : ∀ a o, H a = some o → a ∉ φ → H' a = some o
  pre : ∃ ψ, φ' = φ ++ ψ
  new : ∀ a, a ∈ φ' → a ∉ φ → H a = none
  fz : Fz H H'
/-- all stands -/
def Ext (H H' : Hp) : Prop := ∀ a o, H a = some o → H' a = some o
theorem Ext.refl (H : Hp) : Ext H H := fun _ _ h => h
theorem Ext.trans {H H1 H2 : Hp} (a : Ext H H1) (b : Ext H1 H2) : Ext H H2 := fun x o h => b x o (a x o h)
theorem Ext.fz {H H' : Hp} (e : Ext H H') : Fz H H' := fun a o h _ => e a o h
theorem Ext.new {H : Hp} {p : Addr} {o : HO} (h : H p = none) : Ext H (upd H p o) := fun a u e => by
  rw [upd_ne (ne_of_none e h)]
  exact e
theorem Ext.le {φ : List Addr} {H H' : Hp} (e : Ext H H') : Le φ H φ H' := ⟨fun a o h _ => e a o h, ⟨[], by simp⟩, fun a h g => absurd h g, e.fz⟩
theorem Le.refl (φ : List Addr) (H : Hp) : Le φ H φ H := (Ext.refl H).le
theorem Le.trans {φ φ1 φ2 : List Addr} {H H1 H2 : Hp} (a : Le φ H φ1 H1) (b : Le φ1 H1 φ2 H2) : Le φ H φ2 H2 := by
  obtain ⟨ψ, e1⟩ := a.pre
  obtain ⟨ψ', e2⟩ := b.pre
  refine ⟨fun x o h n => ?_, ⟨ψ ++ ψ', by rw [e2, e1, List.append_assoc]⟩, fun x h n => ?_, a.fz.trans b.fz⟩
  · refine b.keep x o (a.keep x o h n) fun z => ?_
    have := a.new x z n
    rw [h] at this
    cases this
  · by_cases z : x ∈ φ1
    · exact a.new x z n
    · have q := b.new x h z
      cases g : H x with
      | none => rfl
      | some o =>
        rw [a.keep x o g n] at q
        cases q
section
variable {K : PySem.W.Frag} {mg : Str → Option Value} {H0 H H' : Hp} {φ0 φ φ' : List Addr} {σ : L2.St} {sl : Sl} {S S' : SS}
theorem ErrAt.mono (z : Fz H H') {c : Str} {d : PyData} {u : V} : ErrAt K mg H c d u → ErrAt K mg H' c d u
  | ⟨a, C, dx, oe, fs, vv, e, m, c1, c2, c3, c4, c5, c6, r⟩ => ⟨a, C, dx, oe, fs, vv, e, m, c1, c2, c3, z _ _ c4 rfl, z _ _ c5 rfl, c6, r.mono z⟩
theorem RpV.mono (z : Fz H H') (e : ∃ ψ, φ' = φ ++ ψ) : ∀ {v : Vl} {u : V}, RpV K mg H φ v u → RpV K mg H' φ' v u
  | .py d, _, h => Rp.mono z d h
  | .fn _, _, h => h
  | .err _ _, _, h => ErrAt.mono z h
  | .box k, _, ⟨a, h, q⟩ => by
    obtain ⟨ψ, rfl⟩ := e
    refine ⟨a, ?_, q⟩
    rw [List.getElem?_append_left (List.getElem?_eq_some_iff.mp h).1]
    exact h
theorem Rel.boxMu (R : Rel K mg H0 φ0 φ σ H sl S) {a : Addr} (h : a ∈ φ) : ∃ o, H a = some o ∧ Mu o = true := by
  obtain ⟨k, hk⟩ := List.getElem?_of_mem h
  have hl : k < S.length := by rw [← R.blen]; exact (List.getElem?_eq_some_iff.mp hk).1
  exact (R.box k a S[k] hk (List.getElem?_eq_getElem hl)).mu
theorem Rel.notBox (R : Rel K mg H0 φ0 φ σ H sl S) {a : Addr} (h : H a = none) : a ∉ φ := fun z => by
  obtain ⟨o, e, _⟩ := R.boxMu z
  rw [h] at e
  cases e
theorem Rel.fresh0 (R : Rel K mg H0 φ0 φ σ H sl S) {a : Addr} (h : H a = none) : H0 a = none := by
  cases e : H0 a with
  | none => rfl
  | some o =>
    by_cases z : a ∈ φ0
    · obtain ⟨ψ, q⟩ := R.pre
      exact absurd (by rw [q]; exact List.mem_append_left _ z) (R.notBox h)
    · rw [R.keep a o e z] at h
      cases h
/-- what a step of an expression leaves -/
theorem Rel.le (R : Rel K mg H0 φ0 φ σ H sl S) (l : Le φ H φ' H') (bl : φ'.length = S'.length) (nd : φ'.Nodup) (bx : ∀ (k : Nat) (a : Addr) (d : PyData), φ'[k]? = some a → S'[k]? = some d → Own1 K H' a d) : Rel K mg H0 φ0 φ' σ H' sl S' := by
  obtain ⟨ψ, e⟩ := l.pre
  refine ⟨R.len, fun i s h => ?_, R.dist, bl, bx, nd, ?_, fun a h n => ?_, fun a o h n => ?_⟩
  · have q := R.slots i s h
    cases s with
    | un => trivial
    | p v => obtain ⟨u, e1, e2⟩ := q; exact ⟨u, e1, e2.mono l.fz l.pre⟩
    | own d =>
      obtain ⟨p, e1, e2, e3, e4⟩ := q
      obtain ⟨o, eo, _⟩ := e2.mu
      have k := l.keep p o eo e4
      refine ⟨p, e1, e2.mono l.fz (k.trans eo.symm), e3, fun z => ?_⟩
      have := l.new p z e4
      rw [eo] at this
      cases this
  · obtain ⟨ψ', e'⟩ := R.pre
    exact ⟨ψ' ++ ψ, by rw [e, e', List.append_assoc]⟩
  · by_cases z : a ∈ φ
    · exact R.new a z n
    · exact R.fresh0 (l.new a h z)
  · by_cases z : a ∈ φ
    · have q := R.new a z n
      rw [h] at q
      cases q
    · exact l.keep a o (R.keep a o h n) z
theorem Rel.ext (R : Rel K mg H0 φ0 φ σ H sl S) (e : Ext H H') : Rel K mg H0 φ0 φ σ H' sl S :=
  R.le e.le R.blen R.nd fun k a d h g => by
    have q := R.box k a d h g
    obtain ⟨o, eo, _⟩ := q.mu
    exact q.mono e.fz ((e _ _ eo).trans eo.symm)
/-! ### values -/
def RV (K : PySem.W.Frag) (mg : Str → Option Value) (H0 H : Hp) (φ : List Addr) (σ : L2.St) (sl : Sl) : Tg → Vl → V → Prop
  | .pure, v, u => RpV K mg H φ v u
  | .fresh, .py d, u => ∃ p, u = .ref p ∧ Own1 K H p d ∧ H0 p = none ∧ p ∉ φ ∧ ∀ (i : Nat) (d' : PyData), sl[i]? = some (.own d') → σ[i]? ≠ some (some (.ref p))
  | .mine, .py d, u => ∃ p, u = .ref p ∧ Own1 K H p d ∧ H0 p = none ∧ p ∉ φ
  | _, _, _ => False
theorem RV.le {t : Tg} {v : Vl} {u : V} (l : Le φ H φ' H') (r : RV K mg H0 H φ σ sl t v u) : RV K mg H0 H' φ' σ sl t v u := by
  have own : ∀ {p d}, Own1 K H p d → p ∉ φ → Own1 K H' p d ∧ p ∉ φ' := fun {p d} e n => by
    obtain ⟨o, eo, _⟩ := e.mu
    refine ⟨e.mono l.fz ((l.keep p o eo n).trans eo.symm), fun z => ?_⟩
    have := l.new p z n
    rw [eo] at this
    cases this
  cases t with
  | pure => exact RpV.mono l.fz l.pre r
  | fresh =>
    cases v with
    | py d =>
      obtain ⟨p, e, o, h0, n, q⟩ := r
      obtain ⟨o', n'⟩ := own o n
      exact ⟨p, e, o', h0, n', q⟩
    | _ => exact r.elim
  | mine =>
    cases v with
    | py d =>
      obtain ⟨p, e, o, h0, n⟩ := r
      obtain ⟨o', n'⟩ := own o n
      exact ⟨p, e, o', h0, n'⟩
    | _ => exact r.elim
/-- it may be read -/
theorem RV.sh {t : Tg} {v : Vl} {u : V} {d : PyData} (R : Rel K mg H0 φ0 φ σ H sl S) (r : RV K mg H0 H φ σ sl t v u) (c : cont S v = some d) : Sh K H d u := by
  cases t with
  | pure =>
    cases v with
    | py d' => cases c; exact Rp.sh r
    | box k =>
      obtain ⟨a, h, rfl⟩ := r
      exact (R.box k a d h c).sh
    | _ => cases c
  | fresh =>
    cases v with
    | py d' =>
      cases c
      obtain ⟨p, rfl, o, _⟩ := r
      exact o.sh
    | _ => exact r.elim
  | mine =>
    cases v with
    | py d' =>
      cases c
      obtain ⟨p, rfl, o, _⟩ := r
      exact o.sh
    | _ => exact r.elim
/-- a result of an operation upon data: data that stand, or a new object -/
def RO (K : PySem.W.Frag) (H H' : Hp) : Tg → PyData → V → Prop
  | .pure, d, u => Rp K H' d u
  | .fresh, d, u => ∃ p, u = .ref p ∧ Own1 K H' p d ∧ H p = none
  | .mine, _, _ => False
theorem RO.new {t : Tg} {d : PyData} {u : V} (r : RO K H H' t d u) : t = .fresh → ∀ p, u = .ref p → H p = none := fun e p q => by
  subst e
  obtain ⟨p', e', _, n⟩ := r
  rw [e'] at q
  cases q
  exact n
theorem RO.rv {t : Tg} {d : PyData} {u : V} (R : Rel K mg H0 φ0 φ σ H sl S) (r : RO K H H' t d u) : RV K mg H0 H' φ σ sl t (.py d) u := by
  cases t with
  | pure => exact r
  | fresh =>
    obtain ⟨p, e, o, n⟩ := r
    refine ⟨p, e, o, R.fresh0 n, R.notBox n, fun i d' h g => ?_⟩
    obtain ⟨q, e1, e2, _⟩ := R.slots i _ h
    rw [g] at e1
    cases e1
    obtain ⟨o', eo, _⟩ := e2.mu
    rw [n] at eo
    cases eo
  | mine => exact r.elim
end
end PP
set_option Elab.async false
set_option linter.all false
set_option maxRecDepth 100000
set_option maxHeartbeats 4000000
namespace PP
open PySem L2
/-! ## what an expression does -/
def wE (X : Cx) (e : Expr) : TE := fun σ H Q => ∀ (pins : List (Addr × Obj)) (s : Shared), Inv X pins σ H s → wpAny (model X.prog X.w) X.A (eval e X.env) (EP X pins σ Q) X.xe s
theorem wE.pe {X : Cx} {e : Expr} : PE X e (wE X e) := ⟨fun pins s σ H Q I h => h pins s I⟩
theorem wE.of {X : Cx} {e : Expr} {t : TE} {σ : L2.St} {H : Hp} {Q : VK} (h : PE X e t) (q : t σ H Q) : wE X e σ H Q := fun pins s I => h.run pins s σ H Q I q
theorem wE.imp {X : Cx} {e : Expr} {σ : L2.St} {H : Hp} {Q Q' : VK} (h : wE X e σ H Q) (q : ∀ u H', Q u H' → Q' u H') : wE X e σ H Q' := fun pins s I =>
  thn (h pins s I) fun v s1 ⟨u, H1, I1, r1, q1⟩ => ⟨u, H1, I1, r1, q _ _ q1⟩
def wT (X : Cx) (e : Expr) : TT := fun σ H Q => ∀ (pins : List (Addr × Obj)) (s : Shared), Inv X pins σ H s → wpAny (model X.prog X.w) X.A (isTrue e X.env (eval e X.env)) (TP X pins σ Q) X.xe s
theorem wT.pt {X : Cx} {e : Expr} : PT X e (wT X e) := ⟨fun pins s σ H Q I h => h pins s I⟩
theorem wT.of {X : Cx} {e : Expr} {t : TT} {σ : L2.St} {H : Hp} {Q : Bool → Hp → Prop} (h : PT X e t) (q : t σ H Q) : wT X e σ H Q := fun pins s I => h.run pins s σ H Q I q
def wA (X : Cx) (es : List Expr) : TA := fun σ H Q => ∀ (pos : Pos) (pins : List (Addr × Obj)) (s : Shared), Inv X pins σ H s → wpAny (model X.prog X.w) X.A (spliced (backTo pos (starEach es X.env))) (AP X pins σ Q) X.xe s
theorem wA.pa {X : Cx} {es : List Expr} : PA X es (wA X es) := ⟨fun pos pins s σ H Q I h => h pos pins s I⟩
theorem wA.of {X : Cx} {es : List Expr} {t : TA} {σ : L2.St} {H : Hp} {Q : List V → Hp → Prop} (h : PA X es t) (q : t σ H Q) : wA X es σ H Q := fun pos pins s I => h.run pos pins s σ H Q I q

/-- where we stand -/
structure Ct (X : Cx) (k : Nat) : Prop where
  room : Room k X.A
  gd : X.A.guards = some []
  calm : X.calm = true
  nd : X.N.Nodup

/-- an error that flies -/
def ExAt (K : PySem.W.Frag) (mg : Str → Option Value) (H : Hp) (c : Str) (d : PyData) (C dx : Addr) : Prop :=
  mg c = some (.ref C) ∧ ∃ (fs : List (Str × V)) (vv : V), H dx = some (.xd fs) ∧ fs.lookup ("value" : Str) = some vv ∧ Rp K H d vv
def Post (X : Cx) (H0 : Hp) (φ0 φ : List Addr) (σ : L2.St) (H : Hp) (sl : Sl) (Q : VK) (W : WX) : ER → Prop
  | .val t v S' => ∀ u H' φ', Rel X.K X.mg H0 φ0 φ' σ H' sl S' → Le φ H φ' H' → RV X.K X.mg H0 H' φ' σ sl t v u → (t = .fresh → ∀ p, u = .ref p → H p = none) → Q u H'
  | .exn c d S' => ∀ C dx H' φ', Rel X.K X.mg H0 φ0 φ' σ H' sl S' → Le φ H φ' H' → ExAt X.K X.mg H' c d C dx → W (.ref C) (some dx) σ H'
/-- the expression's meaning -/
def Den_ (X : Cx) (e : Expr) (f : FE) : Prop :=
  ∀ (H0 : Hp) (φ0 φ : List Addr) (σ : L2.St) (H : Hp) (sl : Sl) (S : SS) (r : ER), Rel X.K X.mg H0 φ0 φ σ H sl S → f sl S = some r →
    ∀ (Q : VK) (W : WX), Takes X W → Post X H0 φ0 φ σ H sl Q W r → wE X e σ H Q
structure Den (X : Cx) (e : Expr) (f : FE) : Prop where
  run : Den_ X e f
instance {X : Cx} {e : Expr} {f : FE} : CoeFun (Den X e f) (fun _ => Den_ X e f) := ⟨Den.run⟩
def bindE (o : Option ER) (k : Tg → Vl → SS → Option ER) : Option ER :=
  match o with
  | some (.val t v S) => k t v S
  | some (.exn c d S) => some (.exn c d S)
  | none => none
theorem bindE_some {o : Option ER} {k : Tg → Vl → SS → Option ER} {r : ER} (h : bindE o k = some r) : (∃ t v S, o = some (.val t v S) ∧ k t v S = some r) ∨ ∃ c d S, o = some (.exn c d S) ∧ r = .exn c d S := by
  match o, h with
  | some (.val t v S), h => exact .inl ⟨t, v, S, rfl, h⟩
  | some (.exn c d S), h => cases h; exact .inr ⟨c, d, S, rfl, rfl⟩
theorem Le.fresh {K : PySem.W.Frag} {mg : Str → Option Value} {H0 H H1 : Hp} {φ0 φ φ1 : List Addr} {σ : L2.St} {sl : Sl} {S : SS} {p : Addr} (l : Le φ H φ1 H1) (R : Rel K mg H0 φ0 φ1 σ H1 sl S) (h : H1 p = none) : H p = none := by
  cases e : H p with
  | none => rfl
  | some o =>
    by_cases z : p ∈ φ
    · obtain ⟨ψ, q⟩ := l.pre
      exact absurd (by rw [q]; exact List.mem_append_left _ z) (R.notBox h)
    · rw [l.keep p o e z] at h
      cases h
/-- one expression, then more -/
theorem den_then {X : Cx} {e : Expr} {f : FE} {H0 : Hp} {φ0 φ : List Addr} {σ : L2.St} {H : Hp} {sl : Sl} {S : SS} {r : ER} {k : Tg → Vl → SS → Option ER} {Q : VK} {W : WX} {Q' : VK} (D : Den X e f) (R : Rel X.K X.mg H0 φ0 φ σ H sl S) (tk : Takes X W)
    (h : bindE (f sl S) k = some r) (post : Post X H0 φ0 φ σ H sl Q W r)
    (go : ∀ t v S1 u H1 φ1, k t v S1 = some r → Rel X.K X.mg H0 φ0 φ1 σ H1 sl S1 → Le φ H φ1 H1 → RV X.K X.mg H0 H1 φ1 σ sl t v u → Post X H0 φ0 φ1 σ H1 sl Q W r → Q' u H1) : wE X e σ H Q' := by
  rcases bindE_some h with ⟨t, v, S1, h1, h2⟩ | ⟨c, d, S1, h1, rfl⟩
  · refine D H0 φ0 φ σ H sl S _ R h1 _ W tk fun u H1 φ1 R1 l1 rv _ => go t v S1 u H1 φ1 h2 R1 l1 rv ?_
    cases r with
    | val t' v' S' => exact fun u' H' φ' R' l' rv' fr' => post u' H' φ' R' (l1.trans l') rv' fun e p q => l1.fresh R1 (fr' e p q)
    | exn c d S' => exact fun C dx H' φ' R' l' => post C dx H' φ' R' (l1.trans l')
  · exact D H0 φ0 φ σ H sl S _ R h1 _ W tk post

/-! ### names, written values -/
def fVar (i : Nat) : FE := fun sl S => match sl[i]? with
  | some (.p v) => some (.val .pure v S)
  | some (.own d) => some (.val .mine (.py d) S)
  | _ => none
section
variable {X : Cx} {pos : Pos}
theorem den_var {i : Nat} {x : Str} (hN : X.N[i]? = some x) (hv : Vis X.env.scope x) (hd : (x == ("__debug__" : Str)) = false) (hcd : (x == ("__classdict__" : Str)) = false) : Den X (.Name x pos) (fVar i) := by
  refine .mk ?_; intro H0 φ0 φ σ H sl S r R hf Q W tk post
  refine wE.of (pe_var hN hv hd hcd) ?_
  unfold fVar at hf
  split at hf
  · rename_i v e
    cases hf
    obtain ⟨u, e1, e2⟩ := R.slots i _ e
    exact ⟨u, e1, post u H φ R (Le.refl _ _) e2 (fun z => nomatch z)⟩
  · rename_i d e
    cases hf
    obtain ⟨p, e1, e2, e3, e4⟩ := R.slots i _ e
    exact ⟨.ref p, e1, post _ H φ R (Le.refl _ _) ⟨p, rfl, e2, e3, e4⟩ (fun z => nomatch z)⟩
  · cases hf
def fC (d : PyData) : FE := fun _ S => some (.val .pure (.py d) S)
theorem den_c {e : Expr} {v : V} {d : PyData} (h : PE X e (tC v)) (hr : ∀ H, Rp X.K H d v) : Den X e (fC d) := by
  refine .mk ?_; intro H0 φ0 φ σ H sl S r R hf Q W tk post
  cases hf
  exact wE.of h (post v H φ R (Le.refl _ _) (hr H) (fun z => nomatch z))
theorem den_int {i : Int} {k : Nat} : Den X (.Constant (.int i) k pos) (fC (.int i)) := den_c pe_int fun _ => rfl
theorem den_bl {b : Bool} {k : Nat} : Den X (.Constant (.bool b) k pos) (fC (.bool b)) := den_c pe_bl fun _ => rfl
theorem den_non {k : Nat} : Den X (.Constant .none k pos) (fC .none) := den_c pe_non fun _ => rfl
theorem den_str {s : Str} {k : Nat} : Den X (.Constant (.str s) k pos) (fC (.str s)) := den_c pe_str fun _ => rfl
/-- a module's constant -/
theorem den_glob {x : Str} {d : PyData} {u : Value} {v : V} (hg : Gl X x) (hm : X.mg x = some u) (hu : RelV v u) (hr : ∀ H, Rp X.K H d v) (hd : (x == ("__debug__" : Str)) = false) : Den X (.Name x pos) (fC d) := den_c (pe_glob hg hm hu hd) hr
/-- a def as a value -/
def fFn (f : Str) : FE := fun _ S => some (.val .pure (.fn f) S)
theorem den_fn {x : Str} {a : Addr} (hg : Gl X x) (hm : X.mg x = some (.ref a)) (hd : (x == ("__debug__" : Str)) = false) : Den X (.Name x pos) (fFn x) := by
  refine .mk ?_; intro H0 φ0 φ σ H sl S r R hf Q W tk post
  cases hf
  exact wE.of (pe_glob (v := .ref a) hg hm rfl hd) (post _ H φ R (Le.refl _ _) ⟨a, rfl, hm⟩ (fun z => nomatch z))

/-! ### operators -/
def OpRun (X : Cx) (f : Value → Value → Sem Value) : R2 := fun x y H Q => ∀ (pins : List (Addr × Obj)) (s : Shared) (σ : L2.St) (v u : Value), Inv X pins σ H s → RelV x v → RelV y u → wpAny (model X.prog X.w) X.A (f v u) (EP X pins σ Q) X.xe s
theorem OpRun.op {f : Value → Value → Sem Value} : OpR X f (OpRun X f) := fun pins s σ H x y v u Q I r1 r2 h => h pins s σ v u I r1 r2
theorem OpRun.of {f : Value → Value → Sem Value} {r : R2} {x y : V} {H : Hp} {Q : VK} (o : OpR X f r) (h : r x y H Q) : OpRun X f x y H Q := fun pins s σ v u I r1 r2 => o pins s σ H x y v u Q I r1 r2 h
def BinSem (X : Cx) (f : Value → Value → Sem Value) (sem : PyData → PyData → Option (Tg × PyData)) : Prop :=
  ∀ (dx dy : PyData) (x y : V) (H : Hp) (t : Tg) (d : PyData) (Q : VK), Sh X.K H dx x → Sh X.K H dy y → sem dx dy = some (t, d) → (∀ u H', Ext H H' → RO X.K H H' t d u → Q u H') → OpRun X f x y H Q
def fBin (sem : PyData → PyData → Option (Tg × PyData)) (fa fb : FE) : FE := fun sl S =>
  bindE (fa sl S) fun _ v1 S1 => bindE (fb sl S1) fun _ v2 S2 =>
    match cont S2 v1, cont S2 v2 with
    | some d1, some d2 => match sem d1 d2 with
      | some (t, d) => some (.val t (.py d) S2)
      | none => none
    | _, _ => none
variable {a b : Expr} {fa fb : FE}
theorem bin_go {f : Value → Value → Sem Value} {sem : PyData → PyData → Option (Tg × PyData)} (hop : BinSem X f sem) (ha : Den X a fa) (hb : Den X b fb)
    {H0 : Hp} {φ0 φ : List Addr} {σ : L2.St} {H : Hp} {sl : Sl} {S : SS} {r : ER} {Q : VK} {W : WX} (R : Rel X.K X.mg H0 φ0 φ σ H sl S) (tk : Takes X W) (hf : fBin sem fa fb sl S = some r) (post : Post X H0 φ0 φ σ H sl Q W r) :
    tOp (OpRun X f) (wE X a) (wE X b) σ H Q := by
  refine den_then ha R tk hf post fun t1 v1 S1 u1 H1 φ1 hk R1 l1 rv1 post1 => ?_
  refine den_then hb R1 tk hk post1 fun t2 v2 S2 u2 H2 φ2 hk2 R2 l2 rv2 post2 => ?_
  split at hk2
  · rename_i d1 d2 c1 c2
    split at hk2
    · rename_i t d hs
      cases hk2
      exact hop d1 d2 u1 u2 H2 t d Q ((rv1.le l2).sh R2 c1) (rv2.sh R2 c2) hs fun u H' e ro => post2 u H' φ2 (R2.ext e) e.le (ro.rv R2) ro.new
    · cases hk2
  · cases hk2
theorem den_bin {op : Operator} {sem : PyData → PyData → Option (Tg × PyData)} (hop : BinSem X (binaryOp op) sem) (ha : Den X a fa) (hb : Den X b fb) : Den X (.BinOp a op b pos) (fBin sem fa fb) :=
  .mk fun H0 φ0 φ σ H sl S r R hf Q W tk post => wE.of (pe_op OpRun.op wE.pe wE.pe) (bin_go hop ha hb R tk hf post)
theorem den_cmp {op : CmpOp} {sem : PyData → PyData → Option (Tg × PyData)} (hop : BinSem X (compareOp op) sem) (ha : Den X a fa) (hb : Den X b fb) (hm : behindInMarks op b = false) : Den X (.Compare a [op] [b] pos) (fBin sem fa fb) :=
  .mk fun H0 φ0 φ σ H sl S r R hf Q W tk post => wE.of (pe_cmpR OpRun.op wE.pe wE.pe hm) (bin_go hop ha hb R tk hf post)
def UnRun (X : Cx) (f : Value → Sem Value) : V → Hp → VK → Prop := fun x H Q => ∀ (pins : List (Addr × Obj)) (s : Shared) (σ : L2.St) (v : Value), Inv X pins σ H s → RelV x v → wpAny (model X.prog X.w) X.A (f v) (EP X pins σ Q) X.xe s
end
end PP
set_option Elab.async false
set_option linter.all false
set_option maxRecDepth 100000
set_option maxHeartbeats 4000000
namespace PP
open PySem L2
/-! ### a new object is shut -/
theorem wE.shut {X : Cx} {e : Expr} {σ : L2.St} {H : Hp} {Q : VK} (h : wE X e σ H fun u H' => Q u H' ∨ ∃ p o, H' p = some o ∧ Mut (some o) ∧ ∀ od, Q u (upd H' p (.frz od o))) : wE X e σ H Q := fun pins s I =>
  thn (h pins s I) fun v s1 ⟨u, H1, I1, r1, q1⟩ => by
    rcases q1 with q1 | ⟨p, o, e1, m, q⟩
    · exact ⟨u, H1, I1, r1, q1⟩
    · obtain ⟨od, I2⟩ := I1.lock e1 m
      exact ⟨u, _, I2, r1, q od⟩
theorem Own1.mut {K : PySem.W.Frag} {H : Hp} : ∀ {d : PyData} {p : Addr}, Own1 K H p d → ∃ o, H p = some o ∧ Mut (some o) ∧ ∀ od, Rp K (upd H p (.frz od o)) d (.ref p)
  | .list ds, p, ⟨vs, e, r⟩ => ⟨_, e, trivial, fun od => ⟨p, vs, rfl, .inl ⟨od, upd_same⟩, Rps.mono (fun a o h m => by
      rw [upd_ne (fun z => by subst z; rw [e] at h; cases h; cases m)]; exact h) ds r⟩⟩
  | .dict kvs, p, ⟨ks, e, r⟩ => ⟨_, e, trivial, fun od => ⟨p, od, ks, rfl, upd_same, Rpk.mono (fun a o h m => by
      rw [upd_ne (fun z => by subst z; rw [e] at h; cases h; cases m)]; exact h) kvs r⟩⟩
  | .none, _, h => h.elim
  | .bool _, _, h => h.elim
  | .int _, _, h => h.elim
  | .str _, _, h => h.elim
  | .tuple _, _, h => h.elim
section
variable {K : PySem.W.Frag} {mg : Str → Option Value} {H0 H : Hp} {φ0 φ : List Addr} {σ : L2.St} {sl : Sl} {S : SS}
theorem fz_shut {p : Addr} {o : HO} {od : Obj} (e : H p = some o) (m : Mu o = true) : Fz H (upd H p (.frz od o)) := fun a u h n => by
  rw [upd_ne (fun z => by subst z; rw [e] at h; cases h; rw [m] at n; cases n)]
  exact h
theorem Rel.shut (R : Rel K mg H0 φ0 φ σ H sl S) {p : Addr} {o : HO} {od : Obj} (e : H p = some o) (m : Mu o = true) (n : p ∉ φ) (n0 : H0 p = none) (ns : ∀ (i : Nat) (d' : PyData), sl[i]? = some (.own d') → σ[i]? ≠ some (some (.ref p))) :
    Rel K mg H0 φ0 φ σ (upd H p (.frz od o)) sl S := by
  have z := fz_shut (od := od) e m
  have other : ∀ a, a ≠ p → (upd H p (.frz od o)) a = H a := fun a h => upd_ne h
  refine ⟨R.len, fun i s h => ?_, R.dist, R.blen, fun k a d h g => ?_, R.nd, R.pre, R.new, fun a u h g => ?_⟩
  · have q := R.slots i s h
    cases s with
    | un => trivial
    | p v => obtain ⟨u, e1, e2⟩ := q; exact ⟨u, e1, e2.mono z ⟨[], by simp⟩⟩
    | own d =>
      obtain ⟨p', e1, e2, e3, e4⟩ := q
      exact ⟨p', e1, e2.mono z (other p' fun y => by subst y; exact ns i d h e1), e3, e4⟩
  · exact (R.box k a d h g).mono z (other a fun y => by subst y; exact n (List.mem_of_getElem? h))
  · rw [other a fun y => by subst y; rw [n0] at h; cases h]
    exact R.keep a u h g
end
/-- the value, its object shut -/
def fFz (f : FE) : FE := fun sl S => bindE (f sl S) fun t v S1 => match t with
  | .mine => none
  | _ => some (.val .pure v S1)
theorem den_fz {X : Cx} {e : Expr} {f : FE} (h : Den X e f) : Den X e (fFz f) := by
  refine .mk ?_; intro H0 φ0 φ σ H sl S r R hf Q W tk post
  rcases bindE_some hf with ⟨t, v, S1, h1, h2⟩ | ⟨c, d, S1, h1, rfl⟩
  · refine wE.shut (h H0 φ0 φ σ H sl S _ R h1 _ W tk fun u H1 φ1 R1 l1 rv fr => ?_)
    cases t with
    | mine => cases h2
    | pure => cases h2; exact .inl (post u H1 φ1 R1 l1 rv (fun z => nomatch z))
    | fresh =>
      cases h2
      cases v with
      | py d =>
        obtain ⟨p, e1, o, n0, n, ns⟩ := rv
        obtain ⟨o', e2, m, q⟩ := o.mut
        obtain ⟨o'', e3, mu⟩ := o.mu
        obtain rfl : o' = o'' := Option.some.inj (e2.symm.trans e3)
        refine .inr ⟨p, o', e2, m, fun od => ?_⟩
        have hp : H p = none := fr rfl p e1
        subst e1
        refine post _ _ φ1 (R1.shut e2 mu n n0 ns) ⟨fun a x ha na => ?_, l1.pre, l1.new, l1.fz.trans (fz_shut e2 mu)⟩ (q od) (fun z => nomatch z)
        rw [upd_ne (fun z => by subst z; rw [hp] at ha; cases ha)]
        exact l1.keep a x ha na
      | _ => exact rv.elim
  · exact h H0 φ0 φ σ H sl S _ R h1 _ W tk post

/-! ### several expressions -/
def RVs (K : PySem.W.Frag) (mg : Str → Option Value) (H0 H : Hp) (φ : List Addr) (σ : L2.St) (sl : Sl) : List (Tg × Vl) → List V → Prop
  | [], us => us = []
  | x :: xs, us => ∃ u r, us = u :: r ∧ RV K mg H0 H φ σ sl x.1 x.2 u ∧ RVs K mg H0 H φ σ sl xs r
theorem RVs.le {K : PySem.W.Frag} {mg : Str → Option Value} {H0 H H' : Hp} {φ φ' : List Addr} {σ : L2.St} {sl : Sl} (l : Le φ H φ' H') : ∀ {xs : List (Tg × Vl)} {us : List V}, RVs K mg H0 H φ σ sl xs us → RVs K mg H0 H' φ' σ sl xs us
  | [], _, h => h
  | x :: xs, _, ⟨u, r, e, a, b⟩ => ⟨u, r, e, a.le l, RVs.le l b⟩
def PostA (X : Cx) (H0 : Hp) (φ0 φ : List Addr) (σ : L2.St) (H : Hp) (sl : Sl) (Q : List V → Hp → Prop) (W : WX) : AR → Prop
  | .vals xs S' => ∀ us H' φ', Rel X.K X.mg H0 φ0 φ' σ H' sl S' → Le φ H φ' H' → RVs X.K X.mg H0 H' φ' σ sl xs us → Q us H'
  | .exn c d S' => ∀ C dx H' φ', Rel X.K X.mg H0 φ0 φ' σ H' sl S' → Le φ H φ' H' → ExAt X.K X.mg H' c d C dx → W (.ref C) (some dx) σ H'
def DenA_ (X : Cx) (es : List Expr) (f : FA) : Prop :=
  ∀ (H0 : Hp) (φ0 φ : List Addr) (σ : L2.St) (H : Hp) (sl : Sl) (S : SS) (r : AR), Rel X.K X.mg H0 φ0 φ σ H sl S → f sl S = some r →
    ∀ (Q : List V → Hp → Prop) (W : WX), Takes X W → PostA X H0 φ0 φ σ H sl Q W r → wA X es σ H Q
structure DenA (X : Cx) (es : List Expr) (f : FA) : Prop where
  run : DenA_ X es f
instance {X : Cx} {es : List Expr} {f : FA} : CoeFun (DenA X es f) (fun _ => DenA_ X es f) := ⟨DenA.run⟩
def faNil : FA := fun _ S => some (.vals [] S)
def faCons (f : FE) (g : FA) : FA := fun sl S => match f sl S with
  | some (.val t v S1) => match g sl S1 with
    | some (.vals xs S2) => some (.vals ((t, v) :: xs) S2)
    | some (.exn c d S2) => some (.exn c d S2)
    | none => none
  | some (.exn c d S1) => some (.exn c d S1)
  | none => none
section
variable {X : Cx} {e : Expr} {es : List Expr} {f : FE} {g : FA} {pos : Pos}
theorem denA_nil : DenA X [] faNil := by
  refine .mk ?_; intro H0 φ0 φ σ H sl S r R hf Q W tk post
  cases hf
  exact wA.of pa_nil (post [] H φ R (Le.refl _ _) rfl)
theorem denA_cons (h : Den X e f) (hs : DenA X es g) (hst : starEach (e :: es) X.env = (false, eval e X.env) :: starEach es X.env) : DenA X (e :: es) (faCons f g) := by
  refine .mk ?_; intro H0 φ0 φ σ H sl S r R hf Q W tk post
  refine wA.of (pa_cons wE.pe wA.pa hst) ?_
  unfold faCons at hf
  split at hf
  · rename_i t v S1 h1
    refine h H0 φ0 φ σ H sl S _ R h1 _ W tk fun u H1 φ1 R1 l1 rv _ => ?_
    split at hf
    · rename_i xs S2 h2
      cases hf
      exact hs H0 φ0 φ1 σ H1 sl S1 _ R1 h2 _ W tk fun us H2 φ2 R2 l2 rvs => post _ H2 φ2 R2 (l1.trans l2) ⟨u, us, rfl, rv.le l2, rvs⟩
    · rename_i c d S2 h2
      cases hf
      exact hs H0 φ0 φ1 σ H1 sl S1 _ R1 h2 _ W tk (fun C dx H' φ' R' l' => post C dx H' φ' R' (l1.trans l'))
    · cases hf
  · rename_i c d S1 h1
    cases hf
    exact h H0 φ0 φ σ H sl S _ R h1 _ W tk post
  · cases hf

/-! ### displays -/
/-- at most so many items -/
abbrev LIM : Nat := 100000
theorem lim_line {n : Nat} (h : n ≤ LIM) : n ≤ sizeLine := Nat.le_trans h (by decide)
def pys : List (Tg × Vl) → Option (List PyData)
  | [] => some []
  | (.pure, .py d) :: r => match pys r with
    | some ds => some (d :: ds)
    | none => none
  | _ :: _ => none
theorem RVs.pys {K : PySem.W.Frag} {mg : Str → Option Value} {H0 H : Hp} {φ : List Addr} {σ : L2.St} {sl : Sl} : ∀ {xs : List (Tg × Vl)} {us : List V} {ds : List PyData}, RVs K mg H0 H φ σ sl xs us → PP.pys xs = some ds → Rps K H ds us
  | [], _, _, h, e => by cases e; exact h
  | (.pure, .py d) :: r, _, ds, ⟨u, t, e, a, b⟩, h => by
    unfold PP.pys at h
    split at h
    · rename_i ds' h1
      cases h
      exact ⟨u, t, e, a, RVs.pys b h1⟩
    · cases h
  | (.fresh, .py d) :: r, _, _, _, h => by cases h
  | (.mine, .py d) :: r, _, _, _, h => by cases h
  | (.pure, .fn d) :: r, _, _, _, h => by cases h
  | (.fresh, .fn d) :: r, _, _, _, h => by cases h
  | (.mine, .fn d) :: r, _, _, _, h => by cases h
  | (.pure, .err _ _) :: r, _, _, _, h => by cases h
  | (.fresh, .err _ _) :: r, _, _, _, h => by cases h
  | (.mine, .err _ _) :: r, _, _, _, h => by cases h
  | (.pure, .box d) :: r, _, _, _, h => by cases h
  | (.fresh, .box d) :: r, _, _, _, h => by cases h
  | (.mine, .box d) :: r, _, _, _, h => by cases h
def fSeq (mk : List PyData → PyData) (t : Tg) (g : FA) : FE := fun sl S => match g sl S with
  | some (.vals xs S1) => match pys xs with
    | some ds => if ds.length ≤ LIM then some (.val t (.py (mk ds)) S1) else none
    | none => none
  | some (.exn c d S1) => some (.exn c d S1)
  | none => none
theorem den_tup {n : Nat} (h : DenA X es g) : Den X (.Tuple es n pos) (fSeq .tuple .pure g) := by
  refine .mk ?_; intro H0 φ0 φ σ H sl S r R hf Q W tk post
  refine wE.of (pe_tup wA.pa) ?_
  unfold fSeq at hf
  split at hf
  · rename_i xs S1 h1
    split at hf
    · rename_i ds h2
      split at hf
      · rename_i h3
        cases hf
        refine h H0 φ0 φ σ H sl S _ R h1 _ W tk fun us H1 φ1 R1 l1 rvs => ?_
        have rs := rvs.pys h2
        refine ⟨by rw [rs.len]; exact lim_line h3, fun p hp => ?_⟩
        have ex : Ext H1 (upd H1 p (.tup us)) := Ext.new hp
        exact post _ _ φ1 (R1.ext ex) (l1.trans ex.le) ⟨p, us, rfl, SqT.of upd_same, rs.mono ex.fz⟩ (fun z => nomatch z)
      · cases hf
    · cases hf
  · rename_i c d S1 h1
    cases hf
    exact h H0 φ0 φ σ H sl S _ R h1 _ W tk post
  · cases hf
theorem den_lst (h : DenA X es g) : Den X (.List es pos) (fSeq .list .fresh g) := by
  refine .mk ?_; intro H0 φ0 φ σ H sl S r R hf Q W tk post
  refine wE.of (pe_lst wA.pa) ?_
  unfold fSeq at hf
  split at hf
  · rename_i xs S1 h1
    split at hf
    · rename_i ds h2
      split at hf
      · rename_i h3
        cases hf
        refine h H0 φ0 φ σ H sl S _ R h1 _ W tk fun us H1 φ1 R1 l1 rvs => ?_
        have rs := rvs.pys h2
        refine ⟨by rw [rs.len]; exact lim_line h3, fun p hp => ?_⟩
        have ex : Ext H1 (upd H1 p (.lst us)) := Ext.new hp
        have ro : RO X.K H1 (upd H1 p (.lst us)) .fresh (.list ds) (.ref p) := ⟨p, rfl, ⟨us, upd_same, rs.mono ex.fz⟩, hp⟩
        exact post _ _ φ1 (R1.ext ex) (l1.trans ex.le) (ro.rv R1) fun e q k => l1.fresh R1 (ro.new e q k)
      · cases hf
    · cases hf
  · rename_i c d S1 h1
    cases hf
    exact h H0 φ0 φ σ H sl S _ R h1 _ W tk post
  · cases hf
/-- {} -/
theorem den_dnew : Den X (.Dict [] [] pos) (fun _ S => some (.val .fresh (.py (.dict [])) S)) := by
  refine .mk ?_; intro H0 φ0 φ σ H sl S r R hf Q W tk post
  cases hf
  refine wE.of pe_dnewK fun p hp => ?_
  have ex : Ext H (upd H p (.dK [])) := Ext.new hp
  have ro : RO X.K H (upd H p (.dK [])) .fresh (.dict []) (.ref p) := ⟨p, rfl, ⟨[], upd_same, rfl⟩, hp⟩
  exact post _ _ φ (R.ext ex) ex.le (ro.rv R) ro.new
end
end PP
set_option Elab.async false
set_option linter.all false
set_option maxRecDepth 100000
set_option maxHeartbeats 4000000
namespace PP
open PySem L2
/-! ### tests, and, or, not, if -/
def PostT (X : Cx) (H0 : Hp) (φ0 φ : List Addr) (σ : L2.St) (H : Hp) (sl : Sl) (Q : Bool → Hp → Prop) (W : WX) : TR → Prop
  | .tb b S' => ∀ H' φ', Rel X.K X.mg H0 φ0 φ' σ H' sl S' → Le φ H φ' H' → Q b H'
  | .exn c d S' => ∀ C dx H' φ', Rel X.K X.mg H0 φ0 φ' σ H' sl S' → Le φ H φ' H' → ExAt X.K X.mg H' c d C dx → W (.ref C) (some dx) σ H'
def DenT_ (X : Cx) (e : Expr) (f : FT) : Prop :=
  ∀ (H0 : Hp) (φ0 φ : List Addr) (σ : L2.St) (H : Hp) (sl : Sl) (S : SS) (r : TR), Rel X.K X.mg H0 φ0 φ σ H sl S → f sl S = some r →
    ∀ (Q : Bool → Hp → Prop) (W : WX), Takes X W → PostT X H0 φ0 φ σ H sl Q W r → wT X e σ H Q
structure DenT (X : Cx) (e : Expr) (f : FT) : Prop where
  run : DenT_ X e f
instance {X : Cx} {e : Expr} {f : FT} : CoeFun (DenT X e f) (fun _ => DenT_ X e f) := ⟨DenT.run⟩
/-- .. whatever stands around -/
def DenW_ (X : Cx) (e : Expr) (f : FT) : Prop :=
  ∀ (H0 : Hp) (φ0 φ : List Addr) (σ : L2.St) (H : Hp) (sl : Sl) (S : SS) (r : TR), Rel X.K X.mg H0 φ0 φ σ H sl S → f sl S = some r →
    ∀ (Q : Bool → Hp → Prop) (W : WX), Takes X W → PostT X H0 φ0 φ σ H sl Q W r →
      ∀ (whole : Sem Value) (pins : List (Addr × Obj)) (s : Shared), Inv X pins σ H s → wpAny (model X.prog X.w) X.A (isTrue e X.env whole) (TP X pins σ Q) X.xe s
structure DenW (X : Cx) (e : Expr) (f : FT) : Prop where
  run : DenW_ X e f
instance {X : Cx} {e : Expr} {f : FT} : CoeFun (DenW X e f) (fun _ => DenW_ X e f) := ⟨DenW.run⟩
def wW (X : Cx) (e : Expr) : TT := fun σ H Q => ∀ (whole : Sem Value) (pins : List (Addr × Obj)) (s : Shared), Inv X pins σ H s → wpAny (model X.prog X.w) X.A (isTrue e X.env whole) (TP X pins σ Q) X.xe s
theorem wW.pw {X : Cx} {e : Expr} : PW X e (wW X e) := ⟨fun whole pins s σ H Q I h => h whole pins s I⟩
def fTb (f : FE) : FT := fun sl S => match f sl S with
  | some (.val _ (.py (.bool b)) S') => some (.tb b S')
  | some (.exn c d S') => some (.exn c d S')
  | _ => none
theorem RV.bl {K : PySem.W.Frag} {mg : Str → Option Value} {H0 H : Hp} {φ : List Addr} {σ : L2.St} {sl : Sl} {t : Tg} {b : Bool} {u : V} (r : RV K mg H0 H φ σ sl t (.py (.bool b)) u) : u = .bl b := by
  cases t with
  | pure => exact r
  | fresh => obtain ⟨_, _, o, _⟩ := r; exact o.elim
  | mine => obtain ⟨_, _, o, _⟩ := r; exact o.elim
section
variable {X : Cx} {a b c e : Expr} {rest : List Expr} {fa fb fc f : FE} {ga gb : FT} {pos : Pos}
theorem post_bool {H0 : Hp} {φ0 φ : List Addr} {σ : L2.St} {H : Hp} {sl : Sl} {S : SS} {r : TR} {Q : Bool → Hp → Prop} {W : WX} (hf : fTb f sl S = some r) (post : PostT X H0 φ0 φ σ H sl Q W r) :
    ∃ r', f sl S = some r' ∧ Post X H0 φ0 φ σ H sl (fun x H' => ∃ k, x = .bl k ∧ Q k H') W r' := by
  unfold fTb at hf
  split at hf
  · rename_i t k S' h1
    cases hf
    exact ⟨_, h1, fun u H' φ' R' l' rv _ => ⟨k, rv.bl, post H' φ' R' l'⟩⟩
  · rename_i c d S' h1
    cases hf
    exact ⟨_, h1, post⟩
  · cases hf
/-- a plain expression that gives True or False, as a test -/
theorem denT_val (h : Den X e f) (he : ∀ whole, isTrue e X.env whole = (do let v ← whole; standAt e.pos; holding [v] (truthy v))) : DenT X e (fTb f) := by
  refine .mk ?_; intro H0 φ0 φ σ H sl S r R hf Q W tk post
  obtain ⟨r', h1, p⟩ := post_bool hf post
  exact wT.of (pt_val wE.pe he) (h H0 φ0 φ σ H sl S r' R h1 _ W tk p)
theorem denT_cmp {op : CmpOp} {sem : PyData → PyData → Option (Tg × PyData)} (hop : BinSem X (compareOp op) sem) (ha : Den X a fa) (hb : Den X b fb) (hm : behindInMarks op b = false) : DenT X (.Compare a [op] [b] pos) (fTb (fBin sem fa fb)) := by
  refine .mk ?_; intro H0 φ0 φ σ H sl S r R hf Q W tk post
  obtain ⟨r', h1, p⟩ := post_bool hf post
  exact wT.of (pt_cmpR OpRun.op wE.pe wE.pe hm) (bin_go hop ha hb R tk h1 p)
def fNotT (g : FT) : FT := fun sl S => match g sl S with
  | some (.tb b S') => some (.tb (!b) S')
  | some (.exn c d S') => some (.exn c d S')
  | none => none
theorem denT_not (h : DenT X a ga) : DenT X (.UnaryOp .Not a pos) (fNotT ga) := by
  refine .mk ?_; intro H0 φ0 φ σ H sl S r R hf Q W tk post
  refine wT.of (pt_not wT.pt) ?_
  unfold fNotT at hf
  split at hf
  · rename_i k S' h1
    cases hf
    exact h H0 φ0 φ σ H sl S _ R h1 _ W tk post
  · rename_i c d S' h1
    cases hf
    exact h H0 φ0 φ σ H sl S _ R h1 _ W tk post
  · cases hf
def fAndT (g k : FT) : FT := fun sl S => match g sl S with
  | some (.tb true S') => k sl S'
  | r => r
def fOrT (g k : FT) : FT := fun sl S => match g sl S with
  | some (.tb false S') => k sl S'
  | r => r
theorem PostT.le {H0 : Hp} {φ0 φ φ1 : List Addr} {σ : L2.St} {H H1 : Hp} {sl : Sl} {r : TR} {Q : Bool → Hp → Prop} {W : WX} (l : Le φ H φ1 H1) (p : PostT X H0 φ0 φ σ H sl Q W r) : PostT X H0 φ0 φ1 σ H1 sl Q W r := by
  cases r with
  | tb b S' => exact fun H' φ' R' l' => p H' φ' R' (l.trans l')
  | exn c d S' => exact fun C dx H' φ' R' l' => p C dx H' φ' R' (l.trans l')
theorem Post.le {H0 : Hp} {φ0 φ φ1 : List Addr} {σ : L2.St} {H H1 : Hp} {sl : Sl} {S : SS} {r : ER} {Q : VK} {W : WX} (l : Le φ H φ1 H1) (R : Rel X.K X.mg H0 φ0 φ1 σ H1 sl S) (p : Post X H0 φ0 φ σ H sl Q W r) : Post X H0 φ0 φ1 σ H1 sl Q W r := by
  cases r with
  | val t v S' => exact fun u H' φ' R' l' rv fr => p u H' φ' R' (l.trans l') rv fun e p q => l.fresh R (fr e p q)
  | exn c d S' => exact fun C dx H' φ' R' l' => p C dx H' φ' R' (l.trans l')
theorem denW_t (h : DenW X e ga) : DenT X e ga := .mk fun H0 φ0 φ σ H sl S r R hf Q W tk post pins s I => h H0 φ0 φ σ H sl S r R hf Q W tk post _ pins s I
theorem denW_and1 (h : DenT X a ga) : DenW X (.BoolOp .And [a] pos) ga := .mk fun H0 φ0 φ σ H sl S r R hf Q W tk post whole pins s I =>
  (pw_and1 wT.pt).run whole pins s σ H Q I (h H0 φ0 φ σ H sl S r R hf Q W tk post)
theorem denW_or1 (h : DenT X a ga) : DenW X (.BoolOp .Or [a] pos) ga := .mk fun H0 φ0 φ σ H sl S r R hf Q W tk post whole pins s I =>
  (pw_or1 wT.pt).run whole pins s σ H Q I (h H0 φ0 φ σ H sl S r R hf Q W tk post)
theorem denW_and (h : DenT X a ga) (h2 : DenW X (.BoolOp .And (b :: rest) pos) gb) : DenW X (.BoolOp .And (a :: b :: rest) pos) (fAndT ga gb) := by
  refine .mk ?_; intro H0 φ0 φ σ H sl S r R hf Q W tk post whole pins s I
  refine (pw_and wT.pt wW.pw).run whole pins s σ H Q I ?_
  unfold fAndT at hf
  split at hf
  · rename_i S' h1
    refine h H0 φ0 φ σ H sl S _ R h1 _ W tk fun H1 φ1 R1 l1 => ?_
    show (if true = true then _ else _)
    rw [if_pos rfl]
    exact fun whole pins s I => h2 H0 φ0 φ1 σ H1 sl S' r R1 hf Q W tk (post.le l1) whole pins s I
  · rename_i r' hn
    cases r with
    | tb k S' =>
      cases k with
      | true => exact absurd hf (hn S')
      | false =>
        refine h H0 φ0 φ σ H sl S _ R hf _ W tk fun H1 φ1 R1 l1 => ?_
        show (if false = true then _ else _)
        rw [if_neg Bool.false_ne_true]
        exact post H1 φ1 R1 l1
    | exn c d S' => exact h H0 φ0 φ σ H sl S _ R hf _ W tk post
theorem denW_or (h : DenT X a ga) (h2 : DenW X (.BoolOp .Or (b :: rest) pos) gb) : DenW X (.BoolOp .Or (a :: b :: rest) pos) (fOrT ga gb) := by
  refine .mk ?_; intro H0 φ0 φ σ H sl S r R hf Q W tk post whole pins s I
  refine (pw_or wT.pt wW.pw).run whole pins s σ H Q I ?_
  unfold fOrT at hf
  split at hf
  · rename_i S' h1
    refine h H0 φ0 φ σ H sl S _ R h1 _ W tk fun H1 φ1 R1 l1 => ?_
    show (if false = true then _ else _)
    rw [if_neg Bool.false_ne_true]
    exact fun whole pins s I => h2 H0 φ0 φ1 σ H1 sl S' r R1 hf Q W tk (post.le l1) whole pins s I
  · rename_i r' hn
    cases r with
    | tb k S' =>
      cases k with
      | false => exact absurd hf (hn S')
      | true =>
        refine h H0 φ0 φ σ H sl S _ R hf _ W tk fun H1 φ1 R1 l1 => ?_
        show (if true = true then _ else _)
        rw [if_pos rfl]
        exact post H1 φ1 R1 l1
    | exn c d S' => exact h H0 φ0 φ σ H sl S _ R hf _ W tk post
/-- .. as values -/
def fAnd (f g : FE) : FE := fun sl S => bindE (f sl S) fun _ v S1 => match v with
  | .py (.bool true) => g sl S1
  | .py (.bool false) => some (.val .pure (.py (.bool false)) S1)
  | _ => none
def fOr (f g : FE) : FE := fun sl S => bindE (f sl S) fun _ v S1 => match v with
  | .py (.bool false) => g sl S1
  | .py (.bool true) => some (.val .pure (.py (.bool true)) S1)
  | _ => none
def fNot (f : FE) : FE := fun sl S => bindE (f sl S) fun _ v S1 => match v with
  | .py (.bool k) => some (.val .pure (.py (.bool (!k))) S1)
  | _ => none
theorem den_one {op : BoolOp} (h : Den X a fa) : Den X (.BoolOp op [a] pos) fa := .mk fun H0 φ0 φ σ H sl S r R hf Q W tk post => wE.of (pe_one wE.pe) (h H0 φ0 φ σ H sl S r R hf Q W tk post)
theorem den_and (ha : Den X a fa) (hb : Den X (.BoolOp .And (b :: rest) pos) fb) : Den X (.BoolOp .And (a :: b :: rest) pos) (fAnd fa fb) := by
  refine .mk ?_; intro H0 φ0 φ σ H sl S r R hf Q W tk post
  refine wE.of (pe_and wE.pe wE.pe) (den_then ha R tk hf post fun t v S1 u H1 φ1 hk R1 l1 rv p1 => ?_)
  split at hk
  · exact ⟨true, rv.bl, by rw [if_pos rfl]; exact hb H0 φ0 φ1 σ H1 sl S1 r R1 hk Q W tk p1⟩
  · cases hk
    exact ⟨false, rv.bl, by rw [if_neg Bool.false_ne_true]; exact p1 _ H1 φ1 R1 (Le.refl _ _) rfl (fun z => nomatch z)⟩
  · cases hk
theorem den_or (ha : Den X a fa) (hb : Den X (.BoolOp .Or (b :: rest) pos) fb) : Den X (.BoolOp .Or (a :: b :: rest) pos) (fOr fa fb) := by
  refine .mk ?_; intro H0 φ0 φ σ H sl S r R hf Q W tk post
  refine wE.of (pe_or wE.pe wE.pe) (den_then ha R tk hf post fun t v S1 u H1 φ1 hk R1 l1 rv p1 => ?_)
  split at hk
  · exact ⟨false, rv.bl, by rw [if_neg Bool.false_ne_true]; exact hb H0 φ0 φ1 σ H1 sl S1 r R1 hk Q W tk p1⟩
  · cases hk
    exact ⟨true, rv.bl, by rw [if_pos rfl]; exact p1 _ H1 φ1 R1 (Le.refl _ _) rfl (fun z => nomatch z)⟩
  · cases hk
theorem den_not (ha : Den X a fa) : Den X (.UnaryOp .Not a pos) (fNot fa) := by
  refine .mk ?_; intro H0 φ0 φ σ H sl S r R hf Q W tk post
  refine wE.of (pe_not wE.pe) (den_then ha R tk hf post fun t v S1 u H1 φ1 hk R1 l1 rv p1 => ?_)
  split at hk
  · rename_i k
    cases hk
    exact ⟨k, rv.bl, p1 _ H1 φ1 R1 (Le.refl _ _) rfl (fun z => nomatch z)⟩
  · cases hk
def fIf (g : FT) (f1 f2 : FE) : FE := fun sl S => match g sl S with
  | some (.tb true S') => f1 sl S'
  | some (.tb false S') => f2 sl S'
  | some (.exn c d S') => some (.exn c d S')
  | none => none
theorem den_if (hc : DenT X c ga) (ha : Den X a fa) (hb : Den X b fb) : Den X (.IfExp c a b pos) (fIf ga fa fb) := by
  refine .mk ?_; intro H0 φ0 φ σ H sl S r R hf Q W tk post
  refine wE.of (pe_ifExp wT.pt wE.pe wE.pe) ?_
  unfold fIf at hf
  split at hf
  · rename_i S' h1
    refine hc H0 φ0 φ σ H sl S _ R h1 _ W tk fun H1 φ1 R1 l1 => ?_
    show (if true = true then _ else _)
    rw [if_pos rfl]
    exact ha H0 φ0 φ1 σ H1 sl S' r R1 hf Q W tk (post.le l1 R1)
  · rename_i S' h1
    refine hc H0 φ0 φ σ H sl S _ R h1 _ W tk fun H1 φ1 R1 l1 => ?_
    show (if false = true then _ else _)
    rw [if_neg Bool.false_ne_true]
    exact hb H0 φ0 φ1 σ H1 sl S' r R1 hf Q W tk (post.le l1 R1)
  · rename_i c' d S' h1
    cases hf
    exact hc H0 φ0 φ σ H sl S _ R h1 _ W tk post
  · cases hf
end
end PP
set_option Elab.async false
set_option linter.all false
set_option maxRecDepth 100000
set_option maxHeartbeats 4000000
namespace PP
open PySem L2
/-! ### what the operators give -/
/-- at most so deep -/
abbrev DEEP : Nat := 60
def addP : PyData → PyData → Option (Tg × PyData)
  | .int i, .int j => some (.pure, .int (i + j))
  | .str x, .str y => if x.length + y.length ≤ LIM then some (.pure, .str (x ++ y)) else none
  | .list xs, .list ys => if xs.length + ys.length ≤ LIM then some (.fresh, .list (xs ++ ys)) else none
  | .tuple xs, .tuple ys => if xs.length + ys.length ≤ LIM then some (.pure, .tuple (xs ++ ys)) else none
  | _, _ => none
def subP : PyData → PyData → Option (Tg × PyData)
  | .int i, .int j => some (.pure, .int (i - j))
  | _, _ => none
def mulP : PyData → PyData → Option (Tg × PyData)
  | .int i, .int j => if i.natAbs.log2 + j.natAbs.log2 < 1000000 then some (.pure, .int (i * j)) else none
  | _, _ => none
def fdivP : PyData → PyData → Option (Tg × PyData)
  | .int i, .int j => if 0 < j ∧ j.natAbs.log2 < 9000 then some (.pure, .int (i / j)) else none
  | _, _ => none
def modP : PyData → PyData → Option (Tg × PyData)
  | .int i, .int j => if 0 < j then some (.pure, .int (i % j)) else none
  | _, _ => none
def ltP (g : Int → Int → Bool) : PyData → PyData → Option (Tg × PyData)
  | .int i, .int j => some (.pure, .bool (g i j))
  | _, _ => none
def eqOk (a b : PyData) : Bool := a.plain && b.plain && decide (min a.depth b.depth ≤ DEEP)
def eqP (a b : PyData) : Option (Tg × PyData) := if eqOk a b then some (.pure, .bool (PyData.eqv a b)) else none
def neP (a b : PyData) : Option (Tg × PyData) := if eqOk a b then some (.pure, .bool (!PyData.eqv a b)) else none
def inOk (x : PyData) (xs : List PyData) : Bool := PyData.plainAll xs && x.plain && decide (min (PyData.depthAll xs) x.depth ≤ DEEP)
def inP (neg : Bool) : PyData → PyData → Option (Tg × PyData)
  | x, .list xs => if inOk x xs then some (.pure, .bool (neg ^^ xs.any fun y => PyData.eqv y x)) else none
  | x, .tuple xs => if inOk x xs then some (.pure, .bool (neg ^^ xs.any fun y => PyData.eqv y x)) else none
  | .str x, .str z => match x.cps.toList with
    | [c] => some (.pure, .bool (neg ^^ decide (c ∈ z.cps.toList)))
    | _ => none
  | _, _ => none
theorem str_one {x : Str} {c : Nat} (h : x.cps.toList = [c]) : x = ⟨#[c]⟩ := by
  obtain ⟨a⟩ := x
  have e : a = #[c] := by
    apply Array.toList_inj.mp
    exact h
  rw [e]
section
variable {X : Cx} {k : Nat}
theorem sem_add : BinSem X (binaryOp .Add) addP := by
  intro dx dy x y H t d Q sx sy hs q
  unfold addP at hs
  split at hs
  · rename_i i j
    cases hs
    obtain rfl : x = .int i := sx
    obtain rfl : y = .int j := sy
    exact OpRun.of op_add ⟨i, j, rfl, rfl, q _ H (Ext.refl H) rfl⟩
  · rename_i i j
    split at hs
    · rename_i hl
      cases hs
      obtain rfl : x = .str i := sx
      obtain rfl : y = .str j := sy
      exact OpRun.of op_add_str ⟨i, j, rfl, rfl, lim_line hl, q _ H (Ext.refl H) rfl⟩
    · cases hs
  · rename_i xs ys
    split at hs
    · rename_i hl
      cases hs
      obtain ⟨p, vs, rfl, r1, a1⟩ := sx
      obtain ⟨p', us, rfl, r2, a2⟩ := sy
      intro pins s σ v u I rx ry
      cases rx
      cases ry
      obtain ⟨its, rv, ⟨⟨c1, dd, dt, so⟩, n, e, hc, hd, hs⟩, _⟩ := I.list r1
      obtain ⟨its2, rv2, ⟨⟨c2, dd2, dt2, so2⟩, n2, e2, hc2, hd2, hs2⟩, _⟩ := I.list r2
      dsimp only at hc hs hc2 hs2
      subst hc hs hc2 hs2
      have hz : vs.length + us.length ≤ sizeLine := by rw [a1.len, a2.len]; exact lim_line hl
      have l1 := rv.length
      have l2 := rv2.length
      refine PySem.concat_meets ⟨_, e, rfl⟩ ⟨_, e2, rfl⟩ PySem.noFill_list_add PySem.seq_list_add PySem.F.slot_list_add PySem.F.entry_list_add (PySem.F.args_list_add_2 _ _)
        (PyProof.Rows.list_addW p p' its.toArray its2.toArray n n2 dd dd2 so so2 (by simp only [List.size_toArray]; omega)) ⟨e, e2, ?_⟩
      rw [show its.toArray ++ its2.toArray = (its ++ its2).toArray by simp]
      have ex : Ext H (upd H s.heap.objs.size (.lst (vs ++ us))) := Ext.new I.fresh
      exact ⟨.ref _, _, I.lnew (t' := s.toks) (rv.append rv2) (by rw [List.length_append]; omega), rfl, q _ _ ex ⟨_, rfl, ⟨_, upd_same, (a1.app a2).mono ex.fz⟩, I.fresh⟩⟩
    · cases hs
  · rename_i xs ys
    split at hs
    · rename_i hl
      cases hs
      obtain ⟨p, vs, rfl, r1, a1⟩ := sx
      obtain ⟨p', us, rfl, r2, a2⟩ := sy
      have hz : vs.length + us.length ≤ sizeLine := by rw [a1.len, a2.len]; exact lim_line hl
      refine OpRun.of op_catA ⟨p, p', vs, us, rfl, rfl, r1, r2, hz, fun e => ?_, fun _ e => ?_, fun _ _ l hl => ?_⟩
      · subst e
        refine q _ H (Ext.refl H) ⟨p', us, rfl, r2, ?_⟩
        have z := a1.len
        have e : xs = [] := List.length_eq_zero_iff.mp z.symm
        subst e
        exact a2
      · subst e
        refine q _ H (Ext.refl H) ⟨p, vs, rfl, r1, ?_⟩
        have z := a2.len
        have e : ys = [] := List.length_eq_zero_iff.mp z.symm
        subst e
        rw [List.append_nil]
        exact a1
      · have ex : Ext H (upd H l (.tup (vs ++ us))) := Ext.new hl
        exact q _ _ ex ⟨l, _, rfl, SqT.of upd_same, (a1.app a2).mono ex.fz⟩
    · cases hs
  · cases hs
theorem sem_int {f : Value → Value → Sem Value} {C : Int → Int → Prop} {g : Int → Int → V} {sem : PyData → PyData → Option (Tg × PyData)} (o : OpR X f (rI C g))
    (h : ∀ a b t d, sem a b = some (t, d) → ∃ i j, a = .int i ∧ b = .int j ∧ C i j ∧ t = .pure ∧ ∀ H, Rp X.K H d (g i j)) : BinSem X f sem := by
  intro dx dy x y H t d Q sx sy hs q
  obtain ⟨i, j, rfl, rfl, c, rfl, e⟩ := h _ _ _ _ hs
  obtain rfl : x = .int i := sx
  obtain rfl : y = .int j := sy
  exact OpRun.of o ⟨i, j, rfl, rfl, c, q _ H (Ext.refl H) (e H)⟩
theorem sem_int0 {f : Value → Value → Sem Value} {g : Int → Int → V} {sem : PyData → PyData → Option (Tg × PyData)} (o : OpR X f (rI0 g))
    (h : ∀ a b t d, sem a b = some (t, d) → ∃ i j, a = .int i ∧ b = .int j ∧ t = .pure ∧ ∀ H, Rp X.K H d (g i j)) : BinSem X f sem := by
  intro dx dy x y H t d Q sx sy hs q
  obtain ⟨i, j, rfl, rfl, rfl, e⟩ := h _ _ _ _ hs
  obtain rfl : x = .int i := sx
  obtain rfl : y = .int j := sy
  exact OpRun.of o ⟨i, j, rfl, rfl, q _ H (Ext.refl H) (e H)⟩
theorem sem_sub : BinSem X (binaryOp .Sub) subP := sem_int0 op_sub fun a b t d h => by
  unfold subP at h
  split at h <;> cases h
  exact ⟨_, _, rfl, rfl, rfl, fun _ => rfl⟩
theorem sem_mul : BinSem X (binaryOp .Mult) mulP := sem_int op_mulW fun a b t d h => by
  unfold mulP at h
  split at h
  · split at h
    · rename_i hc
      cases h
      exact ⟨_, _, rfl, rfl, hc, rfl, fun _ => rfl⟩
    · cases h
  · cases h
theorem sem_fdiv : BinSem X (binaryOp .FloorDiv) fdivP := sem_int op_fdivW fun a b t d h => by
  unfold fdivP at h
  split at h
  · split at h
    · rename_i hc
      cases h
      exact ⟨_, _, rfl, rfl, hc, rfl, fun _ => rfl⟩
    · cases h
  · cases h
theorem sem_mod : BinSem X (binaryOp .Mod) modP := sem_int op_mod fun a b t d h => by
  unfold modP at h
  split at h
  · split at h
    · rename_i hc
      cases h
      exact ⟨_, _, rfl, rfl, hc, rfl, fun _ => rfl⟩
    · cases h
  · cases h
theorem sem_cmpI {f : Value → Value → Sem Value} {g : Int → Int → Bool} (o : OpR X f (rI0 fun i j => .bl (g i j))) : BinSem X f (ltP g) := sem_int0 o fun a b t d h => by
  unfold ltP at h
  split at h <;> cases h
  exact ⟨_, _, rfl, rfl, rfl, fun _ => rfl⟩
theorem sem_lt : BinSem X (compareOp .Lt) (ltP fun i j => decide (i < j)) := sem_cmpI op_lt
theorem sem_le : BinSem X (compareOp .LtE) (ltP fun i j => decide (i ≤ j)) := sem_cmpI op_le
theorem sem_gt : BinSem X (compareOp .Gt) (ltP fun i j => decide (j < i)) := sem_cmpI op_gt
theorem sem_ge : BinSem X (compareOp .GtE) (ltP fun i j => decide (j ≤ i)) := sem_cmpI op_ge
theorem eqOk_out {a b : PyData} (h : eqOk a b = true) : a.plain = true ∧ b.plain = true ∧ min a.depth b.depth ≤ 60 := by
  unfold eqOk at h
  rw [Bool.and_eq_true, Bool.and_eq_true] at h
  exact ⟨h.1.1, h.1.2, of_decide_eq_true h.2⟩
theorem sem_eq (c : Ct X k) : BinSem X (compareOp .Eq) eqP := by
  intro dx dy x y H t d Q sx sy hs q
  unfold eqP at hs
  split at hs
  · rename_i ok
    cases hs
    obtain ⟨h1, h2, h3⟩ := eqOk_out ok
    intro pins s σ v u I rx ry
    obtain ⟨as, ra⟩ := Sh.reads I.hok I.kIn dx sx rx
    obtain ⟨bs, rb⟩ := Sh.reads I.hok I.kIn dy sy ry
    exact PySem.SeqAt.eq_plain ra rb h1 h2 (by have := c.room.units; omega) ⟨.bl _, H, I, rfl, q _ H (Ext.refl H) rfl⟩
  · cases hs
theorem sem_ne (c : Ct X k) : BinSem X (compareOp .NotEq) neP := by
  intro dx dy x y H t d Q sx sy hs q
  unfold neP at hs
  split at hs
  · rename_i ok
    cases hs
    obtain ⟨h1, h2, h3⟩ := eqOk_out ok
    intro pins s σ v u I rx ry
    obtain ⟨as, ra⟩ := Sh.reads I.hok I.kIn dx sx rx
    obtain ⟨bs, rb⟩ := Sh.reads I.hok I.kIn dy sy ry
    exact PySem.SeqAt.ne_plain ra rb h1 h2 (by have := c.room.units; omega) ⟨.bl _, H, I, rfl, q _ H (Ext.refl H) rfl⟩
  · cases hs
theorem inOk_out {x : PyData} {xs : List PyData} (h : inOk x xs = true) : PyData.plainAll xs = true ∧ x.plain = true ∧ min (PyData.depthAll xs) x.depth ≤ 60 := by
  unfold inOk at h
  rw [Bool.and_eq_true, Bool.and_eq_true] at h
  exact ⟨h.1.1, h.1.2, of_decide_eq_true h.2⟩
theorem sem_in (c : Ct X k) : BinSem X (compareOp .In) (inP false) := by
  intro dx dy x y H t d Q sx sy hs q
  unfold inP at hs
  split at hs
  · split at hs
    · rename_i xs ok
      cases hs
      obtain ⟨h1, h2, h3⟩ := inOk_out ok
      intro pins s σ v u I rx ry
      obtain ⟨as, ra⟩ := Sh.reads I.hok I.kIn dx sx rx
      obtain ⟨bs, rb⟩ := Sh.reads I.hok I.kIn _ sy ry
      exact PySem.SeqAt.in_list_data rb ra h1 h2 (by have := c.room.units; omega) ⟨.bl _, H, I, rfl, q _ H (Ext.refl H) (by rw [Bool.false_xor]; rfl)⟩
    · cases hs
  · split at hs
    · rename_i xs ok
      cases hs
      obtain ⟨h1, h2, h3⟩ := inOk_out ok
      intro pins s σ v u I rx ry
      obtain ⟨as, ra⟩ := Sh.reads I.hok I.kIn dx sx rx
      obtain ⟨bs, rb⟩ := Sh.reads I.hok I.kIn _ sy ry
      exact PySem.SeqAt.in_tuple_data rb ra h1 h2 (by have := c.room.units; omega) ⟨.bl _, H, I, rfl, q _ H (Ext.refl H) (by rw [Bool.false_xor]; rfl)⟩
    · cases hs
  · rename_i x' z
    split at hs
    · rename_i c' e
      cases hs
      obtain rfl : x = .str x' := sx
      obtain rfl : y = .str z := sy
      exact OpRun.of op_in_sign ⟨c', z, by rw [str_one e], rfl, q _ H (Ext.refl H) (by rw [Bool.false_xor]; rfl)⟩
    · cases hs
  · cases hs
theorem sem_notIn (c : Ct X k) : BinSem X (compareOp .NotIn) (inP true) := by
  intro dx dy x y H t d Q sx sy hs q
  unfold inP at hs
  split at hs
  · split at hs
    · rename_i xs ok
      cases hs
      obtain ⟨h1, h2, h3⟩ := inOk_out ok
      intro pins s σ v u I rx ry
      obtain ⟨as, ra⟩ := Sh.reads I.hok I.kIn dx sx rx
      obtain ⟨bs, rb⟩ := Sh.reads I.hok I.kIn _ sy ry
      exact PySem.SeqAt.notIn_list_data rb ra h1 h2 (by have := c.room.units; omega) ⟨.bl _, H, I, rfl, q _ H (Ext.refl H) (by rw [Bool.true_xor]; rfl)⟩
    · cases hs
  · split at hs
    · rename_i xs ok
      cases hs
      obtain ⟨h1, h2, h3⟩ := inOk_out ok
      intro pins s σ v u I rx ry
      obtain ⟨as, ra⟩ := Sh.reads I.hok I.kIn dx sx rx
      obtain ⟨bs, rb⟩ := Sh.reads I.hok I.kIn _ sy ry
      exact PySem.SeqAt.notIn_tuple_data rb ra h1 h2 (by have := c.room.units; omega) ⟨.bl _, H, I, rfl, q _ H (Ext.refl H) (by rw [Bool.true_xor]; rfl)⟩
    · cases hs
  · rename_i x' z
    split at hs
    · rename_i c' e
      cases hs
      obtain rfl : x = .str x' := sx
      obtain rfl : y = .str z := sy
      exact OpRun.of op_notIn_sign ⟨c', z, by rw [str_one e], rfl, q _ H (Ext.refl H) (by rw [Bool.true_xor]; rfl)⟩
    · cases hs
  · cases hs
end
end PP
set_option Elab.async false
set_option linter.all false
set_option maxRecDepth 100000
set_option maxHeartbeats 4000000
namespace PP
open PySem L2 PySem.Spec PyProof.Rows
section
variable {X : Cx} {a b e : Expr} {es : List Expr} {fa fb f : FE} {g : FA} {pos : Pos} {k : Nat}
/-! ### is None -/
def isNon : Vl → Bool
  | .py .none => true
  | _ => false
def fIsN (neg : Bool) (f : FE) : FE := fun sl S => bindE (f sl S) fun _ v S1 => some (.val .pure (.py (.bool (neg ^^ isNon v))) S1)
theorem RV.isNon {K : PySem.W.Frag} {mg : Str → Option Value} {H0 H : Hp} {φ : List Addr} {σ : L2.St} {sl : Sl} {t : Tg} {v : Vl} {u : V} (r : RV K mg H0 H φ σ sl t v u) : decide (u = .non) = PP.isNon v := by
  have ref : ∀ {p : Addr}, decide (V.ref p = V.non) = false := fun {p} => decide_eq_false (fun z => nomatch z)
  cases t with
  | fresh =>
    cases v with
    | py d =>
      obtain ⟨p, rfl, o, _⟩ := r
      rw [ref]
      cases d <;> first | rfl | exact o.elim
    | _ => exact r.elim
  | mine =>
    cases v with
    | py d =>
      obtain ⟨p, rfl, o, _⟩ := r
      rw [ref]
      cases d <;> first | rfl | exact o.elim
    | _ => exact r.elim
  | pure =>
    cases v with
    | py d =>
      cases d with
      | none => obtain rfl : u = .non := r; rfl
      | bool b => obtain rfl : u = .bl b := r; exact decide_eq_false (fun z => nomatch z)
      | int b => obtain rfl : u = .int b := r; exact decide_eq_false (fun z => nomatch z)
      | str b => obtain rfl : u = .str b := r; exact decide_eq_false (fun z => nomatch z)
      | list b => obtain ⟨p, _, rfl, _⟩ := r; exact ref
      | tuple b => obtain ⟨p, _, rfl, _⟩ := r; exact ref
      | dict b => obtain ⟨p, _, _, rfl, _⟩ := r; exact ref
    | fn f => obtain ⟨p, rfl, _⟩ := r; exact ref
    | err c d => obtain ⟨p, _, _, _, _, _, rfl, _⟩ := r; exact ref
    | box k => obtain ⟨p, _, rfl⟩ := r; exact ref
theorem isN_go {neg : Bool} {t : TE} (ha : Den X a fa) (ht : ∀ σ H Q, wE X a σ H (fun x H1 => Q (.bl (neg ^^ decide (x = .non))) H1) → t σ H Q)
    {H0 : Hp} {φ0 φ : List Addr} {σ : L2.St} {H : Hp} {sl : Sl} {S : SS} {r : ER} {Q : VK} {W : WX} (R : Rel X.K X.mg H0 φ0 φ σ H sl S) (tk : Takes X W) (hf : fIsN neg fa sl S = some r) (post : Post X H0 φ0 φ σ H sl Q W r) : t σ H Q := by
  refine ht σ H Q (den_then ha R tk hf post fun t1 v1 S1 u1 H1 φ1 hk R1 l1 rv1 post1 => ?_)
  cases hk
  rw [rv1.isNon]
  exact post1 _ H1 φ1 R1 (Le.refl _ _) rfl (fun z => nomatch z)
theorem den_isN {j : Nat} {p2 : Pos} (ha : Den X a fa) : Den X (.Compare a [.Is] [.Constant .none j p2] pos) (fIsN false fa) := .mk fun H0 φ0 φ σ H sl S r R hf Q W tk post =>
  wE.of (pe_cmp (pc_isN wE.pe)) (isN_go (t := tIsN (wE X a)) ha (fun σ H Q h => wE.imp h fun u H' q => by rw [Bool.false_xor] at q; exact q) R tk hf post)
theorem den_notN {j : Nat} {p2 : Pos} (ha : Den X a fa) : Den X (.Compare a [.IsNot] [.Constant .none j p2] pos) (fIsN true fa) := .mk fun H0 φ0 φ σ H sl S r R hf Q W tk post =>
  wE.of (pe_cmp (pc_notN wE.pe)) (isN_go (t := tNotN (wE X a)) ha (fun σ H Q h => wE.imp h fun u H' q => by rw [Bool.true_xor] at q; exact q) R tk hf post)
theorem denT_isN {j : Nat} {p2 : Pos} (ha : Den X a fa) : DenT X (.Compare a [.Is] [.Constant .none j p2] pos) (fTb (fIsN false fa)) := .mk fun H0 φ0 φ σ H sl S r R hf Q W tk post => by
  obtain ⟨r', h1, p⟩ := post_bool hf post
  refine wT.of (pt_cmp (pc_isN wE.pe)) ?_
  exact isN_go (t := tIsN (wE X a)) ha (fun σ H Q h => wE.imp h fun u H' q => by rw [Bool.false_xor] at q; exact q) R tk h1 p
theorem denT_notN {j : Nat} {p2 : Pos} (ha : Den X a fa) : DenT X (.Compare a [.IsNot] [.Constant .none j p2] pos) (fTb (fIsN true fa)) := .mk fun H0 φ0 φ σ H sl S r R hf Q W tk post => by
  obtain ⟨r', h1, p⟩ := post_bool hf post
  refine wT.of (pt_cmp (pc_notN wE.pe)) ?_
  exact isN_go (t := tNotN (wE X a)) ha (fun σ H Q h => wE.imp h fun u H' q => by rw [Bool.true_xor] at q; exact q) R tk h1 p

/-! ### x[i] -/
def ixP : PyData → PyData → Option PyData
  | .list xs, .int i => atI xs i
  | .tuple xs, .int i => atI xs i
  | .str z, .int i => if z.length ≤ LIM then (atI z.cps.toList i).map fun c => .str ⟨#[c]⟩ else none
  | _, _ => none
def fIx (fa fb : FE) : FE := fBin (fun x y => (ixP x y).map fun d => (.pure, d)) fa fb
theorem atI_rps {K : PySem.W.Frag} {H : Hp} {ds : List PyData} {vs : List V} {i : Int} {d : PyData} (r : Rps K H ds vs) (h : atI ds i = some d) : ∃ v, atI vs i = some v ∧ Rp K H d v := by
  unfold atI at h ⊢
  rw [r.len]
  cases e : ixN ds.length i with
  | none => rw [e] at h; cases h
  | some j => rw [e] at h; exact r.get h
def IxRun (X : Cx) : R2 := fun x y H Q => ∀ (value slice : Expr) (pins : List (Addr × Obj)) (s : Shared) (σ : L2.St) (v u : Value), Inv X pins σ H s → RelV x v → RelV y u →
  subscripted slice false v u = operate [v, u] (getItem v u) → wpAny (model X.prog X.w) X.A (subscriptTail value slice v u) (EP X pins σ Q) X.xe s
theorem IxRun.op : IxR X (IxRun X) := fun value slice pins s σ H x y v u Q I r1 r2 h hs => h value slice pins s σ v u I r1 r2 hs
theorem IxRun.of {r : R2} {x y : V} {H : Hp} {Q : VK} (o : IxR X r) (h : r x y H Q) : IxRun X x y H Q := fun value slice pins s σ v u I r1 r2 hs => o value slice pins s σ H x y v u Q I r1 r2 h hs
theorem den_ix (ha : Den X a fa) (hb : Den X b fb) (hs : PlainIx b) : Den X (.Subscript a b pos) (fIx fa fb) := by
  refine .mk ?_; intro H0 φ0 φ σ H sl S r R hf Q W tk post
  refine wE.of (pe_ix IxRun.op wE.pe wE.pe hs) ?_
  refine den_then ha R tk hf post fun t1 v1 S1 u1 H1 φ1 hk R1 l1 rv1 post1 => ?_
  refine den_then hb R1 tk hk post1 fun t2 v2 S2 u2 H2 φ2 hk2 R2 l2 rv2 post2 => ?_
  split at hk2
  · rename_i d1 d2 c1 c2
    split at hk2
    · rename_i t d hs
      cases hk2
      have s1 := (rv1.le l2).sh R2 c1
      have s2 := rv2.sh R2 c2
      have fin : ∀ {u : V}, t = .pure → Rp X.K H2 d u → Q u H2 := fun {u} e rp => by subst e; exact post2 u H2 φ2 R2 (Le.refl _ _) rp (fun z => nomatch z)
      obtain ⟨d', hs', e2⟩ := Option.map_eq_some_iff.mp hs
      cases e2
      unfold ixP at hs'
      split at hs'
      · rename_i xs i
        obtain ⟨p, vs, rfl, r1, a1⟩ := s1
        obtain rfl : u2 = .int i := s2
        obtain ⟨v, hv, rp⟩ := atI_rps a1 hs'
        exact IxRun.of ix_list ⟨p, vs, i, v, rfl, rfl, r1, hv, fin rfl rp⟩
      · rename_i xs i
        obtain ⟨p, vs, rfl, r1, a1⟩ := s1
        obtain rfl : u2 = .int i := s2
        obtain ⟨v, hv, rp⟩ := atI_rps a1 hs'
        exact IxRun.of ix_tup ⟨p, vs, i, v, rfl, rfl, r1, hv, fin rfl rp⟩
      · rename_i z i
        split at hs'
        · rename_i hl
          obtain ⟨c, h, e3⟩ := Option.map_eq_some_iff.mp hs'
          cases e3
          obtain rfl : u1 = .str z := s1
          obtain rfl : u2 = .int i := s2
          exact IxRun.of ix_str ⟨z, i, c, rfl, rfl, lim_line hl, h, fin rfl rfl⟩
        · cases hs'
      · cases hs'
    · cases hk2
  · cases hk2

/-! ### x[i:j] -/
abbrev FO := Sl → SS → Option (Option Int × SS)
def DenO_ (X : Cx) (e : Option Expr) (f : FO) : Prop :=
  ∀ (H0 : Hp) (φ0 φ : List Addr) (σ : L2.St) (H : Hp) (sl : Sl) (S : SS) (o : Option Int) (S' : SS), Rel X.K X.mg H0 φ0 φ σ H sl S → f sl S = some (o, S') →
    ∀ (Q : Option Int → Hp → Prop) (W : WX), Takes X W → (∀ H' φ', Rel X.K X.mg H0 φ0 φ' σ H' sl S' → Le φ H φ' H' → Q o H') →
      ∀ (pins : List (Addr × Obj)) (s : Shared), Inv X pins σ H s → wpAny (model X.prog X.w) X.A (evalPart e X.env) (fun u s' => ∃ o H', Inv X pins σ H' s' ∧ IsPart u o ∧ Q o H') X.xe s
structure DenO (X : Cx) (e : Option Expr) (f : FO) : Prop where
  run : DenO_ X e f
instance {X : Cx} {e : Option Expr} {f : FO} : CoeFun (DenO X e f) (fun _ => DenO_ X e f) := ⟨DenO.run⟩
def wO (X : Cx) (e : Option Expr) : TO := fun σ H Q => ∀ (pins : List (Addr × Obj)) (s : Shared), Inv X pins σ H s → wpAny (model X.prog X.w) X.A (evalPart e X.env) (fun u s' => ∃ o H', Inv X pins σ H' s' ∧ IsPart u o ∧ Q o H') X.xe s
theorem wO.po {e : Option Expr} : PO X e (wO X e) := ⟨fun pins s σ H Q I h => h pins s I⟩
def foNone : FO := fun _ S => some (none, S)
def foSome (f : FE) : FO := fun sl S => match f sl S with
  | some (.val _ (.py (.int i)) S') => some (some i, S')
  | _ => none
theorem denO_none : DenO X none foNone := .mk fun H0 φ0 φ σ H sl S o S' R hf Q W tk post pins s I => by
  cases hf
  exact po_none.run pins s σ H Q I (post H φ R (Le.refl _ _))
theorem RV.int {K : PySem.W.Frag} {mg : Str → Option Value} {H0 H : Hp} {φ : List Addr} {σ : L2.St} {sl : Sl} {t : Tg} {i : Int} {u : V} (r : RV K mg H0 H φ σ sl t (.py (.int i)) u) : u = .int i := by
  cases t with
  | pure => exact r
  | fresh => obtain ⟨_, _, o, _⟩ := r; exact o.elim
  | mine => obtain ⟨_, _, o, _⟩ := r; exact o.elim
theorem denO_some (h : Den X e f) : DenO X (some e) (foSome f) := .mk fun H0 φ0 φ σ H sl S o S' R hf Q W tk post pins s I => by
  unfold foSome at hf
  split at hf
  · rename_i t i S1 h1
    cases hf
    exact (po_some wE.pe).run pins s σ H Q I (h H0 φ0 φ σ H sl S _ R h1 _ W tk fun u H1 φ1 R1 l1 rv _ => ⟨i, rv.int, post H1 φ1 R1 l1⟩)
  · cases hf
def cutD (xs : List PyData) (lo hi : Option Int) : List PyData := (xs.drop (HT.sIx xs.length 0 lo)).take (HT.sIx xs.length xs.length hi - HT.sIx xs.length 0 lo)
theorem cut_rps {K : PySem.W.Frag} {H : Hp} {ds : List PyData} {vs : List V} (r : Rps K H ds vs) (lo hi : Option Int) : Rps K H (cutD ds lo hi) (cutV vs lo hi) := by
  unfold cutD cutV
  rw [r.len]
  exact (r.drop _).take _
def slP : PyData → Option Int → Option Int → Option (Tg × PyData)
  | .list xs, lo, hi => some (.fresh, .list (cutD xs lo hi))
  | .tuple xs, lo, hi => some (.pure, .tuple (cutD xs lo hi))
  | .str z, lo, hi => if z.length ≤ LIM then some (.pure, .str (cutS z lo hi)) else none
  | _, _, _ => none
def fSl (fa : FE) (fl fh : FO) : FE := fun sl S => bindE (fa sl S) fun _ v S1 => match fl sl S1 with
  | some (lo, S2) => match fh sl S2 with
    | some (hi, S3) => match cont S3 v with
      | some d => match slP d lo hi with
        | some (t, d') => some (.val t (.py d') S3)
        | none => none
      | none => none
    | none => none
  | none => none
def SlRun (X : Cx) : V → Option Int → Option Int → Hp → VK → Prop := fun x lo hi H Q => ∀ (pins : List (Addr × Obj)) (s : Shared) (σ : L2.St) (v vl vu : Value) (sl : Addr), Inv X pins σ H s → RelV x v → s.heap.IsSliceOf sl vl vu .none → IsPart vl lo → IsPart vu hi →
  ∃ T id, typeLookup (.type T) "__getitem__" = Pure.pure (some (.builtin id)) ∧ s.TypeIs v T ∧ wpAny (model X.prog X.w) X.A (getItem v (.ref sl)) (EP X pins σ Q) X.xe s
theorem SlRun.op : SlR X (SlRun X) := fun pins s σ H x v vl vu lo hi sl Q I rx hs pl pu h => h pins s σ v vl vu sl I rx hs pl pu
theorem SlRun.of {r : V → Option Int → Option Int → Hp → VK → Prop} {x : V} {lo hi : Option Int} {H : Hp} {Q : VK} (o : SlR X r) (h : r x lo hi H Q) : SlRun X x lo hi H Q := fun pins s σ v vl vu sl I rx hs pl pu => o pins s σ H x v vl vu lo hi sl Q I rx hs pl pu h
theorem den_sl {lo hi : Option Expr} {fl fh : FO} {p2 : Pos} (ha : Den X a fa) (hl : DenO X lo fl) (hh : DenO X hi fh) : Den X (.Subscript a (.Slice lo hi none p2) pos) (fSl fa fl fh) := by
  refine .mk ?_; intro H0 φ0 φ σ H sl S r R hf Q W tk post
  refine wE.of (pe_slice SlRun.op wE.pe wO.po wO.po) ?_
  refine den_then ha R tk hf post fun t1 v1 S1 u1 H1 φ1 hk R1 l1 rv1 post1 => ?_
  split at hk
  · rename_i lv S2 h2
    refine hl H0 φ0 φ1 σ H1 sl S1 lv S2 R1 h2 _ W tk fun H2 φ2 R2 l2 => ?_
    split at hk
    · rename_i hv S3 h3
      refine hh H0 φ0 φ2 σ H2 sl S2 hv S3 R2 h3 _ W tk fun H3 φ3 R3 l3 => ?_
      have post3 := (post1.le l2 R2).le l3 R3
      split at hk
      · rename_i d hc
        have sh := ((rv1.le l2).le l3).sh R3 hc
        split at hk
        · rename_i t d' hs
          cases hk
          unfold slP at hs
          split at hs
          · cases hs
            obtain ⟨p, vs, rfl, r1, a1⟩ := sh
            refine SlRun.of sl_list ⟨p, vs, rfl, r1, fun l hl' => ?_⟩
            have ex : Ext H3 (upd H3 l (.lst (cutV vs lv hv))) := Ext.new hl'
            have ro : RO X.K H3 (upd H3 l (.lst (cutV vs lv hv))) .fresh (.list (cutD _ lv hv)) (.ref l) := ⟨l, rfl, ⟨_, upd_same, (cut_rps a1 _ _).mono ex.fz⟩, hl'⟩
            exact post3 _ _ φ3 (R3.ext ex) ex.le (ro.rv R3) ro.new
          · rename_i xs
            cases hs
            obtain ⟨p, vs, rfl, r1, a1⟩ := sh
            refine SlRun.of sl_tupA ⟨p, vs, rfl, r1, fun hw => ?_, fun _ l hl' => ?_⟩
            · refine post3 _ H3 φ3 R3 (Le.refl _ _) ⟨p, vs, rfl, r1, ?_⟩ (fun z => nomatch z)
              have q := cut_rps a1 lv hv
              have e : cutV vs lv hv = vs := by
                unfold cutV
                rw [hw.1, hw.2, List.drop_zero, Nat.sub_zero, List.take_length]
              rw [e] at q
              exact q
            · have ex : Ext H3 (upd H3 l (.tup (cutV vs lv hv))) := Ext.new hl'
              exact post3 _ _ φ3 (R3.ext ex) ex.le ⟨l, _, rfl, SqT.of upd_same, (cut_rps a1 _ _).mono ex.fz⟩ (fun z => nomatch z)
          · rename_i z
            split at hs
            · rename_i hz
              cases hs
              obtain rfl : u1 = .str z := sh
              exact SlRun.of sl_str ⟨z, rfl, lim_line hz, post3 _ H3 φ3 R3 (Le.refl _ _) rfl (fun z => nomatch z)⟩
            · cases hs
          · cases hs
        · cases hk
      · cases hk
    · cases hk
  · cases hk
end
end PP
set_option Elab.async false
set_option linter.all false
set_option maxRecDepth 100000
set_option maxHeartbeats 4000000
namespace PP
open PySem L2 PySem.Spec PyProof.Rows
/-! ### calls of what is built in -/
def conts (S : SS) : List (Tg × Vl) → Option (List PyData)
  | [] => some []
  | (_, v) :: r => match cont S v, conts S r with
    | some d, some ds => some (d :: ds)
    | _, _ => none
def Shs (K : PySem.W.Frag) (H : Hp) : List PyData → List V → Prop
  | [], us => us = []
  | d :: ds, us => ∃ u r, us = u :: r ∧ Sh K H d u ∧ Shs K H ds r
theorem RVs.shs {K : PySem.W.Frag} {mg : Str → Option Value} {H0 H : Hp} {φ0 φ : List Addr} {σ : L2.St} {sl : Sl} {S : SS} (R : Rel K mg H0 φ0 φ σ H sl S) : ∀ {xs : List (Tg × Vl)} {us : List V} {ds : List PyData}, RVs K mg H0 H φ σ sl xs us → conts S xs = some ds → Shs K H ds us
  | [], _, _, h, e => by cases e; exact h
  | (t, v) :: r, _, ds, ⟨u, q, e, a, b⟩, h => by
    unfold conts at h
    split at h
    · rename_i d ds' h1 h2
      cases h
      exact ⟨u, q, e, a.sh R h1, RVs.shs R b h2⟩
    · cases h
def CallRun (X : Cx) (f : Value) : List V → Hp → VK → Prop := fun xs H Q => ∀ (pins : List (Addr × Obj)) (s : Shared) (σ : L2.St) (us : List Value), Inv X pins σ H s → Vals xs us → wpAny (model X.prog X.w) X.A (call f us) (EP X pins σ Q) X.xe s
theorem CallRun.op {X : Cx} {f : Value} : CallR X f (CallRun X f) := fun pins s σ H xs us Q I r h => h pins s σ us I r
theorem CallRun.of {X : Cx} {f : Value} {r : List V → Hp → VK → Prop} {xs : List V} {H : Hp} {Q : VK} (o : CallR X f r) (h : r xs H Q) : CallRun X f xs H Q := fun pins s σ us I rs => o pins s σ H xs us Q I rs h
def CallSem (X : Cx) (f : Value) (sem : List PyData → Option (Tg × PyData)) : Prop :=
  ∀ (ds : List PyData) (xs : List V) (H : Hp) (t : Tg) (d : PyData) (Q : VK), Shs X.K H ds xs → sem ds = some (t, d) → (∀ u H', Ext H H' → RO X.K H H' t d u → Q u H') → CallRun X f xs H Q
def fCall (sem : List PyData → Option (Tg × PyData)) (g : FA) : FE := fun sl S => match g sl S with
  | some (.vals xs S1) => match conts S1 xs with
    | some ds => match sem ds with
      | some (t, d) => some (.val t (.py d) S1)
      | none => none
    | none => none
  | some (.exn c d S1) => some (.exn c d S1)
  | none => none
section
variable {X : Cx} {a b e : Expr} {es : List Expr} {fa fb f : FE} {g : FA} {p pos : Pos} {x : Str} {id T : String} {k : Nat}
theorem call_go {f : Value} {sem : List PyData → Option (Tg × PyData)} (hs : CallSem X f sem) (h : DenA X es g)
    {H0 : Hp} {φ0 φ : List Addr} {σ : L2.St} {H : Hp} {sl : Sl} {S : SS} {r : ER} {Q : VK} {W : WX} (R : Rel X.K X.mg H0 φ0 φ σ H sl S) (tk : Takes X W) (hf : fCall sem g sl S = some r) (post : Post X H0 φ0 φ σ H sl Q W r) :
    tCB (CallRun X f) (wA X es) σ H Q := by
  unfold fCall at hf
  split at hf
  · rename_i xs S1 h1
    split at hf
    · rename_i ds h2
      split at hf
      · rename_i t d h3
        cases hf
        refine h H0 φ0 φ σ H sl S _ R h1 _ W tk fun us H1 φ1 R1 l1 rvs => ?_
        have post1 := Post.le l1 R1 post
        exact hs ds us H1 t d Q (rvs.shs R1 h2) h3 fun u H' e ro => post1 u H' φ1 (R1.ext e) e.le (ro.rv R1) ro.new
      · cases hf
    · cases hf
  · rename_i c d S1 h1
    cases hf
    exact h H0 φ0 φ σ H sl S _ R h1 _ W tk post
  · cases hf
theorem den_callB {sem : List PyData → Option (Tg × PyData)} (hs : CallSem X (.builtin id) sem) (hg : Gl X x) (hm : X.mg x = none) (hv : bootBuiltins x = some (.builtin id)) (h : DenA X (e :: es) g) (hn : x ≠ "__name__") (hdb : (x == ("__debug__" : Str)) = false)
    (he : starEach (e :: es) X.env = (false, eval e X.env) :: starEach es X.env) (hpl : (backTo pos (starEach es X.env)).any (·.1) = false) : Den X (.Call (.Name x p) (e :: es) [] pos) (fCall sem g) :=
  .mk fun H0 φ0 φ σ H sl S r R hf Q W tk post => wE.of (pe_callB CallRun.op hg hm hv wA.pa hn hdb he hpl) (call_go hs h R tk hf post)
theorem den_callTy {sem : List PyData → Option (Tg × PyData)} (hs : CallSem X (.type T) sem) (hg : Gl X x) (hm : X.mg x = none) (hv : bootBuiltins x = some (.type T)) (h : DenA X (e :: es) g) (hn : x ≠ "__name__") (hdb : (x == ("__debug__" : Str)) = false)
    (he : starEach (e :: es) X.env = (false, eval e X.env) :: starEach es X.env) (hpl : (backTo pos (starEach es X.env)).any (·.1) = false) : Den X (.Call (.Name x p) (e :: es) [] pos) (fCall sem g) :=
  .mk fun H0 φ0 φ σ H sl S r R hf Q W tk post => wE.of (pe_callTy CallRun.op hg hm hv wA.pa hn hdb he hpl) (call_go hs h R tk hf post)
/-! ### .. what they give -/
def lenP : List PyData → Option (Tg × PyData)
  | [.list xs] => some (.pure, .int xs.length)
  | [.tuple xs] => some (.pure, .int xs.length)
  | [.str z] => if z.length ≤ LIM then some (.pure, .int z.length) else none
  | _ => none
theorem sem_len : CallSem X (.builtin "len") lenP := by
  intro ds xs H t d Q sh hs q
  unfold lenP at hs
  split at hs
  · rename_i ys
    cases hs
    obtain ⟨u, r, rfl, ⟨p, vs, rfl, r1, a1⟩, rfl⟩ := sh
    exact CallRun.of call_len ⟨_, vs.length, rfl, .inl ⟨vs, r1, rfl⟩, q _ H (Ext.refl H) (by rw [a1.len]; rfl)⟩
  · rename_i ys
    cases hs
    obtain ⟨u, r, rfl, ⟨p, vs, rfl, r1, a1⟩, rfl⟩ := sh
    exact CallRun.of call_len ⟨_, vs.length, rfl, .inr ⟨vs, r1, rfl⟩, q _ H (Ext.refl H) (by rw [a1.len]; rfl)⟩
  · rename_i z
    split at hs
    · rename_i hz
      cases hs
      obtain ⟨u, r, rfl, h1, rfl⟩ := sh
      obtain rfl : u = .str z := h1
      exact CallRun.of call_len ⟨_, z.length, rfl, ⟨lim_line hz, rfl⟩, q _ H (Ext.refl H) rfl⟩
    · cases hs
  · cases hs
def isB : PyData → Bool
  | .bool _ => true
  | _ => false
def allP : List PyData → Option (Tg × PyData)
  | [.list xs] => if xs.all isB then some (.pure, .bool (xs.all PyData.truthy)) else none
  | _ => none
def anyP : List PyData → Option (Tg × PyData)
  | [.list xs] => if xs.all isB then some (.pure, .bool (xs.any PyData.truthy)) else none
  | _ => none
theorem isB_plain : ∀ {xs : List PyData}, xs.all isB = true → PyData.plainAll xs = true
  | [], _ => rfl
  | .bool _ :: r, h => by rw [PyData.plainAll]; exact (by simpa [PyData.plain, isB] using isB_plain (by simpa [isB] using h))
  | .none :: _, h => by simp [isB] at h
  | .int _ :: _, h => by simp [isB] at h
  | .str _ :: _, h => by simp [isB] at h
  | .list _ :: _, h => by simp [isB] at h
  | .tuple _ :: _, h => by simp [isB] at h
  | .dict _ :: _, h => by simp [isB] at h
theorem isB_fits {xs : List PyData} (h : xs.all isB = true) : ∀ y ∈ xs, y.fits63 := fun y hy => by
  have := List.all_eq_true.mp h y hy
  cases y <;> first | trivial | cases this
theorem sem_all (c : Ct X k) : CallSem X (.builtin "all") allP := by
  intro ds xs H t d Q sh hs q
  unfold allP at hs
  split at hs
  · rename_i ys
    split at hs
    · rename_i hb
      cases hs
      obtain ⟨u, r, rfl, sh1, rfl⟩ := sh
      intro pins s σ us I rs
      obtain ⟨u2, rfl, r1⟩ := vals1 rs
      obtain ⟨as, ra⟩ := Sh.reads I.hok I.kIn _ sh1 r1
      cases ra with
      | list h1 h2 h3 h4 =>
        exact PySem.W.all_list_data c.room.hd ⟨_, h1, h2, _, h3⟩ h4 (isB_plain hb) (isB_fits hb) fun h' tk hk => ⟨.bl _, H, I.kept (t' := tk) hk, rfl, q _ H (Ext.refl H) rfl⟩
    · cases hs
  · cases hs
theorem sem_any (c : Ct X k) : CallSem X (.builtin "any") anyP := by
  intro ds xs H t d Q sh hs q
  unfold anyP at hs
  split at hs
  · rename_i ys
    split at hs
    · rename_i hb
      cases hs
      obtain ⟨u, r, rfl, sh1, rfl⟩ := sh
      intro pins s σ us I rs
      obtain ⟨u2, rfl, r1⟩ := vals1 rs
      obtain ⟨as, ra⟩ := Sh.reads I.hok I.kIn _ sh1 r1
      cases ra with
      | list h1 h2 h3 h4 =>
        exact PySem.W.any_list_data c.room.hd ⟨_, h1, h2, _, h3⟩ h4 (isB_plain hb) (isB_fits hb) fun h' tk hk => ⟨.bl _, H, I.kept (t' := tk) hk, rfl, q _ H (Ext.refl H) rfl⟩
    · cases hs
  · cases hs
theorem ra_nil_as {h : Heap} {vs : List Value} {as : List Addr} (r : ReadsAll h vs [] as) : as = [] := by cases r; rfl
def isE : PyData → Bool
  | .dict [] => true
  | _ => false
/-- at most so long a text of a thing -/
def reprOk (d : PyData) : Bool := d.showable && decide (d.depth ≤ DEEP) && decide (d.shown.length ≤ LIM) && (!d.hasDict || isE d)
def reprP : List PyData → Option (Tg × PyData)
  | [d] => if reprOk d then some (.pure, .str d.shown) else none
  | _ => none
theorem sem_repr (c : Ct X k) : CallSem X (.builtin "repr") reprP := by
  intro ds xs H t d Q sh hs q
  unfold reprP at hs
  split at hs
  · rename_i y
    split at hs
    · rename_i hb
      cases hs
      unfold reprOk at hb
      simp only [Bool.and_eq_true, decide_eq_true_eq] at hb
      obtain ⟨⟨⟨h1, h2⟩, h3⟩, h4⟩ := hb
      have h2 : y.depth ≤ 60 := h2
      obtain ⟨u, r, rfl, sh1, rfl⟩ := sh
      intro pins s σ us I rs
      obtain ⟨u2, rfl, r1⟩ := vals1 rs
      have hsz := lim_line h3
      have fin : ∀ {h' : Heap} {tk : Nat} {t : Tok}, (∀ b o, s.heap.get? b = some o → h'.get? b = some o) → EP X pins σ Q (.str y.shown t) { s with heap := h', toks := tk } := fun {h' tk t} hk => ⟨.str _, H, I.kept (t' := tk) hk, ⟨t, rfl⟩, q _ H (Ext.refl H) rfl⟩
      have un := c.room.units
      have ref : ∀ {l : Addr} {as : List Addr}, u2 = .ref l → Reads s.heap (.ref l) y as → (y.hasDict = true → sysModules ∉ as) → wpAny (model X.prog X.w) X.A (call (.builtin "repr") [u2]) (EP X pins σ Q) X.xe s := fun {l as} e rd hsm => by
        subst e
        exact repr_of_reads' rd h1 hsm c.gd (by omega) (fun _ _ z => z) (fun h' u tk hk => fin hk) hsz
      obtain ⟨as, ra⟩ := Sh.reads I.hok I.kIn y sh1 r1
      cases y with
      | none =>
        obtain rfl : u = .non := sh1
        cases r1
        exact PySem.P.repr_of_none (fin fun _ _ z => z)
      | bool b =>
        obtain rfl : u = .bl b := sh1
        cases r1
        exact PySem.P.repr_of_bool (fin fun _ _ z => z)
      | int i =>
        obtain rfl : u = .int i := sh1
        obtain ⟨t, rfl⟩ := r1
        exact PySem.P.repr_of_int (by simpa [PyData.showable] using h1) (fin fun _ _ z => z)
      | str z =>
        obtain rfl : u = .str z := sh1
        obtain ⟨t, rfl⟩ := r1
        exact PySem.P.repr_of_str (fin fun _ _ z => z) hsz
      | list ys =>
        obtain ⟨p, vs, rfl, _⟩ := sh1
        cases r1
        refine ref rfl ra fun hd => ?_
        rw [hd] at h4
        simp [isE] at h4
      | tuple ys =>
        obtain ⟨p, vs, rfl, _⟩ := sh1
        cases r1
        refine ref rfl ra fun hd => ?_
        rw [hd] at h4
        simp [isE] at h4
      | dict kvs =>
        obtain ⟨p, ks, rfl, rd, _⟩ := sh1
        cases r1
        cases kvs with
        | cons x r => simp [isE, PyData.hasDict] at h4
        | nil =>
          have hne := (dk_rd I.hok rd).2.1
          refine ref rfl ra fun _ hm => ?_
          cases ra with
          | dict e1 e2 e3 e4 e5 =>
            rw [ra_nil_as e4, ra_nil_as e5] at hm
            rw [List.mem_singleton.mp hm] at hne
            exact absurd hne (by simp)
    · cases hs
  · cases hs
/-- int(x), abs(x), max(x, y), str(n) -/
def intP : List PyData → Option (Tg × PyData)
  | [.int i] => some (.pure, .int i)
  | _ => none
theorem sem_intT : CallSem X (.type "int") intP := by
  intro ds xs H t d Q sh hs q
  unfold intP at hs
  split at hs
  · rename_i i
    cases hs
    obtain ⟨u, r, rfl, h1, rfl⟩ := sh
    obtain rfl : u = .int i := h1
    exact CallRun.of call_int1 (.inl ⟨i, rfl, q _ H (Ext.refl H) rfl⟩)
  · cases hs
def maxP : List PyData → Option (Tg × PyData)
  | [.int i, .int j] => some (.pure, .int (if j > i then j else i))
  | _ => none
theorem sem_max (c : Ct X k) : CallSem X (.builtin "max") maxP := by
  intro ds xs H t d Q sh hs q
  unfold maxP at hs
  split at hs
  · rename_i i j
    cases hs
    obtain ⟨u, r, rfl, h1, u2, r2, rfl, h2, rfl⟩ := sh
    obtain rfl : u = .int i := h1
    obtain rfl : u2 = .int j := h2
    exact CallRun.of (call_max2 c.calm) ⟨i, j, rfl, q _ H (Ext.refl H) rfl⟩
  · cases hs
def absP : List PyData → Option (Tg × PyData)
  | [.int i] => some (.pure, .int (if i < 0 then -i else i))
  | _ => none
theorem sem_abs : CallSem X (.builtin "abs") absP := by
  intro ds xs H t d Q sh hs q
  unfold absP at hs
  split at hs
  · rename_i i
    cases hs
    obtain ⟨u, r, rfl, h1, rfl⟩ := sh
    obtain rfl : u = .int i := h1
    exact CallRun.of call_abs ⟨i, rfl, q _ H (Ext.refl H) rfl⟩
  · cases hs
def strP : List PyData → Option (Tg × PyData)
  | [.int i] => if i.natAbs.log2 < 1920 then some (.pure, .str (toString i)) else none
  | _ => none
theorem sem_str : CallSem X (.type "str") strP := by
  intro ds xs H t d Q sh hs q
  unfold strP at hs
  split at hs
  · rename_i i
    split at hs
    · rename_i hz
      cases hs
      obtain ⟨u, r, rfl, h1, rfl⟩ := sh
      obtain rfl : u = .int i := h1
      exact CallRun.of call_str_int ⟨i, rfl, hz, q _ H (Ext.refl H) rfl⟩
    · cases hs
  · cases hs
/-- list(x), tuple(x) -/
def listP : List PyData → Option (Tg × PyData)
  | [.list xs] => some (.fresh, .list xs)
  | [.tuple xs] => some (.fresh, .list xs)
  | _ => none
def tupleP : List PyData → Option (Tg × PyData)
  | [.list xs] => some (.pure, .tuple xs)
  | [.tuple xs] => some (.pure, .tuple xs)
  | _ => none
theorem sem_list : CallSem X (.type "list") listP := by
  intro ds xs H t d Q sh hs q
  unfold listP at hs
  split at hs
  · rename_i ys
    cases hs
    obtain ⟨u, r, rfl, ⟨p, vs, rfl, r1, a1⟩, rfl⟩ := sh
    refine CallRun.of call_list_of ⟨p, vs, rfl, .inl r1, fun l hl => ?_⟩
    have ex : Ext H (upd H l (.lst vs)) := Ext.new hl
    exact q _ _ ex ⟨l, rfl, ⟨vs, upd_same, a1.mono ex.fz⟩, hl⟩
  · rename_i ys
    cases hs
    obtain ⟨u, r, rfl, ⟨p, vs, rfl, r1, a1⟩, rfl⟩ := sh
    refine CallRun.of call_list_of ⟨p, vs, rfl, .inr r1, fun l hl => ?_⟩
    have ex : Ext H (upd H l (.lst vs)) := Ext.new hl
    exact q _ _ ex ⟨l, rfl, ⟨vs, upd_same, a1.mono ex.fz⟩, hl⟩
  · cases hs
theorem sem_tuple : CallSem X (.type "tuple") tupleP := by
  intro ds xs H t d Q sh hs q
  unfold tupleP at hs
  split at hs
  · rename_i ys
    cases hs
    obtain ⟨u, r, rfl, ⟨p, vs, rfl, r1, a1⟩, rfl⟩ := sh
    refine CallRun.of call_tuple_of ⟨p, vs, rfl, .inl ⟨r1, fun l hl => ?_⟩⟩
    have ex : Ext H (upd H l (.tup vs)) := Ext.new hl
    exact q _ _ ex ⟨l, vs, rfl, SqT.of upd_same, a1.mono ex.fz⟩
  · rename_i ys
    cases hs
    obtain ⟨u, r, rfl, ⟨p, vs, rfl, r1, a1⟩, rfl⟩ := sh
    exact CallRun.of call_tuple_of ⟨p, vs, rfl, .inr ⟨r1, q _ H (Ext.refl H) ⟨p, vs, rfl, r1, a1⟩⟩⟩
  · cases hs
end
end PP
set_option Elab.async false
set_option linter.all false
set_option maxRecDepth 100000
set_option maxHeartbeats 4000000
namespace PP
open PySem L2 PySem.Spec PyProof.Rows
/-! ### isinstance -/
inductive Ty where
  | int | bool | str | list | tuple | dict
  deriving DecidableEq
def Ty.nm : Ty → String
  | .int => "int" | .bool => "bool" | .str => "str" | .list => "list" | .tuple => "tuple" | .dict => "dict"
def tyN : PyData → String
  | .none => "NoneType" | .bool _ => "bool" | .int _ => "int" | .str _ => "str" | .list _ => "list" | .tuple _ => "tuple" | .dict _ => "dict"
def isTy : Ty → PyData → Bool
  | .int, .int _ => true
  | .int, .bool _ => true
  | .bool, .bool _ => true
  | .str, .str _ => true
  | .list, .list _ => true
  | .tuple, .tuple _ => true
  | .dict, .dict _ => true
  | _, _ => false
theorem kit_is (t : Ty) (d : PyData) : kitB (tyN d) t.nm = some (isTy t d) := by
  cases t <;> cases d <;> (simp only [tyN, Ty.nm, isTy]; decide +kernel)
theorem sh_ty {K : PySem.W.Frag} {H : Hp} : ∀ {d : PyData} {u : V}, Sh K H d u → TyX K H u (.type (tyN d))
  | .none, u, h => by obtain rfl : u = .non := h; exact .base .non
  | .bool b, u, h => by obtain rfl : u = .bl b := h; exact .base (.bl b)
  | .int i, u, h => by obtain rfl : u = .int i := h; exact .base (.int i)
  | .str z, u, h => by obtain rfl : u = .str z := h; exact .base (.str z)
  | .list ds, u, ⟨p, vs, e, r, _⟩ => by
    subst e
    rcases r with (r | ⟨o, r⟩) | ⟨o, its, n, hk, hc, _⟩
    · exact .base (.lst r)
    · exact .base (.frz r)
    · exact .kList hk hc
  | .tuple ds, u, ⟨p, vs, e, r, _⟩ => by
    subst e
    rcases r with (r | ⟨o, r⟩) | ⟨o, its, n, hk, hc, _⟩
    · exact .base (.tup r)
    · exact .fTuple r
    · exact .kTuple hk hc
  | .dict kvs, u, ⟨p, ks, e, r, _⟩ => by
    subst e
    rcases r with r | ⟨o, r⟩
    · exact .base (.dK r)
    · exact .fDict r
def fIsi (t : Ty) (f : FE) : FE := fun sl S => bindE (f sl S) fun _ v S1 => match cont S1 v with
  | some d => some (.val .pure (.py (.bool (isTy t d))) S1)
  | none => none
def fIsi2 (t1 t2 : Ty) (f : FE) : FE := fun sl S => bindE (f sl S) fun _ v S1 => match cont S1 v with
  | some d => some (.val .pure (.py (.bool (isTy t1 d || isTy t2 d))) S1)
  | none => none
section
variable {X : Cx} {e : Expr} {f : FE} {p q q1 q2 pos : Pos} {k : Nat}
theorem den_isi {t : Ty} {T : Str} (h : Den X e f) (hi : Gl X "isinstance") (mi : X.mg "isinstance" = none) (hg : Gl X T) (hm : X.mg T = none) (hv : bootBuiltins T = some (.type t.nm)) (hn : T ≠ "__name__") (hdb : (T == ("__debug__" : Str)) = false)
    (h1 : starEach [e, .Name T q] X.env = (false, eval e X.env) :: starEach [.Name T q] X.env) (h2 : starEach [.Name T q] X.env = (false, eval (.Name T q) X.env) :: starEach [] X.env) (hpl : (backTo pos (starEach [.Name T q] X.env)).any (·.1) = false) :
    Den X (.Call (.Name "isinstance" p) [e, .Name T q] [] pos) (fIsi t f) := by
  refine .mk ?_; intro H0 φ0 φ σ H sl S r R hf Q W tk post
  refine wE.of (pe_callB call_isi hi mi (by decide +kernel) (pa_cons wE.pe (pa_cons (pe_bltn (v := .ty t.nm) hg hm hv rfl hn hdb) pa_nil h2) h1) (by decide) (by decide) h1 hpl) ?_
  refine den_then h R tk hf post fun t1 v1 S1 u1 H1 φ1 hk R1 l1 rv1 post1 => ?_
  split at hk
  · rename_i d hc
    cases hk
    exact ⟨u1, .ty t.nm, _, _, isTy t d, rfl, .ty _, sh_ty (rv1.sh R1 hc), kit_ty (kit_is t d), post1 _ H1 φ1 R1 (Le.refl _ _) rfl (fun z => nomatch z)⟩
  · cases hk
theorem den_isi2 {t1 t2 : Ty} {T1 T2 : Str} {n : Nat} {tp : Pos} (h : Den X e f) (hi : Gl X "isinstance") (mi : X.mg "isinstance" = none)
    (hg1 : Gl X T1) (hm1 : X.mg T1 = none) (hv1 : bootBuiltins T1 = some (.type t1.nm)) (hn1 : T1 ≠ "__name__") (hdb1 : (T1 == ("__debug__" : Str)) = false)
    (hg2 : Gl X T2) (hm2 : X.mg T2 = none) (hv2 : bootBuiltins T2 = some (.type t2.nm)) (hn2 : T2 ≠ "__name__") (hdb2 : (T2 == ("__debug__" : Str)) = false)
    (h1 : starEach [e, .Tuple [.Name T1 q1, .Name T2 q2] n tp] X.env = (false, eval e X.env) :: starEach [.Tuple [.Name T1 q1, .Name T2 q2] n tp] X.env)
    (h2 : starEach [.Tuple [.Name T1 q1, .Name T2 q2] n tp] X.env = (false, eval (.Tuple [.Name T1 q1, .Name T2 q2] n tp) X.env) :: starEach [] X.env)
    (h3 : starEach [.Name T1 q1, .Name T2 q2] X.env = (false, eval (.Name T1 q1) X.env) :: starEach [.Name T2 q2] X.env) (h4 : starEach [.Name T2 q2] X.env = (false, eval (.Name T2 q2) X.env) :: starEach [] X.env)
    (hpl : (backTo pos (starEach [.Tuple [.Name T1 q1, .Name T2 q2] n tp] X.env)).any (·.1) = false) :
    Den X (.Call (.Name "isinstance" p) [e, .Tuple [.Name T1 q1, .Name T2 q2] n tp] [] pos) (fIsi2 t1 t2 f) := by
  refine .mk ?_; intro H0 φ0 φ σ H sl S r R hf Q W tk post
  refine wE.of (pe_callB call_isiT hi mi (by decide +kernel) (pa_cons wE.pe (pa_cons (pe_tup (pa_cons (pe_bltn (v := .ty t1.nm) hg1 hm1 hv1 rfl hn1 hdb1) (pa_cons (pe_bltn (v := .ty t2.nm) hg2 hm2 hv2 rfl hn2 hdb2) pa_nil h4) h3)) pa_nil h2) h1) (by decide) (by decide) h1 hpl) ?_
  refine den_then h R tk hf post fun t0 v1 S1 u1 H1 φ1 hk R1 l1 rv1 post1 => ?_
  split at hk
  · rename_i d hc
    cases hk
    refine ⟨by show 2 ≤ sizeLine; decide, fun l hl => ?_⟩
    have ex : Ext H1 (upd H1 l (.tup [.ty t1.nm, .ty t2.nm])) := Ext.new hl
    refine ⟨u1, l, [.ty t1.nm, .ty t2.nm], .type (tyN d), [.type t1.nm, .type t2.nm], isTy t1 d || isTy t2 d, rfl, upd_same, .cons (.ty _) (.cons (.ty _) .nil), sh_ty ((rv1.le ex.le).sh (R1.ext ex) hc), ?_, post1 _ _ φ1 (R1.ext ex) ex.le rfl (fun z => nomatch z)⟩
    refine kitAny_cons (kit_ty (kit_is t1 d)) (fun e1 => kitAny_cons (kit_ty (kit_is t2 d)) (fun e2 => ?_) fun e2 => ?_) fun e1 => ?_
    · rw [e1, e2]
      exact kitAny_nil
    · rw [e2, Bool.or_true]
    · rw [e1, Bool.true_or]
  · cases hk
end
end PP
set_option Elab.async false
set_option linter.all false
set_option maxRecDepth 100000
set_option maxHeartbeats 4000000
namespace PP
open PySem L2 PySem.Spec PyProof.Rows
/-! ## defs -/
abbrev FF := List Vl → SS → Option ER
structure BoxOk (K : PySem.W.Frag) (φ : List Addr) (H : Hp) (S : SS) : Prop where
  blen : φ.length = S.length
  nd : φ.Nodup
  box : ∀ (k : Nat) (a : Addr) (d : PyData), φ[k]? = some a → S[k]? = some d → Own1 K H a d
def RpVs (K : PySem.W.Frag) (mg : Str → Option Value) (H : Hp) (φ : List Addr) : List Vl → List V → Prop
  | [], us => us = []
  | v :: vs, us => ∃ u r, us = u :: r ∧ RpV K mg H φ v u ∧ RpVs K mg H φ vs r
theorem RpVs.len {K : PySem.W.Frag} {mg : Str → Option Value} {H : Hp} {φ : List Addr} : ∀ {as : List Vl} {us : List V}, RpVs K mg H φ as us → us.length = as.length
  | [], _, h => by cases h; rfl
  | _ :: _, _, ⟨u, r, e, _, b⟩ => by subst e; exact congrArg (· + 1) (RpVs.len b)
theorem RpVs.get {K : PySem.W.Frag} {mg : Str → Option Value} {H : Hp} {φ : List Addr} : ∀ {as : List Vl} {us : List V} {i : Nat} {v : Vl}, RpVs K mg H φ as us → as[i]? = some v → ∃ u, us[i]? = some u ∧ RpV K mg H φ v u
  | _ :: _, _, 0, _, ⟨u, r, e, a, _⟩, h => by subst e; cases h; exact ⟨u, rfl, a⟩
  | _ :: _, _, i + 1, _, ⟨u, r, e, _, b⟩, h => by subst e; exact RpVs.get (i := i) b h
/-- what a def hands back: what stands, or a new object -/
def RF (K : PySem.W.Frag) (mg : Str → Option Value) (H H' : Hp) (φ' : List Addr) : Tg → Vl → V → Prop
  | .pure, v, u => RpV K mg H' φ' v u
  | _, .py d, u => ∃ p, u = .ref p ∧ Own1 K H' p d ∧ H p = none ∧ p ∉ φ'
  | _, _, _ => False
def PostF (K : PySem.W.Frag) (mg : Str → Option Value) (φ : List Addr) (H : Hp) (Q : VK) (E : XK) : ER → Prop
  | .val t v S' => ∀ u H' φ', Le φ H φ' H' → BoxOk K φ' H' S' → RF K mg H H' φ' t v u → Q u H'
  | .exn c d S' => ∀ C dx H' φ', Le φ H φ' H' → BoxOk K φ' H' S' → ExAt K mg H' c d C dx → E (.ref C) (some dx) H'
/-- what a def promises: what its denotation says -/
def spF (K : PySem.W.Frag) (mg : Str → Option Value) (F : FF) (n : Nat) : Sp := fun vs H Q E =>
  ∃ (φ : List Addr) (S : SS) (as : List Vl) (r : ER), as.length = n ∧ RpVs K mg H φ as vs ∧ BoxOk K φ H S ∧ F as S = some r ∧ PostF K mg φ H Q E r
/-- a def keeps its promise (where nothing is being shown as a text around) -/
structure FnG (P : Program) (w : World) (K : PySem.W.Frag) (mg : Str → Option Value) (base : Heap) (k : Nat) (f : Addr) (fd : FuncData) (ps : List Str) (sp : Sp) : Prop where
  len : ∀ vs H Q E, sp vs H Q E → vs.length = ps.length
  run : ∀ (A : Around) (outer : List Env) (s : Shared) (H : Hp) (args : Args) (us : List Value) (vs : List V) (Q : VK) (E : XK), Room k A → A.guards = some [] → Env0 P w K mg base A outer s H →
    BindsTo s fd args (ps.zip us) → Vals vs us → sp vs H Q E → codeAny (model P w) A (.call (.ref f) args) (CR (L2.CX P w) outer P w H s Q E) s
structure CallOk (X : Cx) (k : Nat) (f : Str) (n : Nat) (F : FF) : Prop where
  ex : ∃ (fa : Addr) (fd : FuncData) (ps : List Str), ps.length = n ∧ X.mg f = some (.ref fa) ∧ PySem.W.keepIn X.K (.ref fa) = true ∧ Binds X.K fd ps [] ∧ FnG X.prog X.w X.K X.mg X.base k fa fd ps (spF X.K X.mg F ps.length)
/-- the values of arguments -/
def argsOf : List (Tg × Vl) → Option (List Vl)
  | [] => some []
  | (.pure, v) :: r => match argsOf r with
    | some vs => some (v :: vs)
    | none => none
  | _ :: _ => none
theorem RVs.args {K : PySem.W.Frag} {mg : Str → Option Value} {H0 H : Hp} {φ : List Addr} {σ : L2.St} {sl : Sl} : ∀ {xs : List (Tg × Vl)} {us : List V} {as : List Vl}, RVs K mg H0 H φ σ sl xs us → argsOf xs = some as → RpVs K mg H φ as us
  | [], _, _, h, e => by cases e; exact h
  | (.pure, v) :: r, _, as, ⟨u, t, e, a, b⟩, h => by
    unfold argsOf at h
    split at h
    · rename_i as' h1
      cases h
      exact ⟨u, t, e, a, RVs.args b h1⟩
    · cases h
  | (.fresh, _) :: r, _, _, _, h => by cases h
  | (.mine, _) :: r, _, _, _, h => by cases h
def fCallF (n : Nat) (F : FF) (g : FA) : FE := fun sl S => match g sl S with
  | some (.vals xs S1) => match argsOf xs with
    | some as => if as.length = n then match F as S1 with
        | some (.val .pure v S2) => some (.val .pure v S2)
        | some (.val _ v S2) => some (.val .fresh v S2)
        | some (.exn c d S2) => some (.exn c d S2)
        | none => none
      else none
    | none => none
  | some (.exn c d S1) => some (.exn c d S1)
  | none => none
section
variable {X : Cx} {e : Expr} {es : List Expr} {g : FA} {p pos : Pos} {x : Str} {k k' n : Nat} {F : FF}
theorem Rel.boxOk {K : PySem.W.Frag} {mg : Str → Option Value} {H0 H : Hp} {φ0 φ : List Addr} {σ : L2.St} {sl : Sl} {S : SS} (R : Rel K mg H0 φ0 φ σ H sl S) : BoxOk K φ H S := ⟨R.blen, R.nd, R.box⟩
/-- the callee runs -/
theorem run_g {fa : Addr} {fd : FuncData} {ps : List Str} {sp : Sp} {W : WX} {pins : List (Addr × Obj)} {σ : L2.St} {H : Hp} {s : Shared} {Q : VK} {us : List Value} {vs : List V} (G : FnG X.prog X.w X.K X.mg X.base k fa fd ps sp) (c : Ct X k') (hk : k ≤ k') (hb : Binds X.K fd ps []) (tk : Takes X W)
    (I : Inv X pins σ H s) (r : Vals vs us) (h : sp vs H Q fun cl d H' => W cl d σ H') : wpAny (model X.prog X.w) X.A (call (.ref fa) us) (EP X pins σ Q) X.xe s := by
  have hl : us.length = ps.length := by rw [← r.length]; exact G.len _ _ _ _ h
  have b := hb s us I.kIn (by rw [List.append_nil]; exact hl)
  rw [List.append_nil] at b
  refine wpAny_call (codeAny_mono (G.run X.A X.stack s H ⟨us, []⟩ us vs Q _ (c.room.mono hk) c.gd I.env0 b r h) fun r s' hq => ?_)
  match r, hq with
  | .error er, hq => exact tk er s' (XE.of_call I (fun _ _ _ z => z) hq)
  | .ok (.ret u), hq => exact I.after hq
theorem callF_go {fa : Addr} {fd : FuncData} {ps : List Str} (h : DenA X es g)
    {H0 : Hp} {φ0 φ : List Addr} {σ : L2.St} {H : Hp} {sl : Sl} {S : SS} {r : ER} {Q : VK} {W : WX} (R : Rel X.K X.mg H0 φ0 φ σ H sl S) (tk : Takes X W) (hf : fCallF n F g sl S = some r) (post : Post X H0 φ0 φ σ H sl Q W r) :
    wA X es σ H fun vs H1 => spF X.K X.mg F n vs H1 Q fun cl d H' => W cl d σ H' := by
  unfold fCallF at hf
  split at hf
  · rename_i xs S1 h1
    split at hf
    · rename_i as h2
      split at hf
      · rename_i hn
        refine h H0 φ0 φ σ H sl S _ R h1 _ W tk fun us H1 φ1 R1 l1 rvs => ?_
        have post1 := Post.le l1 R1 post
        have fin : ∀ {H' φ' S'}, Le φ1 H1 φ' H' → BoxOk X.K φ' H' S' → Rel X.K X.mg H0 φ0 φ' σ H' sl S' := fun {H' φ' S'} l b => R1.le l b.blen b.nd b.box
        split at hf
        · rename_i v S2 h3
          cases hf
          exact ⟨φ1, S1, as, _, hn, rvs.args h2, R1.boxOk, h3, fun u H' φ' l b rp => post1 u H' φ' (fin l b) l rp (fun z => nomatch z)⟩
        · rename_i t v S2 hne h3
          cases hf
          refine ⟨φ1, S1, as, _, hn, rvs.args h2, R1.boxOk, h3, fun u H' φ' l b rp => ?_⟩
          obtain ⟨d, p, rfl, hv, o, n, nb⟩ : ∃ d p, u = .ref p ∧ v = .py d ∧ Own1 X.K H' p d ∧ H1 p = none ∧ p ∉ φ' := by
            cases t with
            | pure => exact (hne rfl).elim
            | fresh =>
              cases v with
              | py d => obtain ⟨p, e, o, n, nb⟩ := rp; exact ⟨d, p, e, rfl, o, n, nb⟩
              | _ => exact rp.elim
            | mine =>
              cases v with
              | py d => obtain ⟨p, e, o, n, nb⟩ := rp; exact ⟨d, p, e, rfl, o, n, nb⟩
              | _ => exact rp.elim
          subst hv
          refine post1 _ H' φ' (fin l b) l ⟨p, rfl, o, R1.fresh0 n, nb, fun i d' h g => ?_⟩ (fun _ q e => by cases e; exact n)
          obtain ⟨q, e1, e2, _⟩ := R1.slots i _ h
          rw [g] at e1
          cases e1
          obtain ⟨o', eo, _⟩ := e2.mu
          rw [n] at eo
          cases eo
        · rename_i c' d S2 h3
          cases hf
          exact ⟨φ1, S1, as, _, hn, rvs.args h2, R1.boxOk, h3, fun C dx H' φ' l b ex => post1 C dx H' φ' (fin l b) l ex⟩
        · cases hf
      · cases hf
    · cases hf
  · rename_i c' d S1 h1
    cases hf
    exact h H0 φ0 φ σ H sl S _ R h1 _ W tk post
  · cases hf
/-- f(e, ..) -/
theorem den_call (C : CallOk X k x n F) (c : Ct X k') (hk : k ≤ k') (hg : Gl X x) (h : DenA X (e :: es) g) (hdb : (x == ("__debug__" : Str)) = false)
    (he : starEach (e :: es) X.env = (false, eval e X.env) :: starEach es X.env) (hpl : (backTo pos (starEach es X.env)).any (·.1) = false) : Den X (.Call (.Name x p) (e :: es) [] pos) (fCallF n F g) := by
  refine .mk ?_; intro H0 φ0 φ σ H sl S r R hf Q W tk post pins s I
  obtain ⟨fa, fd, ps, hn, hm, kp, hb, G⟩ := C.ex
  rw [hn] at G
  refine wpAny_Call_Name_kw (ld_glob I hg hm ?_ hdb)
  refine PySem.W.callWith_K (h₀ := X.base) I.ok.mod.kin kp (thn (callF_go (fa := fa) (fd := fd) (ps := ps) h R tk hf post pos pins s I) fun us s1 hu => ?_) he hpl
  obtain ⟨vs, H1, I1, rv, q⟩ := hu
  exact ⟨I1.kIn, run_g G c hk hb tk I1 rv q⟩
end
end PP
set_option Elab.async false
set_option linter.all false
set_option maxRecDepth 100000
set_option maxHeartbeats 4000000
namespace PP
open PySem L2
/-! ## statements -/
def wSs (X : Cx) (st : List Stmt) : TS := fun D σ H => ∀ (pins : List (Addr × Obj)) (s : Shared), Inv X pins σ H s → wpAny (model X.prog X.w) X.A (execs st X.env) (SP X pins D) X.xe s
theorem wSs.pss {X : Cx} {st : List Stmt} : PSs X st (wSs X st) := ⟨fun pins s σ H D I h => h pins s I⟩
theorem wSs.of {X : Cx} {st : List Stmt} {t : TS} {D : Ends} {σ : L2.St} {H : Hp} (h : PSs X st t) (q : t D σ H) : wSs X st D σ H := fun pins s I => h.run pins s σ H D I q
def wS1 (X : Cx) (st : Stmt) : TS := fun D σ H => ∀ (pins : List (Addr × Obj)) (s : Shared), Inv X pins σ H s → wpAny (model X.prog X.w) X.A (exec st X.env) (SP X pins D) X.xe s
theorem wS1.ps {X : Cx} {st : Stmt} : PS X st (wS1 X st) := ⟨fun pins s σ H D I h => h pins s I⟩
theorem wS1.of {X : Cx} {st : Stmt} {t : TS} {D : Ends} {σ : L2.St} {H : Hp} (h : PS X st t) (q : t D σ H) : wS1 X st D σ H := fun pins s I => h.run pins s σ H D I q

def PostS (X : Cx) (H0 : Hp) (φ0 : List Addr) (H : Hp) (D : Ends) (W : WX) : SR → Prop
  | .nx sl S => ∀ σ' H' φ', Rel X.K X.mg H0 φ0 φ' σ' H' sl S → Fz H H' → D.nx σ' H'
  | .bk sl S => ∀ σ' H' φ', Rel X.K X.mg H0 φ0 φ' σ' H' sl S → Fz H H' → D.bk σ' H'
  | .ct sl S => ∀ σ' H' φ', Rel X.K X.mg H0 φ0 φ' σ' H' sl S → Fz H H' → D.ct σ' H'
  | .rt t v S => ∀ u σ' H' φ' sl', Rel X.K X.mg H0 φ0 φ' σ' H' sl' S → Fz H H' → RF X.K X.mg H0 H' φ' t v u → D.rt u H'
  | .exn c d sl S => ∀ C dx σ' H' φ', Rel X.K X.mg H0 φ0 φ' σ' H' sl S → Fz H H' → ExAt X.K X.mg H' c d C dx → W (.ref C) (some dx) σ' H'
theorem PostS.fz {X : Cx} {H0 : Hp} {φ0 : List Addr} {H H1 : Hp} {D : Ends} {W : WX} {r : SR} (z : Fz H H1) (p : PostS X H0 φ0 H D W r) : PostS X H0 φ0 H1 D W r := by
  cases r with
  | nx sl S => exact fun σ' H' φ' R z' => p σ' H' φ' R (z.trans z')
  | bk sl S => exact fun σ' H' φ' R z' => p σ' H' φ' R (z.trans z')
  | ct sl S => exact fun σ' H' φ' R z' => p σ' H' φ' R (z.trans z')
  | rt t v S => exact fun u σ' H' φ' sl' R z' => p u σ' H' φ' sl' R (z.trans z')
  | exn c d sl S => exact fun C dx σ' H' φ' R z' => p C dx σ' H' φ' R (z.trans z')
def DenS1_ (X : Cx) (st : Stmt) (f : FS) : Prop :=
  ∀ (H0 : Hp) (φ0 φ : List Addr) (σ : L2.St) (H : Hp) (sl : Sl) (S : SS) (r : SR), Rel X.K X.mg H0 φ0 φ σ H sl S → f sl S = some r →
    ∀ (D : Ends) (W : WX), Takes X W → PostS X H0 φ0 H D W r → wS1 X st D σ H
structure DenS1 (X : Cx) (st : Stmt) (f : FS) : Prop where
  run : DenS1_ X st f
instance {X : Cx} {st : Stmt} {f : FS} : CoeFun (DenS1 X st f) (fun _ => DenS1_ X st f) := ⟨DenS1.run⟩
def DenS_ (X : Cx) (st : List Stmt) (f : FS) : Prop :=
  ∀ (H0 : Hp) (φ0 φ : List Addr) (σ : L2.St) (H : Hp) (sl : Sl) (S : SS) (r : SR), Rel X.K X.mg H0 φ0 φ σ H sl S → f sl S = some r →
    ∀ (D : Ends) (W : WX), Takes X W → PostS X H0 φ0 H D W r → wSs X st D σ H
structure DenS (X : Cx) (st : List Stmt) (f : FS) : Prop where
  run : DenS_ X st f
instance {X : Cx} {st : List Stmt} {f : FS} : CoeFun (DenS X st f) (fun _ => DenS_ X st f) := ⟨DenS.run⟩
def bindS (o : Option ER) (sl : Sl) (k : Tg → Vl → SS → Option SR) : Option SR :=
  match o with
  | some (.val t v S) => k t v S
  | some (.exn c d S) => some (.exn c d sl S)
  | none => none
theorem bindS_some {o : Option ER} {sl : Sl} {k : Tg → Vl → SS → Option SR} {r : SR} (h : bindS o sl k = some r) : (∃ t v S, o = some (.val t v S) ∧ k t v S = some r) ∨ ∃ c d S, o = some (.exn c d S) ∧ r = .exn c d sl S := by
  match o, h with
  | some (.val t v S), h => exact .inl ⟨t, v, S, rfl, h⟩
  | some (.exn c d S), h => cases h; exact .inr ⟨c, d, S, rfl, rfl⟩
/-- an expression of a statement -/
theorem den_thenS {X : Cx} {e : Expr} {f : FE} {H0 : Hp} {φ0 φ : List Addr} {σ : L2.St} {H : Hp} {sl : Sl} {S : SS} {r : SR} {k : Tg → Vl → SS → Option SR} {D : Ends} {W : WX} {Q' : VK} (h : Den X e f) (R : Rel X.K X.mg H0 φ0 φ σ H sl S) (tk : Takes X W)
    (hf : bindS (f sl S) sl k = some r) (post : PostS X H0 φ0 H D W r)
    (go : ∀ t v S1 u H1 φ1, k t v S1 = some r → Rel X.K X.mg H0 φ0 φ1 σ H1 sl S1 → Le φ H φ1 H1 → RV X.K X.mg H0 H1 φ1 σ sl t v u → (t = .fresh → ∀ p, u = .ref p → H p = none) → Q' u H1) : wE X e σ H Q' := by
  rcases bindS_some hf with ⟨t, v, S1, h1, h2⟩ | ⟨c, d, S1, h1, rfl⟩
  · exact h H0 φ0 φ σ H sl S _ R h1 _ W tk fun u H1 φ1 R1 l1 rv fr => go t v S1 u H1 φ1 h2 R1 l1 rv fr
  · exact h H0 φ0 φ σ H sl S _ R h1 _ W tk fun C dx H' φ' R' l' ex => post C dx σ H' φ' R' l'.fz ex
section
variable {X : Cx} {st : Stmt} {rest : List Stmt} {e : Expr} {f g : FS} {fe : FE} {ft : FT} {pos : Pos} {i : Nat} {x : Str}
def fNil : FS := fun sl S => some (.nx sl S)
def fThen (f g : FS) : FS := fun sl S => match f sl S with
  | some (.nx sl' S') => g sl' S'
  | r => r
theorem denS_nil : DenS X [] fNil := by
  refine .mk ?_; intro H0 φ0 φ σ H sl S r R hf D W tk post
  cases hf
  exact wSs.of pss_nil (post σ H φ R (Fz.refl _))
theorem denS_cons (h : DenS1 X st f) (hs : DenS X rest g) : DenS X (st :: rest) (fThen f g) := by
  refine .mk ?_; intro H0 φ0 φ σ H sl S r R hf D W tk post
  refine wSs.of (pss_cons wS1.ps wSs.pss) ?_
  unfold fThen at hf
  split at hf
  · rename_i sl' S' h1
    exact h H0 φ0 φ σ H sl S _ R h1 _ W tk fun σ' H' φ' R' z => hs H0 φ0 φ' σ' H' sl' S' r R' hf D W tk (post.fz z)
  · rename_i hn
    refine h H0 φ0 φ σ H sl S r R hf _ W tk ?_
    cases r with
    | nx sl' S' => exact absurd hf (hn sl' S')
    | bk sl S => exact post
    | ct sl S => exact post
    | rt t v S => exact post
    | exn c d sl S => exact post
def fDrop (f : FE) : FS := fun sl S => bindS (f sl S) sl fun _ _ S1 => some (.nx sl S1)
theorem denS_expr (he : Den X e fe) (hs : swapsWith e none pos.line X.env = pure false) : DenS1 X (.Expr e pos) (fDrop fe) := by
  refine .mk ?_; intro H0 φ0 φ σ H sl S r R hf D W tk post
  refine wS1.of (ps_expr wE.pe hs) (den_thenS he R tk hf post fun t v S1 u H1 φ1 hk R1 l1 rv fr => ?_)
  cases hk
  exact post σ H1 φ1 R1 l1.fz
/-! ### a value into a slot -/
def slotOf : Tg → Vl → Option Slot
  | .pure, v => some (.p v)
  | .fresh, .py d => some (.own d)
  | _, _ => none
theorem Rel.put {K : PySem.W.Frag} {mg : Str → Option Value} {H0 H : Hp} {φ0 φ : List Addr} {σ : L2.St} {sl : Sl} {S : SS} {t : Tg} {v : Vl} {u : V} {s : Slot} (R : Rel K mg H0 φ0 φ σ H sl S) (rv : RV K mg H0 H φ σ sl t v u) (hs : slotOf t v = some s) (i : Nat) :
    Rel K mg H0 φ0 φ (σ.set i (some u)) H (sl.set i s) S := by
  have new : RelS K mg H0 H φ (some (some u)) s := by
    cases t with
    | pure => cases hs; exact ⟨u, rfl, rv⟩
    | fresh =>
      cases v with
      | py d => cases hs; obtain ⟨p, e, o, h0, n, _⟩ := rv; exact ⟨p, by rw [e], o, h0, n⟩
      | _ => cases hs
    | mine => cases hs
  have nown : ∀ (j : Nat) (p : Addr) (d d' : PyData), s = .own d → sl[j]? = some (.own d') → σ[j]? = some (some (.ref p)) → u ≠ .ref p := fun j p d d' e h1 h2 e2 => by
    cases t with
    | pure => cases hs; cases e
    | fresh =>
      cases v with
      | py d0 => obtain ⟨q, e3, o, h0, n, z⟩ := rv; rw [e3] at e2; cases e2; exact z j d' h1 h2
      | _ => cases hs
    | mine => cases hs
  refine ⟨by rw [List.length_set, List.length_set, R.len], fun j s' h => ?_, fun j k p q d d' hjk h1 h2 h3 h4 => ?_, R.blen, R.box, R.nd, R.pre, R.new, R.keep⟩
  · by_cases hj : i = j
    · subst hj
      by_cases hl : i < sl.length
      · rw [List.getElem?_set_self hl] at h
        cases h
        rw [List.getElem?_set_self (by rw [R.len]; exact hl)]
        exact new
      · rw [List.getElem?_eq_none (by simpa using hl)] at h; cases h
    · rw [List.getElem?_set_ne hj] at h
      rw [List.getElem?_set_ne hj]
      exact R.slots j s' h
  · by_cases hj : i = j
    · subst hj
      have hl : i < sl.length := by
        by_cases hl : i < sl.length
        · exact hl
        · rw [List.getElem?_eq_none (by simpa using hl)] at h1; cases h1
      rw [List.getElem?_set_self hl] at h1
      rw [List.getElem?_set_self (by rw [R.len]; exact hl)] at h3
      rw [List.getElem?_set_ne hjk] at h2 h4
      cases h1
      cases h3
      intro e
      exact nown k q _ d' rfl h2 h4 (by rw [e])
    · by_cases hk : i = k
      · subst hk
        have hl : i < sl.length := by
          by_cases hl : i < sl.length
          · exact hl
          · rw [List.getElem?_eq_none (by simpa using hl)] at h2; cases h2
        rw [List.getElem?_set_self hl] at h2
        rw [List.getElem?_set_self (by rw [R.len]; exact hl)] at h4
        rw [List.getElem?_set_ne hj] at h1 h3
        cases h2
        cases h4
        intro e
        exact nown j p _ d rfl h1 h3 (by rw [e])
      · rw [List.getElem?_set_ne hj] at h1 h3
        rw [List.getElem?_set_ne hk] at h2 h4
        exact R.dist j k p q d d' hjk h1 h2 h3 h4
def fSet (i : Nat) (f : FE) : FS := fun sl S => bindS (f sl S) sl fun t v S1 => match slotOf t v with
  | some s => some (.nx (sl.set i s) S1)
  | none => none
theorem denS_set {pos' : Pos} {k : Nat} (c : Ct X k) (hi : X.N[i]? = some x) (hx : Loc X.env.scope x) (hxf : X.fn x = true ∨ X.env.scope.names.lookup x = some .local) (he : Den X e fe) (hs : swapsWith e (some (.Name x pos')) pos.line X.env = pure false) :
    DenS1 X (.Assign [.Name x pos'] e pos) (fSet i fe) := by
  refine .mk ?_; intro H0 φ0 φ σ H sl S r R hf D W tk post
  refine wS1.of (ps_set c.nd hi hx wE.pe hs hxf) (den_thenS he R tk hf post fun t v S1 u H1 φ1 hk R1 l1 rv fr => ?_)
  split at hk
  · rename_i s h1
    cases hk
    exact post _ H1 φ1 (R1.put rv h1 i) l1.fz
  · cases hk
/-! ### return, if, pass -/
def fRet (f : FE) : FS := fun sl S => bindS (f sl S) sl fun t v S1 => some (.rt t v S1)
theorem RV.rf {K : PySem.W.Frag} {mg : Str → Option Value} {H0 H : Hp} {φ : List Addr} {σ : L2.St} {sl : Sl} {t : Tg} {v : Vl} {u : V} (r : RV K mg H0 H φ σ sl t v u) : RF K mg H0 H φ t v u := by
  cases t with
  | pure => exact r
  | fresh =>
    cases v with
    | py d => obtain ⟨p, e, o, h0, n, _⟩ := r; exact ⟨p, e, o, h0, n⟩
    | _ => exact r.elim
  | mine =>
    cases v with
    | py d => obtain ⟨p, e, o, h0, n⟩ := r; exact ⟨p, e, o, h0, n⟩
    | _ => exact r.elim
theorem denS_ret (he : Den X e fe) : DenS1 X (.Return (some e) pos) (fRet fe) := by
  refine .mk ?_; intro H0 φ0 φ σ H sl S r R hf D W tk post
  refine wS1.of (ps_ret wE.pe) (den_thenS he R tk hf post fun t v S1 u H1 φ1 hk R1 l1 rv fr => ?_)
  cases hk
  exact post u σ H1 φ1 sl R1 l1.fz rv.rf
def fRetN : FS := fun _ S => some (.rt .pure (.py .none) S)
theorem denS_retN : DenS1 X (.Return none pos) fRetN := by
  refine .mk ?_; intro H0 φ0 φ σ H sl S r R hf D W tk post
  cases hf
  exact wS1.of ps_retN (post _ σ H φ sl R (Fz.refl _) rfl)
theorem denS_pass : DenS1 X (.Pass pos) fNil := by
  refine .mk ?_; intro H0 φ0 φ σ H sl S r R hf D W tk post
  cases hf
  exact wS1.of ps_pass (post σ H φ R (Fz.refl _))
def fBreak : FS := fun sl S => some (.bk sl S)
def fCont : FS := fun sl S => some (.ct sl S)
theorem denS_break : DenS1 X (.Break pos) fBreak := by
  refine .mk ?_; intro H0 φ0 φ σ H sl S r R hf D W tk post
  cases hf
  exact wS1.of ps_break (post σ H φ R (Fz.refl _))
theorem denS_cont : DenS1 X (.Continue pos) fCont := by
  refine .mk ?_; intro H0 φ0 φ σ H sl S r R hf D W tk post
  cases hf
  exact wS1.of ps_continue (post σ H φ R (Fz.refl _))
def fIfS (g : FT) (f1 f2 : FS) : FS := fun sl S => match g sl S with
  | some (.tb true S') => f1 sl S'
  | some (.tb false S') => f2 sl S'
  | some (.exn c d S') => some (.exn c d sl S')
  | none => none
theorem denS_if {c : Expr} {a b : List Stmt} (hc : DenT X c ft) (ha : DenS X a f) (hb : DenS X b g) : DenS1 X (.If c a b pos) (fIfS ft f g) := by
  refine .mk ?_; intro H0 φ0 φ σ H sl S r R hf D W tk post
  refine wS1.of (ps_if wT.pt wSs.pss wSs.pss) ?_
  unfold fIfS at hf
  split at hf
  · rename_i S' h1
    refine hc H0 φ0 φ σ H sl S _ R h1 _ W tk fun H1 φ1 R1 l1 => ?_
    show (if true = true then _ else _)
    rw [if_pos rfl]
    exact ha H0 φ0 φ1 σ H1 sl S' r R1 hf D W tk (post.fz l1.fz)
  · rename_i S' h1
    refine hc H0 φ0 φ σ H sl S _ R h1 _ W tk fun H1 φ1 R1 l1 => ?_
    show (if false = true then _ else _)
    rw [if_neg Bool.false_ne_true]
    exact hb H0 φ0 φ1 σ H1 sl S' r R1 hf D W tk (post.fz l1.fz)
  · rename_i c' d S' h1
    cases hf
    exact hc H0 φ0 φ σ H sl S _ R h1 _ W tk fun C dx H' φ' R' l' ex => post C dx σ H' φ' R' l'.fz ex
  · cases hf
end
end PP
set_option Elab.async false
set_option linter.all false
set_option maxRecDepth 100000
set_option maxHeartbeats 4000000
namespace PP
open PySem L2
/-! ## targets -/
def wG (X : Cx) (tg : Expr) : TG := fun v σ H Q => ∀ (pins : List (Addr × Obj)) (s : Shared) (u : Value), Inv X pins σ H s → RelV v u → wpAny (model X.prog X.w) X.A (assign tg X.env u) (fun _ s' => ∃ σ' H', Inv X pins σ' H' s' ∧ Q σ' H') X.xe s
theorem wG.pg {X : Cx} {tg : Expr} : PG X tg (wG X tg) := ⟨fun pins s σ H v u Q I r h => h pins s u I r⟩
theorem wG.of {X : Cx} {tg : Expr} {t : TG} {v : V} {σ : L2.St} {H : Hp} {Q : L2.St → Hp → Prop} (h : PG X tg t) (q : t v σ H Q) : wG X tg v σ H Q := fun pins s u I r => h.run pins s σ H v u Q I r q
def wGs (X : Cx) (ts : List Expr) : TGs := fun vs σ H Q => ∀ (pins : List (Addr × Obj)) (s : Shared) (us : List Value), Inv X pins σ H s → Vals vs us → wpAny (model X.prog X.w) X.A (assignInOrder ((assignEach ts X.env).map (·.2)) us) (fun _ s' => ∃ σ' H', Inv X pins σ' H' s' ∧ Q σ' H') X.xe s
theorem wGs.pgs {X : Cx} {ts : List Expr} : PGs X ts (wGs X ts) := ⟨fun pins s σ H vs us Q I r h => h pins s us I r⟩
theorem wGs.of {X : Cx} {ts : List Expr} {t : TGs} {vs : List V} {σ : L2.St} {H : Hp} {Q : L2.St → Hp → Prop} (h : PGs X ts t) (q : t vs σ H Q) : wGs X ts vs σ H Q := fun pins s us I r => h.run pins s σ H vs us Q I r q
/-- at most the slots of these numbers differ -/
def Off (is : List Nat) (σ σ' : L2.St) : Prop := σ'.length = σ.length ∧ ∀ j, j ∉ is → σ'[j]? = σ[j]?
theorem Off.refl {is : List Nat} (σ : L2.St) : Off is σ σ := ⟨rfl, fun _ _ => rfl⟩
theorem Off.trans {is js : List Nat} {σ σ1 σ2 : L2.St} (a : Off is σ σ1) (b : Off js σ1 σ2) : Off (is ++ js) σ σ2 :=
  ⟨b.1.trans a.1, fun j h => (b.2 j fun m => h (List.mem_append_right _ m)).trans (a.2 j fun m => h (List.mem_append_left _ m))⟩
theorem wipe_in {σ : L2.St} {i : Nat} : ∀ {vs : List Nat}, i ∈ vs → i < σ.length → (wipe σ vs)[i]? = some none
  | v :: vs, h, hl => by
    unfold wipe
    by_cases e : v = i
    · subst e
      rw [List.getElem?_set_self (by rw [wipe_length]; exact hl)]
    · rw [List.getElem?_set_ne e]
      exact wipe_in ((List.mem_cons.mp h).resolve_left fun z => e z.symm) hl
theorem Off.wipe {is vs : List Nat} {σ σ' : L2.St} (o : Off is σ σ') (h : ∀ i ∈ is, i ∈ vs) : wipe σ' vs = L2.wipe σ vs := by
  refine List.ext_getElem? fun j => ?_
  by_cases hj : j ∈ vs
  · by_cases hl : j < σ.length
    · rw [wipe_in hj hl, wipe_in hj (by rw [o.1]; exact hl)]
    · rw [List.getElem?_eq_none (by rw [wipe_length, o.1]; omega), List.getElem?_eq_none (by rw [wipe_length]; omega)]
  · rw [wipe_out hj, wipe_out hj]
    exact o.2 j fun m => hj (h j m)
def DenG_ (X : Cx) (tg : Expr) (is : List Nat) (g : PyData → Sl → Option Sl) : Prop :=
  ∀ (H0 : Hp) (φ0 φ : List Addr) (σ : L2.St) (H : Hp) (sl sl' : Sl) (S : SS) (d : PyData) (u : V), Rel X.K X.mg H0 φ0 φ σ H sl S → Rp X.K H d u → g d sl = some sl' →
    ∀ (Q : L2.St → Hp → Prop), (∀ σ', Rel X.K X.mg H0 φ0 φ σ' H sl' S → Off is σ σ' → Q σ' H) → wG X tg u σ H Q
structure DenG (X : Cx) (tg : Expr) (is : List Nat) (g : PyData → Sl → Option Sl) : Prop where
  run : DenG_ X tg is g
instance {X : Cx} {tg : Expr} {is : List Nat} {g : PyData → Sl → Option Sl} : CoeFun (DenG X tg is g) (fun _ => DenG_ X tg is g) := ⟨DenG.run⟩
def DenGs_ (X : Cx) (ts : List Expr) (is : List Nat) (g : List PyData → Sl → Option Sl) : Prop :=
  ∀ (H0 : Hp) (φ0 φ : List Addr) (σ : L2.St) (H : Hp) (sl sl' : Sl) (S : SS) (ds : List PyData) (us : List V), Rel X.K X.mg H0 φ0 φ σ H sl S → Rps X.K H ds us → g ds sl = some sl' →
    ∀ (Q : L2.St → Hp → Prop), (∀ σ', Rel X.K X.mg H0 φ0 φ σ' H sl' S → Off is σ σ' → Q σ' H) → wGs X ts us σ H Q
structure DenGs (X : Cx) (ts : List Expr) (is : List Nat) (g : List PyData → Sl → Option Sl) : Prop where
  run : DenGs_ X ts is g
instance {X : Cx} {ts : List Expr} {is : List Nat} {g : List PyData → Sl → Option Sl} : CoeFun (DenGs X ts is g) (fun _ => DenGs_ X ts is g) := ⟨DenGs.run⟩
section
variable {X : Cx} {pos : Pos} {x : Str} {i k n : Nat} {e tg iter : Expr} {es : List Expr} {is js : List Nat}
def gNm (i : Nat) : PyData → Sl → Option Sl := fun d sl => some (sl.set i (.p (.py d)))
theorem denG_name (c : Ct X k) (hi : X.N[i]? = some x) (hx : Loc X.env.scope x) (hxf : X.fn x = true ∨ X.env.scope.names.lookup x = some .local) : DenG X (.Name x pos) [i] (gNm i) := by
  refine .mk ?_; intro H0 φ0 φ σ H sl sl' S d u R r hg Q q
  cases hg
  refine wG.of (pg_name c.nd hi hx hxf) (q _ (R.put (t := .pure) (v := .py d) r rfl i) ⟨List.length_set, fun j hj => List.getElem?_set_ne (fun z => hj (by simp [z]))⟩)
def gsNil : List PyData → Sl → Option Sl
  | [], sl => some sl
  | _ :: _, _ => none
def gsCons (g : PyData → Sl → Option Sl) (gs : List PyData → Sl → Option Sl) : List PyData → Sl → Option Sl
  | [], _ => none
  | d :: ds, sl => match g d sl with
    | some sl' => gs ds sl'
    | none => none
theorem denGs_nil : DenGs X [] [] gsNil := by
  refine .mk ?_; intro H0 φ0 φ σ H sl sl' S ds us R r hg Q q
  cases ds with
  | cons d ds => cases hg
  | nil =>
    cases hg
    cases r
    exact wGs.of pgs_nil ⟨rfl, q σ R (Off.refl σ)⟩
theorem denGs_cons {g : PyData → Sl → Option Sl} {gs : List PyData → Sl → Option Sl} (h1 : DenG X e is g) (h2 : DenGs X es js gs) (hs : (assignEach (e :: es) X.env).map (·.2) = assign e X.env :: (assignEach es X.env).map (·.2)) : DenGs X (e :: es) (is ++ js) (gsCons g gs) := by
  refine .mk ?_; intro H0 φ0 φ σ H sl sl' S ds us R r hg Q q
  cases ds with
  | nil => cases hg
  | cons d ds =>
    obtain ⟨u, t, rfl, a, b⟩ := r
    change (match g d sl with | some sl' => gs ds sl' | none => none) = some sl' at hg
    split at hg
    · rename_i sl1 e1
      refine wGs.of (pgs_cons wG.pg wGs.pgs hs) ⟨u, t, rfl, h1 H0 φ0 φ σ H sl sl1 S d u R a e1 _ fun σ1 R1 o1 => ?_⟩
      exact h2 H0 φ0 φ σ1 H sl1 sl' S ds t R1 b hg Q fun σ2 R2 o2 => q σ2 R2 (o1.trans o2)
    · cases hg
def gTp (n : Nat) (gs : List PyData → Sl → Option Sl) : PyData → Sl → Option Sl
  | .tuple ds, sl => if ds.length = n then gs ds sl else none
  | _, _ => none
theorem denG_tup {gs : List PyData → Sl → Option Sl} {j : Nat} (c : Ct X k) (h : DenGs X es is gs) (hn : (assignEach es X.env).length = n) (hst : (assignEach es X.env).findIdx? (·.1) = none) : DenG X (.Tuple es j pos) is (gTp n gs) := by
  refine .mk ?_; intro H0 φ0 φ σ H sl sl' S d u R r hg Q q
  unfold gTp at hg
  split at hg
  · rename_i ds
    split at hg
    · rename_i hl
      obtain ⟨p, vs, rfl, sq, rs⟩ := r
      exact wG.of (pg_tup c.calm wGs.pgs hn hst) ⟨p, vs, rfl, sq, by rw [rs.len]; exact hl, h H0 φ0 φ σ H sl sl' S ds vs R rs hg Q q⟩
    · cases hg
  · cases hg

/-! ## what is walked -/
def wI (X : Cx) (tg iter : Expr) : TI := fun σ H R => ∀ (pins : List (Addr × Obj)) (s : Shared), Inv X pins σ H s →
  wpAny (model X.prog X.w) X.A (eval iter X.env) (fun v s1 => wpAny (model X.prog X.w) X.A (pyIter v) (PIE X pins σ tg R) X.xe s1) X.xe s
theorem wI.pi : PI X tg iter (wI X tg iter) := ⟨fun pins s σ H R I h => h pins s I⟩
theorem wI.of {wi : TI} {σ : L2.St} {H : Hp} {R : It → Hp → Prop} (h : PI X tg iter wi) (q : wi σ H R) : wI X tg iter σ H R := fun pins s I => h.run pins s σ H R I q
structure Walks (K : PySem.W.Frag) (J : It) (ds : List PyData) (H1 : Hp) : Prop where
  go : ∀ (i : Nat) (H : Hp), Fz H1 H → i < ds.length → J.go i H
  stop : ∀ (H : Hp), Fz H1 H → J.stop ds.length H
  yld : ∀ (i : Nat) (H : Hp) (x : V) (H' : Hp), Fz H1 H → i < ds.length → J.yld i H x H' → Ext H H' ∧ ∃ d, ds[i]? = some d ∧ Rp K H' d x
abbrev FI := Sl → SS → Option (List PyData × SS)
def DenI_ (X : Cx) (tg iter : Expr) (f : FI) : Prop :=
  ∀ (H0 : Hp) (φ0 φ : List Addr) (σ : L2.St) (H : Hp) (sl : Sl) (S : SS) (ds : List PyData) (S' : SS), Rel X.K X.mg H0 φ0 φ σ H sl S → f sl S = some (ds, S') →
    ∀ (R : It → Hp → Prop), (∀ J H1 φ1, Rel X.K X.mg H0 φ0 φ1 σ H1 sl S' → Le φ H φ1 H1 → Walks X.K J ds H1 → R J H1) → wI X tg iter σ H R
structure DenI (X : Cx) (tg iter : Expr) (f : FI) : Prop where
  run : DenI_ X tg iter f
instance {X : Cx} {tg iter : Expr} {f : FI} : CoeFun (DenI X tg iter f) (fun _ => DenI_ X tg iter f) := ⟨DenI.run⟩
theorem takes_no : Takes X (fun _ _ _ _ => False) := fun u s' ⟨_, _, _, _, _, _, _, _, _, _, _, _, _, _, _, _, w⟩ => w.elim
theorem walks_list {K : PySem.W.Frag} {H1 : Hp} {p : Addr} {vs : List V} {ds : List PyData} (q : FzK K H1 p vs) (r : Rps K H1 ds vs) : Walks K (Itl K p) ds H1 := by
  have sq : ∀ {H}, Fz H1 H → SqL K H p vs := fun {H} z => (q.mono z).sq
  refine ⟨fun i H z hi => ⟨vs, vs[i]'(by rw [r.len]; exact hi), sq z, by simp⟩, fun H z => ⟨vs, sq z, by rw [r.len]; exact Nat.le_refl _⟩, fun i H x H' z hi y => ?_⟩
  obtain ⟨rfl, y⟩ := y
  obtain ⟨d, e, a⟩ := r.get' (y vs (sq z))
  exact ⟨Ext.refl _, d, e, a.mono z⟩
theorem walks_tup {K : PySem.W.Frag} {H1 : Hp} {p : Addr} {vs : List V} {ds : List PyData} (q : SqT K H1 p vs) (r : Rps K H1 ds vs) : Walks K (Itt K p) ds H1 := by
  have sq : ∀ {H}, Fz H1 H → SqT K H p vs := fun {H} z => sqT_mono z q
  refine ⟨fun i H z hi => ⟨vs, vs[i]'(by rw [r.len]; exact hi), sq z, by simp⟩, fun H z => ⟨vs, sq z, by rw [r.len]; exact Nat.le_refl _⟩, fun i H x H' z hi y => ?_⟩
  obtain ⟨rfl, y⟩ := y
  obtain ⟨d, e, a⟩ := r.get' (y vs (sq z))
  exact ⟨Ext.refl _, d, e, a.mono z⟩
def chars (s : Str) : List PyData := s.cps.toList.map fun c => .str ⟨#[c]⟩
theorem walks_str {K : PySem.W.Frag} {H1 : Hp} {s : Str} : Walks K (Its s) (chars s) H1 := by
  have hl : (chars s).length = s.cps.size := by simp [chars]
  refine ⟨fun i H z hi => by rw [hl] at hi; exact hi, fun H z => by rw [hl]; exact Nat.le_refl _, fun i H x H' z hi y => ?_⟩
  obtain ⟨rfl, c, e, rfl⟩ := y
  refine ⟨Ext.refl _, .str ⟨#[c]⟩, ?_, rfl⟩
  unfold chars
  rw [List.getElem?_map, Array.getElem?_toList, e]
  rfl
theorem Rpk.get {K : PySem.W.Frag} {H : Hp} : ∀ {kvs : List (PyData × PyData)} {ks : List (Key × V)} {i : Nat} {k : Key} {v : V}, Rpk K H kvs ks → ks[i]? = some (k, v) → ∃ a b, kvs[i]? = some (a, b) ∧ Rp K H a (kV k) ∧ Rp K H b v
  | [], _, _, _, _, h, g => by cases h; cases g
  | (a, b) :: r, _, 0, _, _, ⟨k, v, t, e, h1, h2, h3⟩, g => by subst e; cases g; exact ⟨a, b, rfl, h1, h2⟩
  | (a, b) :: r, _, i + 1, _, _, ⟨k, v, t, e, h1, h2, h3⟩, g => by subst e; exact Rpk.get (i := i) h3 g
theorem Rpk.len {K : PySem.W.Frag} {H : Hp} : ∀ {kvs : List (PyData × PyData)} {ks : List (Key × V)}, Rpk K H kvs ks → ks.length = kvs.length
  | [], _, h => by cases h; rfl
  | (a, b) :: r, _, ⟨k, v, t, e, h1, h2, h3⟩ => by subst e; exact congrArg (· + 1) (Rpk.len h3)
theorem walks_keys {K : PySem.W.Frag} {H1 : Hp} {p : Addr} {o : Obj} {ks : List (Key × V)} {kvs : List (PyData × PyData)} (q : H1 p = some (.frz o (.dK ks))) (r : Rpk K H1 kvs ks) : Walks K (Itk p o ks) (kvs.map (·.1)) H1 := by
  have hl := r.len
  refine ⟨fun i H z hi => ⟨z _ _ q rfl, by rw [List.length_map] at hi; omega⟩, fun H z => ⟨z _ _ q rfl, by rw [List.length_map]; omega⟩, fun i H x H' z hi y => ?_⟩
  obtain ⟨rfl, k, v, e, rfl⟩ := y
  obtain ⟨a, b, e1, h1, h2⟩ := r.get e
  exact ⟨Ext.refl _, a, by rw [List.getElem?_map, e1]; rfl, h1.mono z⟩
/-- a list, a tuple, a text, a dict's keys -/
def fiSeq (f : FE) : FI := fun sl S => match f sl S with
  | some (.val .pure (.py (.list ds)) S') => some (ds, S')
  | some (.val .pure (.py (.tuple ds)) S') => some (ds, S')
  | some (.val .pure (.py (.str s)) S') => some (chars s, S')
  | some (.val .pure (.py (.dict kvs)) S') => some (kvs.map (·.1), S')
  | _ => none
theorem denI_seq {fe : FE} (h : Den X e fe) : DenI X tg e (fiSeq fe) := by
  refine .mk ?_; intro H0 φ0 φ σ H sl S ds S' R hf Rr q
  unfold fiSeq at hf
  split at hf
  · rename_i xs S1 h1
    cases hf
    refine wI.of (pi_list wE.pe) (h H0 φ0 φ σ H sl S _ R h1 _ _ takes_no fun u H1 φ1 R1 l1 rv _ => ?_)
    obtain ⟨p, vs, rfl, fz, rs⟩ := rv
    exact ⟨p, rfl, ⟨vs, fz.sq⟩, q _ H1 φ1 R1 l1 (walks_list fz rs)⟩
  · rename_i xs S1 h1
    cases hf
    refine wI.of (pi_tup wE.pe) (h H0 φ0 φ σ H sl S _ R h1 _ _ takes_no fun u H1 φ1 R1 l1 rv _ => ?_)
    obtain ⟨p, vs, rfl, sq, rs⟩ := rv
    exact ⟨p, rfl, ⟨vs, sq⟩, q _ H1 φ1 R1 l1 (walks_tup sq rs)⟩
  · rename_i s S1 h1
    cases hf
    refine wI.of (pi_str wE.pe) (h H0 φ0 φ σ H sl S _ R h1 _ _ takes_no fun u H1 φ1 R1 l1 rv _ => ?_)
    obtain rfl := rv
    exact ⟨s, rfl, q _ H1 φ1 R1 l1 walks_str⟩
  · rename_i kvs S1 h1
    cases hf
    refine wI.of (pi_keys wE.pe) (h H0 φ0 φ σ H sl S _ R h1 _ _ takes_no fun u H1 φ1 R1 l1 rv _ => ?_)
    obtain ⟨p, o, ks, rfl, hd, rk⟩ := rv
    exact ⟨p, o, rfl, .inl ⟨ks, hd, q _ H1 φ1 R1 l1 (walks_keys hd rk)⟩⟩
  · cases hf
/-! ### range, enumerate, zip -/
def rng (lo : Int) (n : Nat) : List PyData := (List.range n).map fun (i : Nat) => PyData.int (lo + (i : Int))
theorem walks_rng {K : PySem.W.Frag} {H1 : Hp} {lo : Int} {n : Nat} : Walks K (Itr lo n) (rng lo n) H1 := by
  have hl : (rng lo n).length = n := by simp [rng]
  refine ⟨fun i H z hi => by rw [hl] at hi; exact hi, fun H z => by rw [hl]; exact Nat.le_refl _, fun i H x H' z hi y => ?_⟩
  obtain ⟨rfl, rfl⟩ := y
  rw [hl] at hi
  exact ⟨Ext.refl _, .int (lo + i), by simp [rng, hi], rfl⟩
def fiRg1 (g : FA) : FI := fun sl S => match g sl S with
  | some (.vals [(_, .py (.int j))] S') => if -(2 ^ 62) ≤ j ∧ j < 2 ^ 62 then some (rng 0 j.toNat, S') else none
  | _ => none
def fiRg2 (g : FA) : FI := fun sl S => match g sl S with
  | some (.vals [(_, .py (.int i)), (_, .py (.int j))] S') => if -(2 ^ 62) ≤ i ∧ i < 2 ^ 62 ∧ -(2 ^ 62) ≤ j ∧ j < 2 ^ 62 then some (rng i (j - i).toNat, S') else none
  | _ => none
theorem denI_rg1 {a : Expr} {g : FA} {p : Pos} (hg : Gl X "range") (hm : X.mg "range" = none) (h : DenA X [a] g) (hs : starEach [a] X.env = [(false, eval a X.env)]) : DenI X tg (.Call (.Name "range" p) [a] [] pos) (fiRg1 g) := by
  refine .mk ?_; intro H0 φ0 φ σ H sl S ds S' R hf Rr q
  unfold fiRg1 at hf
  split at hf
  · rename_i t j S1 h1
    split at hf
    · rename_i hj
      cases hf
      refine wI.of (pi_range1 hg hm wA.pa hs) (h H0 φ0 φ σ H sl S _ R h1 _ _ takes_no fun us H1 φ1 R1 l1 rvs => ?_)
      obtain ⟨u, r, rfl, rv, rfl⟩ := rvs
      obtain rfl := rv.int
      exact ⟨j, rfl, hj.1, hj.2, q _ H1 φ1 R1 l1 walks_rng⟩
    · cases hf
  · cases hf
theorem denI_rg2 {a b : Expr} {g : FA} {p : Pos} (hg : Gl X "range") (hm : X.mg "range" = none) (h : DenA X [a, b] g) (hs : starEach [a, b] X.env = [(false, eval a X.env), (false, eval b X.env)]) (hs2 : starEach [b] X.env = [(false, eval b X.env)]) : DenI X tg (.Call (.Name "range" p) [a, b] [] pos) (fiRg2 g) := by
  refine .mk ?_; intro H0 φ0 φ σ H sl S ds S' R hf Rr q
  unfold fiRg2 at hf
  split at hf
  · rename_i t i t' j S1 h1
    split at hf
    · rename_i hj
      cases hf
      refine wI.of (pi_range2 hg hm wA.pa hs hs2) (h H0 φ0 φ σ H sl S _ R h1 _ _ takes_no fun us H1 φ1 R1 l1 rvs => ?_)
      obtain ⟨u, r, rfl, rv, u2, r2, rfl, rv2, rfl⟩ := rvs
      obtain rfl := rv.int
      obtain rfl := rv2.int
      exact ⟨i, j, rfl, hj, q _ H1 φ1 R1 l1 walks_rng⟩
    · cases hf
  · cases hf
def enumD (ds : List PyData) : List PyData := (List.range ds.length).map fun (i : Nat) => PyData.tuple [.int (i : Int), ds[i]?.getD .none]
theorem enumD_get {ds : List PyData} {i : Nat} {d : PyData} (h : ds[i]? = some d) : (enumD ds)[i]? = some (.tuple [.int i, d]) := by
  obtain ⟨hl, hd⟩ := List.getElem?_eq_some_iff.mp h
  simp [enumD, hl, hd]
theorem rp_pair {K : PySem.W.Frag} {H : Hp} {T : Addr} {a b : PyData} {x y : V} (hT : H T = none) (h1 : Rp K H a x) (h2 : Rp K H b y) : Rp K (upd H T (.tup [x, y])) (.tuple [a, b]) (.ref T) :=
  ⟨T, [x, y], rfl, SqT.of upd_same, x, [y], rfl, h1.mono (Ext.new hT).fz, y, [], rfl, h2.mono (Ext.new hT).fz, rfl⟩
theorem walks_enum {K : PySem.W.Frag} {H1 : Hp} {p : Addr} {vs : List V} {ds : List PyData} (q : FzK K H1 p vs) (r : Rps K H1 ds vs) : Walks K (Ite K p) (enumD ds) H1 := by
  have sq : ∀ {H}, Fz H1 H → SqL K H p vs := fun {H} z => (q.mono z).sq
  have hl : (enumD ds).length = ds.length := by simp [enumD]
  refine ⟨fun i H z hi => ⟨vs, vs[i]'(by rw [r.len, ← hl]; exact hi), sq z, by simp⟩, fun H z => ⟨vs, sq z, by rw [r.len, hl]; exact Nat.le_refl _⟩, fun i H x H' z hi y => ?_⟩
  obtain ⟨T, y0, rfl, hT, rfl, y⟩ := y
  obtain ⟨d, e, a⟩ := r.get' (y vs (sq z))
  exact ⟨Ext.new hT, _, enumD_get e, rp_pair hT rfl (a.mono z)⟩
def fiEn (g : FA) : FI := fun sl S => match g sl S with
  | some (.vals [(.pure, .py (.list ds))] S') => some (enumD ds, S')
  | _ => none
theorem denI_enum {a : Expr} {g : FA} {p tpos : Pos} {elts : List Expr} {kk : Nat} (hg : Gl X "enumerate") (hm : X.mg "enumerate" = none) (h : DenA X [a] g) (hs : starEach [a] X.env = [(false, eval a X.env)]) :
    DenI X (.Tuple elts kk tpos) (.Call (.Name "enumerate" p) [a] [] pos) (fiEn g) := by
  refine .mk ?_; intro H0 φ0 φ σ H sl S ds S' R hf Rr q
  unfold fiEn at hf
  split at hf
  · rename_i xs S1 h1
    cases hf
    refine wI.of (pi_enum hg hm wA.pa hs) (h H0 φ0 φ σ H sl S _ R h1 _ _ takes_no fun us H1 φ1 R1 l1 rvs => ?_)
    obtain ⟨u, r, rfl, rv, rfl⟩ := rvs
    obtain ⟨a', vs, rfl, fz, rs⟩ := rv
    exact ⟨a', vs, rfl, fz.sq, q _ H1 φ1 R1 l1 (walks_enum fz rs)⟩
  · cases hf
def zipD (xs ys : List PyData) : List PyData := (List.zip xs ys).map fun p => .tuple [p.1, p.2]
theorem zipD_get {xs ys : List PyData} {i : Nat} {a b : PyData} (h : xs[i]? = some a) (h2 : ys[i]? = some b) : (zipD xs ys)[i]? = some (.tuple [a, b]) := by
  unfold zipD
  rw [List.getElem?_map, (List.getElem?_zip_eq_some (z := (a, b))).mpr ⟨h, h2⟩]
  rfl
theorem zipD_len {xs ys : List PyData} : (zipD xs ys).length = min xs.length ys.length := by simp [zipD]
theorem walks_zip {K : PySem.W.Frag} {H1 : Hp} {p p2 : Addr} {vs vs2 : List V} {ds ds2 : List PyData} (q : FzK K H1 p vs) (r : Rps K H1 ds vs) (q2 : FzK K H1 p2 vs2) (r2 : Rps K H1 ds2 vs2) : Walks K (Itz K p p2) (zipD ds ds2) H1 := by
  have sq : ∀ {H}, Fz H1 H → SqL K H p vs := fun {H} z => (q.mono z).sq
  have sq2 : ∀ {H}, Fz H1 H → SqL K H p2 vs2 := fun {H} z => (q2.mono z).sq
  have hl : (zipD ds ds2).length = min ds.length ds2.length := zipD_len
  have l1 := r.len
  have l2 := r2.len
  refine ⟨fun i H z hi => ⟨vs, vs2, vs[i]'(by omega), vs2[i]'(by omega), sq z, sq2 z, by simp, by simp⟩, fun H z => ⟨vs, vs2, sq z, sq2 z, by omega⟩, fun i H x H' z hi y => ?_⟩
  obtain ⟨T, x0, y0, rfl, hT, rfl, y, y2⟩ := y
  obtain ⟨d, e, a⟩ := r.get' (y vs (sq z))
  obtain ⟨d2, e2, a2⟩ := r2.get' (y2 vs2 (sq2 z))
  exact ⟨Ext.new hT, _, zipD_get e e2, rp_pair hT (a.mono z) (a2.mono z)⟩
theorem walks_zipT {K : PySem.W.Frag} {H1 : Hp} {p p2 : Addr} {vs vs2 : List V} {ds ds2 : List PyData} (q : SqT K H1 p vs) (r : Rps K H1 ds vs) (q2 : SqT K H1 p2 vs2) (r2 : Rps K H1 ds2 vs2) : Walks K (RZ.ItzT K p p2) (zipD ds ds2) H1 := by
  have sq : ∀ {H}, Fz H1 H → SqT K H p vs := fun {H} z => sqT_mono z q
  have sq2 : ∀ {H}, Fz H1 H → SqT K H p2 vs2 := fun {H} z => sqT_mono z q2
  have hl : (zipD ds ds2).length = min ds.length ds2.length := zipD_len
  have l1 := r.len
  have l2 := r2.len
  refine ⟨fun i H z hi => ⟨vs, vs2, vs[i]'(by omega), vs2[i]'(by omega), sq z, sq2 z, by simp, by simp⟩, fun H z => ⟨vs, vs2, sq z, sq2 z, by omega⟩, fun i H x H' z hi y => ?_⟩
  obtain ⟨T, x0, y0, rfl, hT, rfl, y, y2⟩ := y
  obtain ⟨d, e, a⟩ := r.get' (y vs (sq z))
  obtain ⟨d2, e2, a2⟩ := r2.get' (y2 vs2 (sq2 z))
  exact ⟨Ext.new hT, _, zipD_get e e2, rp_pair hT (a.mono z) (a2.mono z)⟩
def fiZip (g : FA) : FI := fun sl S => match g sl S with
  | some (.vals [(.pure, .py (.list ds)), (.pure, .py (.list ds2))] S') => some (zipD ds ds2, S')
  | some (.vals [(.pure, .py (.tuple ds)), (.pure, .py (.tuple ds2))] S') => some (zipD ds ds2, S')
  | _ => none
theorem denI_zip {a b : Expr} {g : FA} {p tpos : Pos} {elts : List Expr} {kk : Nat} (hg : Gl X "zip") (hm : X.mg "zip" = none) (h : DenA X [a, b] g) (hs : starEach [a, b] X.env = (false, eval a X.env) :: starEach [b] X.env) (hpl : (backTo pos (starEach [b] X.env)).any (·.1) = false) :
    DenI X (.Tuple elts kk tpos) (.Call (.Name "zip" p) [a, b] [] pos) (fiZip g) := by
  refine .mk ?_; intro H0 φ0 φ σ H sl S ds S' R hf Rr q
  unfold fiZip at hf
  split at hf
  · rename_i xs ys S1 h1
    cases hf
    refine wI.of (RZ.pi_zipA hg hm wA.pa hs hpl) (h H0 φ0 φ σ H sl S _ R h1 _ _ takes_no fun us H1 φ1 R1 l1 rvs => ?_)
    obtain ⟨u, r, rfl, rv, u2, r2, rfl, rv2, rfl⟩ := rvs
    obtain ⟨p1, vs, rfl, fz, rs⟩ := rv
    obtain ⟨p2, vs2, rfl, fz2, rs2⟩ := rv2
    exact ⟨p1, p2, vs, vs2, rfl, .inl ⟨fz.sq, fz2.sq, q _ H1 φ1 R1 l1 (walks_zip fz rs fz2 rs2)⟩⟩
  · rename_i xs ys S1 h1
    cases hf
    refine wI.of (RZ.pi_zipA hg hm wA.pa hs hpl) (h H0 φ0 φ σ H sl S _ R h1 _ _ takes_no fun us H1 φ1 R1 l1 rvs => ?_)
    obtain ⟨u, r, rfl, rv, u2, r2, rfl, rv2, rfl⟩ := rvs
    obtain ⟨p1, vs, rfl, fz, rs⟩ := rv
    obtain ⟨p2, vs2, rfl, fz2, rs2⟩ := rv2
    exact ⟨p1, p2, vs, vs2, rfl, .inr ⟨fz, fz2, q _ H1 φ1 R1 l1 (walks_zipT fz rs fz2 rs2)⟩⟩
  · cases hf
end
end PP
set_option Elab.async false
set_option linter.all false
set_option maxRecDepth 100000
set_option maxHeartbeats 4000000
namespace PP
open PySem L2
/-! ## loops -/
section
variable {X : Cx} {pos : Pos} {x : Str} {i k n : Nat} {e tg iter c elt : Expr} {body : List Stmt} {is : List Nat} {fi : FI} {g : PyData → Sl → Option Sl} {fb : FS} {ft : FT} {fe : FE}
def forLoop (g : PyData → Sl → Option Sl) (body : FS) : List PyData → FS
  | [], sl, S => some (.nx sl S)
  | d :: ds, sl, S => match g d sl with
    | none => none
    | some sl1 => match body sl1 S with
      | some (.nx sl2 S2) => forLoop g body ds sl2 S2
      | some (.ct sl2 S2) => forLoop g body ds sl2 S2
      | some (.bk sl2 S2) => some (.nx sl2 S2)
      | r => r
def fFor (fi : FI) (g : PyData → Sl → Option Sl) (body : FS) : FS := fun sl S => match fi sl S with
  | some (ds, S1) => forLoop g body ds sl S1
  | none => none
theorem forLoop_cons {d : PyData} {ds : List PyData} {sl : Sl} {S : SS} : forLoop g fb (d :: ds) sl S = match g d sl with
    | none => none
    | some sl1 => match fb sl1 S with
      | some (.nx sl2 S2) => forLoop g fb ds sl2 S2
      | some (.ct sl2 S2) => forLoop g fb ds sl2 S2
      | some (.bk sl2 S2) => some (.nx sl2 S2)
      | r => r := rfl
theorem denS_for (ct : Ct X k) (hp : PassesOwn (model X.prog X.w) X.A X.env X.xe) (hi : DenI X tg iter fi) (hg : DenG X tg is g) (hb : DenS X body fb) (hs : ∀ x, foldedSetIterable iter X.env x = pure x) : DenS1 X (.For tg iter body [] pos) (fFor fi g fb) := by
  refine .mk ?_; intro H0 φ0 φ σ H sl S r R hf D W tk post
  refine wS1.of (ps_for hp ct.calm wI.pi wG.pg wSs.pss hs) ?_
  unfold fFor at hf
  split at hf
  · rename_i ds S1 h1
    refine hi H0 φ0 φ σ H sl S ds S1 R h1 _ fun J H1 φ1 R1 l1 wk => ?_
    let Pv : Nat → L2.St → Hp → Prop := fun i σ' H' => ∃ φ' sl' S', Rel X.K X.mg H0 φ0 φ' σ' H' sl' S' ∧ Fz H1 H' ∧ forLoop g fb (ds.drop i) sl' S' = some r
    refine ⟨fun i m σ' H' => m = ds.length - i ∧ i ≤ ds.length ∧ Pv i σ' H', ⟨ds.length, by simp, Nat.zero_le _, φ1, sl, S1, R1, Fz.refl _, hf⟩, ?_⟩
    rintro i m σ' H' ⟨rfl, hle, φ', sl', S', R', z', hl⟩
    by_cases hlt : i < ds.length
    · refine .inr ⟨wk.go i H' z' hlt, Pv (i + 1), fun σ2 H2 p => ⟨ds.length - (i + 1), by omega, rfl, hlt, p⟩, fun x H2 y => ?_⟩
      obtain ⟨ex, d, ed, rp⟩ := wk.yld i H' x H2 z' hlt y
      have hd : ds.drop i = d :: ds.drop (i + 1) := by
        rw [List.drop_eq_getElem_cons hlt]
        congr 1
        rw [List.getElem?_eq_getElem hlt] at ed
        exact Option.some.inj ed
      rw [hd, forLoop_cons] at hl
      have z2 : Fz H1 H2 := z'.trans ex.fz
      split at hl
      · cases hl
      · rename_i sl1 eg
        refine hg H0 φ0 φ' σ' H2 sl' sl1 S' d x (R'.ext ex) rp eg _ fun σ3 R3 _ => ?_
        split at hl
        · rename_i sl2 S2 eb
          exact hb H0 φ0 φ' σ3 H2 sl1 S' _ R3 eb _ W tk fun σ4 H4 φ4 R4 z4 => ⟨φ4, sl2, S2, R4, z2.trans z4, hl⟩
        · rename_i sl2 S2 eb
          exact hb H0 φ0 φ' σ3 H2 sl1 S' _ R3 eb _ W tk fun σ4 H4 φ4 R4 z4 => ⟨φ4, sl2, S2, R4, z2.trans z4, hl⟩
        · rename_i sl2 S2 eb
          cases hl
          exact hb H0 φ0 φ' σ3 H2 sl1 S' _ R3 eb _ W tk fun σ4 H4 φ4 R4 z4 => post σ4 H4 φ4 R4 ((l1.fz.trans z2).trans z4)
        · rename_i h1 h2 h3
          refine hb H0 φ0 φ' σ3 H2 sl1 S' r R3 hl _ W tk ?_
          have post' := post.fz (l1.fz.trans z2)
          cases r with
          | nx a b => exact absurd hl (h1 a b)
          | ct a b => exact absurd hl (h2 a b)
          | bk a b => exact absurd hl (h3 a b)
          | rt t v S => exact post'
          | exn c d sl S => exact post'
    · have e : i = ds.length := by omega
      subst e
      rw [List.drop_length] at hl
      cases hl
      exact .inl ⟨wk.stop H' z', post σ' H' φ' R' (l1.fz.trans z')⟩
  · cases hf
def whileLoop (c : FT) (b : FS) : Nat → FS
  | 0, _, _ => none
  | n + 1, sl, S => match c sl S with
    | some (.tb true S1) => match b sl S1 with
      | some (.nx sl2 S2) => whileLoop c b n sl2 S2
      | some (.ct sl2 S2) => whileLoop c b n sl2 S2
      | some (.bk sl2 S2) => some (.nx sl2 S2)
      | r => r
    | some (.tb false S1) => some (.nx sl S1)
    | some (.exn c d S1) => some (.exn c d sl S1)
    | none => none
theorem whileLoop_succ {sl : Sl} {S : SS} : whileLoop ft fb (n + 1) sl S = match ft sl S with
    | some (.tb true S1) => match fb sl S1 with
      | some (.nx sl2 S2) => whileLoop ft fb n sl2 S2
      | some (.ct sl2 S2) => whileLoop ft fb n sl2 S2
      | some (.bk sl2 S2) => some (.nx sl2 S2)
      | r => r
    | some (.tb false S1) => some (.nx sl S1)
    | some (.exn c d S1) => some (.exn c d sl S1)
    | none => none := rfl
theorem denS_while (n : Nat) (hp : PassesOwn (model X.prog X.w) X.A X.env X.xe) (hc : DenT X c ft) (hb : DenS X body fb) : DenS1 X (.While c body [] pos) (whileLoop ft fb n) := by
  refine .mk ?_; intro H0 φ0 φ σ H sl S r R hf D W tk post
  refine wS1.of (ps_while hp wT.pt wSs.pss) ?_
  let Pv : Nat → L2.St → Hp → Prop := fun m σ' H' => ∃ φ' sl' S', Rel X.K X.mg H0 φ0 φ' σ' H' sl' S' ∧ Fz H H' ∧ whileLoop ft fb m sl' S' = some r
  refine ⟨Pv, ⟨n, φ, sl, S, R, Fz.refl _, hf⟩, ?_⟩
  rintro m σ' H' ⟨φ', sl', S', R', z', hl⟩
  cases m with
  | zero => cases hl
  | succ m =>
    rw [whileLoop_succ] at hl
    split at hl
    · rename_i S1 e1
      refine hc H0 φ0 φ' σ' H' sl' S' _ R' e1 _ W tk fun H1 φ1 R1 l1 => ?_
      show (if true = true then _ else _)
      rw [if_pos rfl]
      refine ⟨Pv m, fun σ2 H2 p => ⟨m, Nat.lt_succ_self m, p⟩, ?_⟩
      have z1 := z'.trans l1.fz
      split at hl
      · rename_i sl2 S2 eb
        exact hb H0 φ0 φ1 σ' H1 sl' S1 _ R1 eb _ W tk fun σ4 H4 φ4 R4 z4 => ⟨φ4, sl2, S2, R4, z1.trans z4, hl⟩
      · rename_i sl2 S2 eb
        exact hb H0 φ0 φ1 σ' H1 sl' S1 _ R1 eb _ W tk fun σ4 H4 φ4 R4 z4 => ⟨φ4, sl2, S2, R4, z1.trans z4, hl⟩
      · rename_i sl2 S2 eb
        cases hl
        exact hb H0 φ0 φ1 σ' H1 sl' S1 _ R1 eb _ W tk fun σ4 H4 φ4 R4 z4 => post σ4 H4 φ4 R4 (z1.trans z4)
      · rename_i h1 h2 h3
        refine hb H0 φ0 φ1 σ' H1 sl' S1 r R1 hl _ W tk ?_
        have post' := post.fz z1
        cases r with
        | nx a b => exact absurd hl (h1 a b)
        | ct a b => exact absurd hl (h2 a b)
        | bk a b => exact absurd hl (h3 a b)
        | rt t v S => exact post'
        | exn c d sl S => exact post'
    · rename_i S1 e1
      cases hl
      refine hc H0 φ0 φ' σ' H' sl' S' _ R' e1 _ W tk fun H1 φ1 R1 l1 => ?_
      show (if false = true then _ else _)
      rw [if_neg Bool.false_ne_true]
      exact post σ' H1 φ1 R1 (z'.trans l1.fz)
    · rename_i c' d S1 e1
      cases hl
      exact hc H0 φ0 φ' σ' H' sl' S' _ R' e1 _ W tk fun C dx H1 φ1 R1 l1 ex => post C dx σ' H1 φ1 R1 (z'.trans l1.fz) ex
    · cases hl
end
/-! ## comprehensions -/
/-- an object of nobody's is written -/
theorem Rel.write {K : PySem.W.Frag} {mg : Str → Option Value} {H0 H : Hp} {φ0 φ : List Addr} {σ : L2.St} {sl : Sl} {S : SS} (R : Rel K mg H0 φ0 φ σ H sl S) {p : Addr} {o o' : HO} (e : H p = some o) (m : Mu o = true) (n : p ∉ φ) (n0 : H0 p = none) (ns : ∀ (i : Nat) (d' : PyData), sl[i]? = some (.own d') → σ[i]? ≠ some (some (.ref p))) :
    Rel K mg H0 φ0 φ σ (upd H p o') sl S := by
  have z : Fz H (upd H p o') := fun a u h n => by
    rw [upd_ne (fun z => by subst z; rw [e] at h; cases h; rw [m] at n; cases n)]
    exact h
  have other : ∀ a, a ≠ p → (upd H p o') a = H a := fun a h => upd_ne h
  refine ⟨R.len, fun i s h => ?_, R.dist, R.blen, fun k a d h g => ?_, R.nd, R.pre, R.new, fun a u h g => ?_⟩
  · have q := R.slots i s h
    cases s with
    | un => trivial
    | p v => obtain ⟨u, e1, e2⟩ := q; exact ⟨u, e1, e2.mono z ⟨[], by simp⟩⟩
    | own d =>
      obtain ⟨p', e1, e2, e3, e4⟩ := q
      exact ⟨p', e1, e2.mono z (other p' fun y => by subst y; exact ns i d h e1), e3, e4⟩
  · exact (R.box k a d h g).mono z (other a fun y => by subst y; exact n (List.mem_of_getElem? h))
  · rw [other a fun y => by subst y; rw [n0] at h; cases h]
    exact R.keep a u h g
def wipeSl (sl : Sl) : List Nat → Sl
  | [] => sl
  | v :: vs => (wipeSl sl vs).set v .un
theorem Rel.un {K : PySem.W.Frag} {mg : Str → Option Value} {H0 H : Hp} {φ0 φ : List Addr} {σ : L2.St} {sl : Sl} {S : SS} (R : Rel K mg H0 φ0 φ σ H sl S) (v : Nat) (x : Option V) : Rel K mg H0 φ0 φ (σ.set v x) H (sl.set v .un) S := by
  have nv : ∀ {j : Nat} {d : PyData}, (sl.set v .un)[j]? = some (.own d) → v ≠ j := fun {j d} h e => by
    subst e
    by_cases hl : v < sl.length
    · rw [List.getElem?_set_self hl] at h; cases h
    · rw [List.getElem?_eq_none (by simpa using hl)] at h; cases h
  refine ⟨by rw [List.length_set, List.length_set, R.len], fun j s h => ?_, fun i j p q d d' hij h1 h2 h3 h4 => ?_, R.blen, R.box, R.nd, R.pre, R.new, R.keep⟩
  · by_cases hj : v = j
    · subst hj
      by_cases hl : v < sl.length
      · rw [List.getElem?_set_self hl] at h
        cases h
        trivial
      · rw [List.getElem?_eq_none (by simpa using hl)] at h; cases h
    · rw [List.getElem?_set_ne hj] at h
      rw [List.getElem?_set_ne hj]
      exact R.slots j s h
  · have e1 := nv h1
    have e2 := nv h2
    rw [List.getElem?_set_ne e1] at h1 h3
    rw [List.getElem?_set_ne e2] at h2 h4
    exact R.dist i j p q d d' hij h1 h2 h3 h4
theorem Rel.wipe {K : PySem.W.Frag} {mg : Str → Option Value} {H0 H : Hp} {φ0 φ : List Addr} {σ : L2.St} {sl : Sl} {S : SS} (R : Rel K mg H0 φ0 φ σ H sl S) : ∀ (vs : List Nat), Rel K mg H0 φ0 φ (wipe σ vs) H (wipeSl sl vs) S
  | [] => R
  | v :: vs => (Rel.wipe R vs).un v none
theorem own_ref {K : PySem.W.Frag} {mg : Str → Option Value} {H0 H : Hp} {φ0 φ : List Addr} {σ : L2.St} {sl : Sl} {S : SS} (R : Rel K mg H0 φ0 φ σ H sl S) {p : Addr} (h : H p = none) : ∀ (i : Nat) (d' : PyData), sl[i]? = some (.own d') → σ[i]? ≠ some (some (.ref p)) := fun i d' h1 g => by
  obtain ⟨q, e1, e2, _⟩ := R.slots i _ h1
  rw [g] at e1
  cases e1
  obtain ⟨o', eo, _⟩ := e2.mu
  rw [h] at eo
  cases eo
theorem wipe_wipe (σ : L2.St) (vs : List Nat) : L2.wipe (L2.wipe σ vs) vs = L2.wipe σ vs := by
  refine List.ext_getElem? fun j => ?_
  by_cases hj : j ∈ vs
  · by_cases hl : j < σ.length
    · rw [wipe_in hj hl, wipe_in hj (by rw [wipe_length]; exact hl)]
    · rw [List.getElem?_eq_none (by rw [wipe_length, wipe_length]; omega), List.getElem?_eq_none (by rw [wipe_length]; omega)]
  · rw [wipe_out hj]
def lcLoop (g : PyData → Sl → Option Sl) (t : FT) (f : FE) (sl : Sl) : List PyData → List PyData → SS → Option (List PyData × SS)
  | [], acc, S => some (acc, S)
  | d :: ds, acc, S => match g d sl with
    | none => none
    | some sl1 => match t sl1 S with
      | some (.tb false S1) => lcLoop g t f sl ds acc S1
      | some (.tb true S1) => match f sl1 S1 with
        | some (.val .pure (.py y) S2) => if acc.length < LIM then lcLoop g t f sl ds (acc ++ [y]) S2 else none
        | _ => none
      | _ => none
theorem lcLoop_cons {g : PyData → Sl → Option Sl} {t : FT} {f : FE} {sl : Sl} {d : PyData} {ds acc : List PyData} {S : SS} : lcLoop g t f sl (d :: ds) acc S = match g d sl with
    | none => none
    | some sl1 => match t sl1 S with
      | some (.tb false S1) => lcLoop g t f sl ds acc S1
      | some (.tb true S1) => match f sl1 S1 with
        | some (.val .pure (.py y) S2) => if acc.length < LIM then lcLoop g t f sl ds (acc ++ [y]) S2 else none
        | _ => none
      | _ => none := rfl
/-- a clause's tests -/
def wTs (X : Cx) (ifs : List Expr) : TT := fun σ H Q => ∀ (pins : List (Addr × Obj)) (s : Shared), Inv X pins σ H s →
  wpAny (model X.prog X.w) X.A (forIn ifs true fun c r => if r = true then do let ok ← isTrue c X.env (eval c X.env); pure (ForInStep.yield ok) else pure (ForInStep.yield r)) (TP X pins σ Q) X.xe s
theorem wTs.of {X : Cx} {ifs : List Expr} {t : TT} {σ : L2.St} {H : Hp} {Q : Bool → Hp → Prop} (h : PTs X ifs t) (q : t σ H Q) : wTs X ifs σ H Q := fun pins s I => h.run pins s σ H Q I q
def DenTs_ (X : Cx) (ifs : List Expr) (f : FT) : Prop :=
  ∀ (H0 : Hp) (φ0 φ : List Addr) (σ : L2.St) (H : Hp) (sl : Sl) (S : SS) (r : TR), Rel X.K X.mg H0 φ0 φ σ H sl S → f sl S = some r →
    ∀ (Q : Bool → Hp → Prop) (W : WX), Takes X W → PostT X H0 φ0 φ σ H sl Q W r → wTs X ifs σ H Q
structure DenTs (X : Cx) (ifs : List Expr) (f : FT) : Prop where
  run : DenTs_ X ifs f
instance {X : Cx} {ifs : List Expr} {f : FT} : CoeFun (DenTs X ifs f) (fun _ => DenTs_ X ifs f) := ⟨DenTs.run⟩
def fYes : FT := fun _ S => some (.tb true S)
theorem denTs_nil {X : Cx} : DenTs X [] fYes := by
  refine .mk ?_; intro H0 φ0 φ σ H sl S r R hf Q W tk post
  cases hf
  exact wTs.of pts_nil (post H φ R (Le.refl _ _))
theorem denTs_one {X : Cx} {c : Expr} {f : FT} (h : DenT X c f) : DenTs X [c] f := .mk fun H0 φ0 φ σ H sl S r R hf Q W tk post => wTs.of (pts_one wT.pt) (h H0 φ0 φ σ H sl S r R hf Q W tk post)
section
variable {X : Cx} {pos : Pos} {x : Str} {i k n : Nat} {e tg iter c elt : Expr} {ifs : List Expr} {scope : Scope} {is vs : List Nat} {own : List (Str × Nat)} {fi : FI} {g : PyData → Sl → Option Sl} {t : FT} {f : FE}
abbrev Bk (X : Cx) (scope : Scope) (s : Shared) (H : Hp) (C : Addr) (cl : List (Str × Addr)) (fp : List Addr) : Cx := X.blk s H scope (compEnvC scope cl C X.env) fp
def bG (X : Cx) (scope : Scope) (tg : Expr) : TG := fun v σ H Q => ∀ s H' C cl fp, wG (Bk X scope s H' C cl fp) tg v σ H Q
def bT (X : Cx) (scope : Scope) (ifs : List Expr) : TT := fun σ H Q => ∀ s H' C cl fp, wTs (Bk X scope s H' C cl fp) ifs σ H Q
def bE (X : Cx) (scope : Scope) (elt : Expr) : TE := fun σ H Q => ∀ s H' C cl fp, wE (Bk X scope s H' C cl fp) elt σ H Q
theorem lc_go (hi : DenI X tg iter fi) (hv : ∀ j ∈ is, j ∈ vs) (hg : ∀ s H C cl fp, DenG (Bk X scope s H C cl fp) tg is g) (ht : ∀ s H C cl fp, DenTs (Bk X scope s H C cl fp) ifs t) (he : ∀ s H C cl fp, Den (Bk X scope s H C cl fp) elt f)
    {H0 : Hp} {φ0 φ : List Addr} {σ : L2.St} {H : Hp} {sl : Sl} {S S1 S2 : SS} {ds acc : List PyData} {Q : VK} (R : Rel X.K X.mg H0 φ0 φ σ H sl S) (h1 : fi sl S = some (ds, S1)) (h2 : lcLoop g t f (wipeSl sl vs) ds [] S1 = some (acc, S2))
    (q : ∀ (D : Addr) (H' : Hp) (φ' : List Addr), Rel X.K X.mg H0 φ0 φ' σ H' sl S2 → Le φ H φ' H' → RV X.K X.mg H0 H' φ' σ sl .fresh (.py (.list acc)) (.ref D) → H D = none → Q (.ref D) H') :
    tLc (wI X tg iter) (bG X scope tg) (bT X scope ifs) (bE X scope elt) vs σ H Q := by
  refine hi H0 φ0 φ σ H sl S ds S1 R h1 _ fun J H1 φ1 R1 l1 wk => ?_
  intro D hD
  let Pv : Nat → Hp → Prop := fun i H' => ∃ φ' S' aD aV, Rel X.K X.mg H0 φ0 φ' (wipe σ vs) H' (wipeSl sl vs) S' ∧ Le φ1 H1 φ' H' ∧ H' D = some (.lst aV) ∧ Rps X.K H' aD aV ∧ D ∉ φ' ∧ lcLoop g t f (wipeSl sl vs) (ds.drop i) aD S' = some (acc, S2)
  have e0 : Ext H1 (upd H1 D (.lst [])) := Ext.new hD
  have D0 : H0 D = none := R1.fresh0 hD
  have nsD := own_ref R1 hD
  have nsW : ∀ (i : Nat) (d' : PyData), (wipeSl sl vs)[i]? = some (.own d') → (wipe σ vs)[i]? ≠ some (some (.ref D)) := own_ref (R1.wipe vs) hD
  refine ⟨fun i m H' => m = ds.length - i ∧ i ≤ ds.length ∧ Pv i H', ⟨ds.length, by simp, Nat.zero_le _, φ1, S1, [], [], (R1.wipe vs).ext e0, e0.le, upd_same, rfl, R1.notBox hD, h2⟩, ?_⟩
  rintro i m H' ⟨rfl, hle, φ', S', aD, aV, R', l', eD, ra, nD, hl⟩
  by_cases hlt : i < ds.length
  · refine .inr ⟨wk.go i H' l'.fz hlt, Pv (i + 1), fun H2 p => ⟨ds.length - (i + 1), by omega, rfl, hlt, p⟩, fun x H2 y => ?_⟩
    obtain ⟨ex, d, ed, rp⟩ := wk.yld i H' x H2 l'.fz hlt y
    have hd : ds.drop i = d :: ds.drop (i + 1) := by
      rw [List.drop_eq_getElem_cons hlt]
      congr 1
      rw [List.getElem?_eq_getElem hlt] at ed
      exact Option.some.inj ed
    rw [hd, lcLoop_cons] at hl
    have R2 := R'.ext ex
    have l2 := l'.trans ex.le
    split at hl
    · cases hl
    · rename_i sl1 eg
      intro s' Hs' C' cl' fp'
      refine hg s' Hs' C' cl' fp' H0 φ0 φ' _ H2 _ sl1 S' d x R2 rp eg _ fun σ3 R3 o3 => ⟨(o3.wipe hv).trans (wipe_wipe σ vs), ?_⟩
      intro s3 Hs3 C3 cl3 fp3
      have back : ∀ {φ4 : List Addr} {H4 : Hp} {S4 : SS}, Rel X.K X.mg H0 φ0 φ4 σ3 H4 sl1 S4 → Le φ' H2 φ4 H4 → Rel X.K X.mg H0 φ0 φ4 (wipe σ vs) H4 (wipeSl sl vs) S4 := fun {φ4 H4 S4} R4 l4 => R2.le l4 R4.blen R4.nd R4.box
      split at hl
      · rename_i S3 et
        refine ht s3 Hs3 C3 cl3 fp3 H0 φ0 φ' σ3 H2 sl1 S' _ R3 et _ _ takes_no fun H4 φ4 R4 l4 => ?_
        show (if false = true then _ else _)
        rw [if_neg Bool.false_ne_true]
        have fz4 := ex.fz.trans l4.fz
        refine ⟨φ4, S3, aD, aV, back R4 l4, l2.trans l4, l4.keep D _ (ex D _ eD) nD, ra.mono fz4, fun z => ?_, hl⟩
        have := l4.new D z nD
        rw [ex D _ eD] at this
        cases this
      · rename_i S3 et
        refine ht s3 Hs3 C3 cl3 fp3 H0 φ0 φ' σ3 H2 sl1 S' _ R3 et _ _ takes_no fun H4 φ4 R4 l4 => ?_
        show (if true = true then _ else _)
        rw [if_pos rfl]
        split at hl
        · rename_i y S4 ee
          split at hl
          · rename_i hlim
            intro s5 Hs5 C5 cl5 fp5
            refine he s5 Hs5 C5 cl5 fp5 H0 φ0 φ4 σ3 H4 sl1 S3 _ R4 ee _ _ takes_no fun u H5 φ5 R5 l5 rv _ => ?_
            have l25 := l4.trans l5
            have fz5 := ex.fz.trans l25.fz
            have e5 : H5 D = some (.lst aV) := l25.keep D _ (ex D _ eD) nD
            have n5 : D ∉ φ5 := fun z => by
              have := l25.new D z nD
              rw [ex D _ eD] at this
              cases this
            have rw5 := back R5 l25
            have z6 : Fz H5 (upd H5 D (.lst (aV ++ [u]))) := fun a w h m => by
              rw [upd_ne (fun z => by subst z; rw [e5] at h; cases h; cases m)]
              exact h
            refine ⟨aV, e5, Nat.lt_of_lt_of_le (by rw [ra.len]; exact hlim) (lim_line (Nat.le_refl _)), φ5, S4, aD ++ [y], aV ++ [u], rw5.write e5 rfl n5 D0 nsW, ⟨fun a w h m => ?_, (l2.trans l25).pre, (l2.trans l25).new, (l2.trans l25).fz.trans z6⟩, upd_same, ?_, n5, hl⟩
            · rw [upd_ne (fun z => by subst z; rw [hD] at h; cases h)]
              exact (l2.trans l25).keep a w h m
            · exact ((ra.mono fz5).mono z6).app ⟨u, [], rfl, Rp.mono z6 y rv, rfl⟩
          · cases hl
        · cases hl
      · cases hl
  · have e : i = ds.length := by omega
    subst e
    rw [List.drop_length] at hl
    cases hl
    refine .inl ⟨wk.stop H' l'.fz, q D H' φ' (R1.le l' R'.blen R'.nd R'.box) (l1.trans l') ⟨D, rfl, ⟨aV, eD, ra⟩, D0, nD, nsD⟩ (l1.fresh R1 hD)⟩
def fLc (fi : FI) (g : PyData → Sl → Option Sl) (t : FT) (f : FE) (vs : List Nat) : FE := fun sl S => match fi sl S with
  | some (ds, S1) => match lcLoop g t f (wipeSl sl vs) ds [] S1 with
    | some (acc, S2) => some (.val .fresh (.py (.list acc)) S2)
    | none => none
  | none => none
theorem den_lc (ct : Ct X k) (ok : BlkOk X.N X.env.scope scope own) (hi : DenI X tg iter fi) (hv : ∀ j ∈ is, j ∈ own.map (·.2)) (hg : ∀ s H C cl fp, DenG (Bk X scope s H C cl fp) tg is g) (ht : ∀ s H C cl fp, DenTs (Bk X scope s H C cl fp) ifs t) (he : ∀ s H C cl fp, Den (Bk X scope s H C cl fp) elt f)
    (hs : ∀ x, foldedSetIterable iter X.env x = pure x) : Den X (.ListComp elt [⟨tg, iter, ifs, 0⟩] scope pos) (fLc fi g t f (own.map (·.2))) := by
  refine .mk ?_; intro H0 φ0 φ σ H sl S r R hf Q W tk post
  unfold fLc at hf
  split at hf
  · rename_i ds S1 h1
    split at hf
    · rename_i acc S2 h2
      cases hf
      exact wE.of (pe_lc ct.calm ct.nd wI.pi ok (g := bG X scope tg) (tt := bT X scope ifs) (te := bE X scope elt) (fun s H C cl fp => ⟨fun pins s' σ H v u Q I r h => h s _ C cl fp pins s' u I r⟩) (fun s H C cl fp => ⟨fun pins s' σ H Q I h => h s _ C cl fp pins s' I⟩) (fun s H C cl fp => ⟨fun pins s' σ H Q I h => h s _ C cl fp pins s' I⟩) hs)
        (lc_go hi hv hg ht he R h1 h2 fun D H' φ' R' l' rv hD => post _ H' φ' R' l' rv fun _ p e => by cases e; exact hD)
    · cases hf
  · cases hf
theorem denS_setLc {py spos : Pos} {y : Str} (ct : Ct X k) (hy : X.N[i]? = some y) (hyl : X.env.scope.names.lookup y = some .local) (hsw : swapsWith (.ListComp elt [⟨tg, iter, ifs, 0⟩] scope pos) (some (.Name y py)) spos.line X.env = pure true)
    (ok : BlkOk X.N X.env.scope scope own) (hi : DenI X tg iter fi) (hv : ∀ j ∈ is, j ∈ own.map (·.2)) (hg : ∀ s H C cl fp, DenG (Bk X scope s H C cl fp) tg is g) (ht : ∀ s H C cl fp, DenTs (Bk X scope s H C cl fp) ifs t) (he : ∀ s H C cl fp, Den (Bk X scope s H C cl fp) elt f)
    (hs : ∀ x, foldedSetIterable iter X.env x = pure x) : DenS1 X (.Assign [.Name y py] (.ListComp elt [⟨tg, iter, ifs, 0⟩] scope pos) spos) (fSet i (fLc fi g t f (own.map (·.2)))) := by
  refine .mk ?_; intro H0 φ0 φ σ H sl S r R hf D W tk post
  unfold fSet bindS fLc at hf
  split at hf
  · rename_i t' v S' h0
    split at h0
    · rename_i ds S1 h1
      split at h0
      · rename_i acc S2 h2
        cases h0
        cases hf
        exact wS1.of (ps_setLc ct.calm ct.nd hy hyl hsw wI.pi ok (g := bG X scope tg) (tt := bT X scope ifs) (te := bE X scope elt) (fun s H C cl fp => ⟨fun pins s' σ H v u Q I r h => h s _ C cl fp pins s' u I r⟩) (fun s H C cl fp => ⟨fun pins s' σ H Q I h => h s _ C cl fp pins s' I⟩) (fun s H C cl fp => ⟨fun pins s' σ H Q I h => h s _ C cl fp pins s' I⟩) hs)
          (lc_go hi hv hg ht he R h1 h2 fun D H' φ' R' l' rv hD => post _ H' φ' (R'.put rv rfl i) l'.fz)
      · cases h0
    · cases h0
  · rename_i c' d' S' h0
    split at h0
    · split at h0
      · cases h0
      · cases h0
    · cases h0
  · cases hf
end
end PP
set_option Elab.async false
set_option linter.all false
set_option maxRecDepth 100000
set_option maxHeartbeats 4000000
namespace PP
open PySem L2
/-! ## a slot's own object is shut behind a statement; .. while a test runs -/
theorem wS1.shut {X : Cx} {st : Stmt} {D : Ends} {σ : L2.St} {H : Hp} (h : wS1 X st { D with nx := fun σ' H' => D.nx σ' H' ∨ ∃ p o, H' p = some o ∧ Mut (some o) ∧ ∀ od, D.nx σ' (upd H' p (.frz od o)) } σ H) : wS1 X st D σ H := fun pins s I =>
  thn (h pins s I) fun f s1 q => by
    cases f with
    | next =>
      obtain ⟨σ1, H1, I1, q1⟩ := q
      rcases q1 with q1 | ⟨p, o, e1, m, q1⟩
      · exact ⟨σ1, H1, I1, q1⟩
      · obtain ⟨od, I2⟩ := I1.lock e1 m
        exact ⟨σ1, _, I2, q1 od⟩
    | ret v => exact q
    | brk => exact q
    | cont => exact q
def lockSl (i : Nat) (sl : Sl) : Sl := match sl[i]? with
  | some (.own d) => sl.set i (.p (.py d))
  | _ => sl
section
variable {K : PySem.W.Frag} {mg : Str → Option Value} {H0 H : Hp} {φ0 φ : List Addr} {σ : L2.St} {sl : Sl} {S : SS}
theorem Rel.lockAt (R : Rel K mg H0 φ0 φ σ H sl S) {i : Nat} {d : PyData} (h : sl[i]? = some (.own d)) : ∃ p o, σ[i]? = some (some (.ref p)) ∧ H p = some o ∧ Mut (some o) ∧ Mu o = true ∧ H0 p = none ∧ p ∉ φ ∧ ∀ od, Rel K mg H0 φ0 φ σ (upd H p (.frz od o)) (sl.set i (.p (.py d))) S ∧ Fz H (upd H p (.frz od o)) := by
  obtain ⟨p, e1, e2, e3, e4⟩ := R.slots i _ h
  obtain ⟨o, eo, mt, rp⟩ := e2.mut
  obtain ⟨o', eo', mu⟩ := e2.mu
  obtain rfl : o = o' := Option.some.inj (eo.symm.trans eo')
  have hl : i < sl.length := (List.getElem?_eq_some_iff.mp h).1
  refine ⟨p, o, e1, eo, mt, mu, e3, e4, fun od => ⟨?_, fz_shut eo mu⟩⟩
  have R1 : Rel K mg H0 φ0 φ (σ.set i (some (.ref p))) H (sl.set i .un) S := R.un i _
  have eσ : σ.set i (some (.ref p)) = σ := by
    refine List.ext_getElem? fun j => ?_
    by_cases hj : i = j
    · subst hj
      rw [List.getElem?_set_self (by rw [R.len]; exact hl), e1]
    · rw [List.getElem?_set_ne hj]
  rw [eσ] at R1
  have R2 := R1.shut (od := od) eo mu e4 e3 fun j d' hj g => by
    by_cases hij : i = j
    · subst hij
      rw [List.getElem?_set_self hl] at hj
      cases hj
    · rw [List.getElem?_set_ne hij] at hj
      exact R.dist i j p p d d' hij h hj e1 g rfl
  have R3 := R2.put (t := .pure) (v := .py d) (u := .ref p) (rp od) rfl i
  rw [eσ, List.set_set] at R3
  exact R3
theorem lockSl_own {i : Nat} {d : PyData} (h : sl[i]? = some (.own d)) : lockSl i sl = sl.set i (.p (.py d)) := by
  unfold lockSl
  rw [h]
theorem lockSl_not {i : Nat} (h : ∀ d, sl[i]? ≠ some (.own d)) : lockSl i sl = sl := by
  unfold lockSl
  split
  · rename_i d e
    exact absurd e (h d)
  · rfl
end
section
variable {X : Cx} {st : Stmt} {e : Expr} {f : FS} {g : FT} {i : Nat}
def fLock (i : Nat) (f : FS) : FS := fun sl S => match f sl S with
  | some (.nx sl' S') => some (.nx (lockSl i sl') S')
  | r => r
theorem denS_lock (i : Nat) (h : DenS1 X st f) : DenS1 X st (fLock i f) := by
  refine .mk ?_; intro H0 φ0 φ σ H sl S r R hf D W tk post
  unfold fLock at hf
  split at hf
  · rename_i sl' S' h1
    cases hf
    refine wS1.shut (h H0 φ0 φ σ H sl S _ R h1 _ W tk fun σ' H' φ' R' z => ?_)
    by_cases ho : ∃ d, sl'[i]? = some (.own d)
    · obtain ⟨d, ho⟩ := ho
      obtain ⟨p, o, _, eo, mt, mu, _, _, q⟩ := R'.lockAt ho
      rw [lockSl_own ho] at post
      exact .inr ⟨p, o, eo, mt, fun od => post σ' _ φ' (q od).1 (z.trans (q od).2)⟩
    · rw [lockSl_not fun d e => ho ⟨d, e⟩] at post
      exact .inl (post σ' H' φ' R' z)
  · rename_i hn
    refine h H0 φ0 φ σ H sl S r R hf _ W tk ?_
    cases r with
    | nx a b => exact absurd hf (hn a b)
    | bk a b => exact post
    | ct a b => exact post
    | rt t v S => exact post
    | exn c d sl S => exact post
/-- all boxes hold whole numbers -/
def allInt : List PyData → Bool
  | [] => true
  | .int _ :: r => allInt r
  | _ :: _ => false
def boxInts : SS → Bool
  | [] => true
  | .list ds :: r => allInt ds && boxInts r
  | _ :: _ => false
theorem Rps.allInt {K : PySem.W.Frag} {H H' : Hp} : ∀ {ds : List PyData} {vs : List V}, PP.allInt ds = true → Rps K H ds vs → Rps K H' ds vs
  | [], _, _, h => h
  | .int _ :: r, _, hi, ⟨v, t, e, a, b⟩ => ⟨v, t, e, a, Rps.allInt (ds := r) hi b⟩
  | .none :: _, _, hi, _ => by cases hi
  | .bool _ :: _, _, hi, _ => by cases hi
  | .str _ :: _, _, hi, _ => by cases hi
  | .list _ :: _, _, hi, _ => by cases hi
  | .tuple _ :: _, _, hi, _ => by cases hi
  | .dict _ :: _, _, hi, _ => by cases hi
theorem boxInts_get : ∀ {S : SS} {k : Nat} {d : PyData}, boxInts S = true → S[k]? = some d → ∃ ds, d = .list ds ∧ allInt ds = true
  | .list ds :: r, 0, d, h, e => by
    cases e
    exact ⟨ds, rfl, (Bool.and_eq_true_iff.mp h).1⟩
  | .list ds :: r, k + 1, d, h, e => boxInts_get (S := r) (k := k) (Bool.and_eq_true_iff.mp h).2 e
  | [], _, _, _, e => by cases e
  | .none :: _, _, _, h, _ => by cases h
  | .bool _ :: _, _, _, h, _ => by cases h
  | .int _ :: _, _, _, h, _ => by cases h
  | .str _ :: _, _, _, h, _ => by cases h
  | .tuple _ :: _, _, _, h, _ => by cases h
  | .dict _ :: _, _, _, h, _ => by cases h
theorem wT.lock {σ : L2.St} {H : Hp} {Q : Bool → Hp → Prop} {d : Addr} {u : HO} (hd : H d = some u) (mu : Mut (some u)) (h : ∀ od, wT X e σ (upd H d (.frz od u)) fun b H' => H' d = some (.frz od u) ∧ Q b (upd H' d u)) : wT X e σ H Q := fun pins s I => by
  obtain ⟨od, I1⟩ := I.lock hd mu
  exact thn (h od pins s I1) fun b s1 ⟨H1, I2, e2, q⟩ => ⟨_, I2.unlock e2 (I.nofrz hd mu), q⟩
/-- the test runs while slot i's own object is only read -/
def fLend (i : Nat) (g : FT) : FT := fun sl S => match g (lockSl i sl) S with
  | some (.tb b S') => if boxInts S' = true then some (.tb b S') else none
  | _ => none
theorem denT_lend (i : Nat) (h : DenT X e g) : DenT X e (fLend i g) := by
  refine .mk ?_; intro H0 φ0 φ σ H sl S r R hf Q W tk post
  unfold fLend at hf
  split at hf
  · rename_i b S' h1
    split at hf
    · rename_i hb
      cases hf
      by_cases ho : ∃ d, sl[i]? = some (.own d)
      · obtain ⟨d, ho⟩ := ho
        obtain ⟨p, o, ep, eo, mt, mu, p0, np, q⟩ := R.lockAt ho
        rw [lockSl_own ho] at h1
        refine wT.lock eo mt fun od => h H0 φ0 φ σ _ _ S _ (q od).1 h1 _ _ takes_no fun H' φ' R' l' => ?_
        have ef : H' p = some (.frz od o) := l'.keep p _ upd_same np
        have np' : p ∉ φ' := fun z => by
          have := l'.new p z np
          rw [upd_same] at this
          cases this
        refine ⟨ef, ?_⟩
        have zf : Fz H (upd H' p o) := fun a w ha m => by
          have hap : a ≠ p := fun z => by subst z; rw [eo] at ha; cases ha; rw [mu] at m; cases m
          rw [upd_ne hap]
          exact l'.fz a w (by rw [upd_ne hap]; exact ha) m
        have keep : ∀ a w, H a = some w → a ∉ φ → (upd H' p o) a = some w := fun a w ha na => by
          by_cases hap : a = p
          · subst hap
            rw [upd_same]
            rw [eo] at ha
            exact ha
          · rw [upd_ne hap]
            exact l'.keep a w (by rw [upd_ne hap]; exact ha) na
        have l2 : Le φ H φ' (upd H' p o) := ⟨keep, l'.pre, fun a ha na => by
          have hap : a ≠ p := fun z => by subst z; exact np' ha
          have := l'.new a ha na
          rw [upd_ne hap] at this
          exact this, zf⟩
        refine post _ φ' (R.le l2 R'.blen R'.nd fun k a d' hk hd => ?_) l2
        have B := R'.box k a d' hk hd
        have hap : a ≠ p := fun z => by subst z; exact np' (List.mem_of_getElem? hk)
        obtain ⟨ds, rfl, hi⟩ := boxInts_get hb hd
        obtain ⟨vs, e, r⟩ := B
        exact ⟨vs, by rw [upd_ne hap]; exact e, r.allInt hi⟩
      · rw [lockSl_not fun d e => ho ⟨d, e⟩] at h1
        exact h H0 φ0 φ σ H sl S _ R h1 Q W tk post
    · cases hf
  · cases hf
end
end PP
set_option Elab.async false
set_option linter.all false
set_option maxRecDepth 100000
set_option maxHeartbeats 4000000
namespace PP
open PySem L2
/-! ## what is written: own lists, boxes -/
section
variable {K : PySem.W.Frag} {mg : Str → Option Value} {H0 H : Hp} {φ0 φ : List Addr} {σ : L2.St} {sl : Sl} {S : SS}
theorem fz_upd {p : Addr} {o o' : HO} (e : H p = some o) (m : Mu o = true) : Fz H (upd H p o') := fun a u h n => by
  rw [upd_ne (fun z => by subst z; rw [e] at h; cases h; rw [m] at n; cases n)]
  exact h
theorem set_same {σ : L2.St} {i : Nat} {x : Option V} (h : σ[i]? = some x) : σ.set i x = σ := by
  refine List.ext_getElem? fun j => ?_
  by_cases hj : i = j
  · subst hj
    rw [List.getElem?_set_self (List.getElem?_eq_some_iff.mp h).1, h]
  · rw [List.getElem?_set_ne hj]
theorem Rel.ownSet (R : Rel K mg H0 φ0 φ σ H sl S) {i : Nat} {p : Addr} {d d' : PyData} {o' : HO} (h : sl[i]? = some (.own d)) (hp : σ[i]? = some (some (.ref p))) (ow : Own1 K (upd H p o') p d') : Rel K mg H0 φ0 φ σ (upd H p o') (sl.set i (.own d')) S := by
  obtain ⟨q, e1, e2, e3, e4⟩ := R.slots i _ h
  rw [hp] at e1
  cases e1
  obtain ⟨o, eo, mu⟩ := e2.mu
  have hl : i < sl.length := (List.getElem?_eq_some_iff.mp h).1
  have ns : ∀ (j : Nat) (d' : PyData), (sl.set i .un)[j]? = some (.own d') → σ[j]? ≠ some (some (.ref p)) := fun j d' hj g => by
    by_cases hij : i = j
    · subst hij
      rw [List.getElem?_set_self hl] at hj
      cases hj
    · rw [List.getElem?_set_ne hij] at hj
      exact R.dist i j p p d d' hij h hj hp g rfl
  have R1 : Rel K mg H0 φ0 φ (σ.set i (some (.ref p))) H (sl.set i .un) S := R.un i _
  rw [set_same hp] at R1
  have R2 := R1.write (o' := o') eo mu e4 e3 ns
  have R3 := R2.put (t := .fresh) (v := .py d') (u := .ref p) ⟨p, rfl, ow, e3, e4, ns⟩ rfl i
  rw [set_same hp, List.set_set] at R3
  exact R3
theorem Rel.boxSet (R : Rel K mg H0 φ0 φ σ H sl S) {k : Nat} {p : Addr} {d d' : PyData} {o' : HO} (hp : φ[k]? = some p) (h : S[k]? = some d) (ow : Own1 K (upd H p o') p d') : Rel K mg H0 φ0 φ σ (upd H p o') sl (S.set k d') := by
  obtain ⟨o, eo, mu⟩ := (R.box k p d hp h).mu
  have z : Fz H (upd H p o') := fz_upd eo mu
  have other : ∀ a, a ≠ p → (upd H p o') a = H a := fun a h => upd_ne h
  have hm : p ∈ φ := List.mem_of_getElem? hp
  have hl : k < S.length := (List.getElem?_eq_some_iff.mp h).1
  refine ⟨R.len, fun i s h => ?_, R.dist, by rw [List.length_set]; exact R.blen, fun k' a d'' h1 h2 => ?_, R.nd, R.pre, R.new, fun a u h g => ?_⟩
  · have q := R.slots i s h
    cases s with
    | un => trivial
    | p v => obtain ⟨u, e1, e2⟩ := q; exact ⟨u, e1, e2.mono z ⟨[], by simp⟩⟩
    | own d =>
      obtain ⟨p', e1, e2, e3, e4⟩ := q
      exact ⟨p', e1, e2.mono z (other p' fun y => by subst y; exact e4 hm), e3, e4⟩
  · by_cases hk : k = k'
    · subst hk
      rw [hp] at h1
      cases h1
      rw [List.getElem?_set_self hl] at h2
      cases h2
      exact ow
    · rw [List.getElem?_set_ne hk] at h2
      refine (R.box k' a d'' h1 h2).mono z (other a fun y => hk ?_)
      subst y
      exact (List.getElem?_inj (List.getElem?_eq_some_iff.mp hp).1 R.nd).mp (hp.trans h1.symm)
  · by_cases ha : a = p
    · subst ha
      have q := R.new a hm g
      rw [h] at q
      cases q
    · rw [other a ha]
      exact R.keep a u h g
/-- a new object becomes a box -/
theorem Rel.newBox (R : Rel K mg H0 φ0 φ σ H sl S) {p : Addr} {d : PyData} (ow : Own1 K H p d) (h0 : H0 p = none) (n : p ∉ φ) (ns : ∀ (i : Nat) (d' : PyData), sl[i]? = some (.own d') → σ[i]? ≠ some (some (.ref p))) : Rel K mg H0 φ0 (φ ++ [p]) σ H sl (S ++ [d]) := by
  refine ⟨R.len, fun i s h => ?_, R.dist, by rw [List.length_append, List.length_append, R.blen]; rfl, fun k a d' h1 h2 => ?_, ?_, ?_, fun a h g => ?_, R.keep⟩
  · have q := R.slots i s h
    cases s with
    | un => trivial
    | p v => obtain ⟨u, e1, e2⟩ := q; exact ⟨u, e1, e2.mono (Fz.refl _) ⟨[p], rfl⟩⟩
    | own d =>
      obtain ⟨p', e1, e2, e3, e4⟩ := q
      refine ⟨p', e1, e2, e3, fun z => ?_⟩
      rcases List.mem_append.mp z with z | z
      · exact e4 z
      · have e : p' = p := by simpa using z
        subst e
        exact ns i d h e1
  · by_cases hk : k < φ.length
    · rw [List.getElem?_append_left hk] at h1
      rw [List.getElem?_append_left (by rw [← R.blen]; exact hk)] at h2
      exact R.box k a d' h1 h2
    · have bl := R.blen
      have hl : k < (φ ++ [p]).length := (List.getElem?_eq_some_iff.mp h1).1
      rw [List.length_append] at hl
      have e : k = φ.length := by simp only [List.length_singleton] at hl; omega
      subst e
      rw [List.getElem?_append_right (Nat.le_refl _)] at h1
      rw [List.getElem?_append_right (by omega)] at h2
      rw [Nat.sub_self] at h1
      rw [bl, Nat.sub_self] at h2
      cases h1
      cases h2
      exact ow
  · refine List.nodup_append.mpr ⟨R.nd, by simp, fun a ha b hb e => ?_⟩
    have e2 : b = p := by simpa using hb
    subst e2
    subst e
    exact n ha
  · obtain ⟨ψ, e⟩ := R.pre
    exact ⟨ψ ++ [p], by rw [e, List.append_assoc]⟩
  · rcases List.mem_append.mp h with h | h
    · exact R.new a h g
    · have e : a = p := by simpa using h
      subst e
      exact h0
end
section
variable {X : Cx} {e : Expr} {es : List Expr} {fe : FE} {g : FA} {pos p : Pos} {i j k : Nat} {x : Str}
def fSetBox (i : Nat) (f : FE) : FS := fun sl S => bindS (f sl S) sl fun t v S1 => match t, v with
  | .fresh, .py d => some (.nx (sl.set i (.p (.box S1.length))) (S1 ++ [d]))
  | _, _ => none
/-- name = e, e's new object is a box from now on -/
theorem denS_setBox {pos' : Pos} (c : Ct X k) (hi : X.N[i]? = some x) (hx : Loc X.env.scope x) (hxf : X.fn x = true ∨ X.env.scope.names.lookup x = some .local) (he : Den X e fe) (hs : swapsWith e (some (.Name x pos')) pos.line X.env = pure false) :
    DenS1 X (.Assign [.Name x pos'] e pos) (fSetBox i fe) := by
  refine .mk ?_; intro H0 φ0 φ σ H sl S r R hf D W tk post
  refine wS1.of (ps_set c.nd hi hx wE.pe hs hxf) (den_thenS he R tk hf post fun t v S1 u H1 φ1 hk R1 l1 rv fr => ?_)
  split at hk
  · rename_i d
    cases hk
    obtain ⟨p, rfl, ow, h0, n, ns⟩ := rv
    have R2 := R1.newBox ow h0 n ns
    refine post _ H1 (φ1 ++ [p]) (R2.put (t := .pure) (v := .box S1.length) (u := .ref p) ⟨p, ?_, rfl⟩ rfl i) l1.fz
    rw [← R1.blen, List.getElem?_append_right (Nat.le_refl _), Nat.sub_self]
    rfl
  · cases hk
def fBoxSet (i j : Nat) (f : FE) : FS := fun sl S => bindS (f sl S) sl fun t v S1 => match t, v, sl[i]? with
  | .pure, .py y, some (.p (.box k)) => match S1[k]? with
    | some (.list ds) => if j < ds.length then some (.nx sl (S1.set k (.list (ds.set j y)))) else none
    | _ => none
  | _, _, _ => none
/-- name[j] = e, the name's object a box -/
theorem denS_boxSet {c2 : Nat} {p1 p2 p3 : Pos} (hN : X.N[i]? = some x) (hv : Vis X.env.scope x) (hd : (x == ("__debug__" : Str)) = false) (hcd : (x == ("__classdict__" : Str)) = false) (he : Den X e fe)
    (ha : ∀ v, assign (.Subscript (.Name x p1) (.Constant (.int (j : Nat)) c2 p2) p3) X.env v = (do
      let ov ← holding [v] (eval (.Name x p1) X.env)
      let iv ← holding [v, ov] (eval (.Constant (.int (j : Nat)) c2 p2) X.env)
      standAt p3
      holding [v, ov, iv] (setItem ov iv v)
      release [v, ov, iv] []))
    (hs : swapsWithSole [.Subscript (.Name x p1) (.Constant (.int (j : Nat)) c2 p2) p3] e pos.line X.env = pure false) (hw : swappedStores [.Subscript (.Name x p1) (.Constant (.int (j : Nat)) c2 p2) p3] e X.env = pure none)
    (h1 : (assignEach [.Subscript (.Name x p1) (.Constant (.int (j : Nat)) c2 p2) p3] X.env).map (·.2) = [assign (.Subscript (.Name x p1) (.Constant (.int (j : Nat)) c2 p2) p3) X.env]) :
    DenS1 X (.Assign [.Subscript (.Name x p1) (.Constant (.int (j : Nat)) c2 p2) p3] e pos) (fBoxSet i j fe) := by
  refine .mk ?_; intro H0 φ0 φ σ H sl S r R hf D W tk post
  refine wS1.of (ps_asg wE.pe (pg_sub wE.pe wE.pe set_list ha) hs hw h1) (den_thenS he R tk hf post fun t v S1 u H1 φ1 hk R1 l1 rv fr => ?_)
  split at hk
  · rename_i y k e1
    split at hk
    · rename_i ds e2
      split at hk
      · rename_i hj
        cases hk
        refine wE.of (pe_var hN hv hd hcd) ?_
        obtain ⟨uo, eo, a, ea, rfl⟩ := R1.slots i _ e1
        refine ⟨.ref a, eo, wE.of pe_int ?_⟩
        obtain ⟨vs, hvs, rs⟩ := R1.box k a _ ea e2
        refine ⟨a, vs, (j : Int), j, rfl, rfl, hvs, ?_, ?_⟩
        · unfold ixN
          have := rs.len
          rw [if_pos (by omega), if_pos (by omega)]
          simp
        · have z : Fz H1 (upd H1 a (.lst (vs.set j u))) := fz_upd hvs rfl
          refine post σ _ φ1 (R1.boxSet ea e2 ⟨_, upd_same, (rs.mono z).set j (Rp.mono z y rv)⟩) (l1.fz.trans z)
      · cases hk
    · cases hk
  · cases hk
def fApp (i : Nat) (g : FA) : FS := fun sl S => match g sl S with
  | some (.vals [(.pure, .py y)] S1) => match sl[i]? with
    | some (.own (.list ds)) => if ds.length < LIM then some (.nx (sl.set i (.own (.list (ds ++ [y])))) S1) else none
    | _ => none
  | _ => none
theorem mt_app : MtR X "list.append" rAppend := mt_append
/-- name.append(e), the name's object its own -/
theorem denS_append {p1 apos cpos : Pos} (hN : X.N[i]? = some x) (hv : Vis X.env.scope x) (hd : (x == ("__debug__" : Str)) = false) (hcd : (x == ("__classdict__" : Str)) = false) (ha : DenA X [e] g)
    (hbase : attributeBase (.Name x p1) "append" X.env (eval (.Name x p1) X.env) = eval (.Name x p1) X.env)
    (hfew : ((backTo cpos (starEach [e] X.env)).all (fun x => !x.1) && (backToKw cpos (keywordEach [] X.env)).all (fun x => x.1.isSome)
      && decide (([e] : List Expr).length + ([] : List Keyword).length + (if ([] : List Keyword).isEmpty then 0 else 1) < 30)) = true)
    (hline : (apos.endLine == cpos.line) = true) (hst : starEach [e] X.env = (false, eval e X.env) :: starEach [] X.env) (hplain : (backTo cpos (starEach [] X.env)).any (·.1) = false)
    (hs : swapsWith (.Call (.Attribute (.Name x p1) "append" apos) [e] [] cpos) none pos.line X.env = pure false) :
    DenS1 X (.Expr (.Call (.Attribute (.Name x p1) "append" apos) [e] [] cpos) pos) (fApp i g) := by
  refine .mk ?_; intro H0 φ0 φ σ H sl S r R hf D W tk post
  refine wS1.of (ps_expr (pe_bm PySem.F.plainAttrs_list PySem.F.slot_list_append PySem.F.type_list_append mt_app wE.pe wA.pa hbase hfew hline hst hplain) hs) ?_
  unfold fApp at hf
  split at hf
  · rename_i y S1 h1
    split at hf
    · rename_i ds e1
      split at hf
      · rename_i hl
        cases hf
        obtain ⟨q, eq, ow, _, nb⟩ := R.slots i _ e1
        refine wE.of (pe_var hN hv hd hcd) ⟨.ref q, eq, ?_⟩
        obtain ⟨vs0, hvs0, _⟩ := ow
        refine ⟨.inl ⟨rfl, vs0, .inl (.inl hvs0)⟩, ?_⟩
        refine ha H0 φ0 φ σ H sl S _ R h1 _ W tk fun us H1 φ1 R1 l1 rvs => ?_
        obtain ⟨u, t, rfl, rv, rfl⟩ := rvs
        obtain ⟨q', eq', ow1, _, nb1⟩ := R1.slots i _ e1
        rw [eq] at eq'
        cases eq'
        obtain ⟨vs, hvs, rs⟩ := ow1
        refine ⟨q, vs, u, rfl, rfl, hvs, Nat.lt_of_lt_of_le (by rw [rs.len]; exact hl) (lim_line (Nat.le_refl _)), ?_⟩
        have z : Fz H1 (upd H1 q (.lst (vs ++ [u]))) := fz_upd hvs rfl
        exact post σ _ φ1 (R1.ownSet e1 eq ⟨_, upd_same, (rs.mono z).app ⟨u, [], rfl, Rp.mono z y rv, rfl⟩⟩) (l1.fz.trans z)
      · cases hf
    · cases hf
  · cases hf
end
end PP
set_option Elab.async false
set_option linter.all false
set_option maxRecDepth 100000
set_option maxHeartbeats 4000000
namespace PP
open PySem L2
/-! ## a module's written dict with text keys -/
structure TabOk (K : PySem.W.Frag) (w : World) (p : Addr) (kvs : List (Str × PyData)) : Prop where
  kd : ∃ es n, KDict K w p es n
  get : ∀ z : Str, ∃ r, PySem.W.nsIn K p z = some r ∧ ((kvs.lookup z = none ∧ r = none) ∨ ∃ d u v, kvs.lookup z = some d ∧ r = some u ∧ RelV v u ∧ ∀ H, Rp K H d v)
section
variable {X : Cx} {e f : Expr} {fe ff : FE} {pos p2 apos : Pos} {T : Str} {p : Addr} {kvs : List (Str × PyData)} {k : Nat}
def fTabIn (neg : Bool) (kvs : List (Str × PyData)) (f : FE) : FE := fun sl S => bindE (f sl S) fun _ v S1 => match v with
  | .py (.str z) => some (.val .pure (.py (.bool (neg ^^ (kvs.lookup z).isSome))) S1)
  | _ => none
theorem RV.str {K : PySem.W.Frag} {mg : Str → Option Value} {H0 H : Hp} {φ : List Addr} {σ : L2.St} {sl : Sl} {t : Tg} {z : Str} {u : V} (r : RV K mg H0 H φ σ sl t (.py (.str z)) u) : u = .str z := by
  cases t with
  | pure => exact r
  | fresh => obtain ⟨_, _, o, _⟩ := r; exact o.elim
  | mine => obtain ⟨_, _, o, _⟩ := r; exact o.elim
theorem tabIn_go (hg : Gl X T) (hm : X.mg T = some (.ref p)) (tb : TabOk X.K X.w p kvs) (he : Den X e fe) (hdb : (T == ("__debug__" : Str)) = false) {neg : Bool} {g : Value → Value → Sem Value}
    (hop : ∀ es n, KDict X.K X.w p es n → OpR X g (fun x y H Q => ∃ (z : Str) (r : Option Value), x = .str z ∧ y = .ref p ∧ PySem.W.nsIn X.K p z = some r ∧ Q (.bl (neg ^^ r.isSome)) H))
    {H0 : Hp} {φ0 φ : List Addr} {σ : L2.St} {H : Hp} {sl : Sl} {S : SS} {r : ER} {Q : VK} {W : WX} (R : Rel X.K X.mg H0 φ0 φ σ H sl S) (tk : Takes X W) (hf : fTabIn neg kvs fe sl S = some r) (post : Post X H0 φ0 φ σ H sl Q W r) :
    tOp (OpRun X g) (wE X e) (wE X (.Name T p2)) σ H Q := by
  refine den_then he R tk hf post fun t v S1 u H1 φ1 hk R1 l1 rv post1 => ?_
  split at hk
  · rename_i z
    cases hk
    obtain rfl := rv.str
    refine wE.of (pe_glob (v := .ref p) hg hm rfl hdb) ?_
    obtain ⟨es, n, kd⟩ := tb.kd
    obtain ⟨r, hn, h⟩ := tb.get z
    refine OpRun.of (hop es n kd) ⟨z, r, rfl, rfl, hn, ?_⟩
    have e1 : r.isSome = (kvs.lookup z).isSome := by
      rcases h with ⟨a, b⟩ | ⟨d, u, v, a, b, _⟩
      · rw [a, b] <;> rfl
      · rw [a, b] <;> rfl
    rw [e1]
    exact post1 _ H1 φ1 R1 (Le.refl _ _) rfl (fun z => nomatch z)
  · cases hk
theorem op_inT {es : Array DictEntry} {n : Nat} (D : KDict X.K X.w p es n) : OpR X (compareOp .In) (fun x y H Q => ∃ (z : Str) (r : Option Value), x = .str z ∧ y = .ref p ∧ PySem.W.nsIn X.K p z = some r ∧ Q (.bl (false ^^ r.isSome)) H) := fun pins s σ H x y v u Q I rx ry ⟨z, r, e1, e2, e3, q⟩ =>
  op_in_kd D pins s σ H x y v u Q I rx ry ⟨z, r, e1, e2, e3, by simpa using q⟩
theorem op_notInT {es : Array DictEntry} {n : Nat} (D : KDict X.K X.w p es n) : OpR X (compareOp .NotIn) (fun x y H Q => ∃ (z : Str) (r : Option Value), x = .str z ∧ y = .ref p ∧ PySem.W.nsIn X.K p z = some r ∧ Q (.bl (true ^^ r.isSome)) H) := fun pins s σ H x y v u Q I rx ry ⟨z, r, e1, e2, e3, q⟩ =>
  op_notIn_kd D pins s σ H x y v u Q I rx ry ⟨z, r, e1, e2, e3, by simpa using q⟩
theorem den_tabIn (hg : Gl X T) (hm : X.mg T = some (.ref p)) (tb : TabOk X.K X.w p kvs) (he : Den X e fe) (hdb : (T == ("__debug__" : Str)) = false) (hmk : behindInMarks .In (.Name T p2) = false) : Den X (.Compare e [.In] [.Name T p2] pos) (fTabIn false kvs fe) :=
  .mk fun H0 φ0 φ σ H sl S r R hf Q W tk post => wE.of (pe_cmpR OpRun.op wE.pe wE.pe hmk) (tabIn_go hg hm tb he hdb (fun es n kd => op_inT kd) R tk hf post)
theorem denT_tabIn (hg : Gl X T) (hm : X.mg T = some (.ref p)) (tb : TabOk X.K X.w p kvs) (he : Den X e fe) (hdb : (T == ("__debug__" : Str)) = false) (hmk : behindInMarks .In (.Name T p2) = false) : DenT X (.Compare e [.In] [.Name T p2] pos) (fTb (fTabIn false kvs fe)) :=
  .mk fun H0 φ0 φ σ H sl S r R hf Q W tk post => by
    obtain ⟨r', h1, p⟩ := post_bool hf post
    exact wT.of (pt_cmpR OpRun.op wE.pe wE.pe hmk) (tabIn_go hg hm tb he hdb (fun es n kd => op_inT kd) R tk h1 p)
def fTabIx (kvs : List (Str × PyData)) (f : FE) : FE := fun sl S => bindE (f sl S) fun _ v S1 => match v with
  | .py (.str z) => match kvs.lookup z with
    | some d => some (.val .pure (.py d) S1)
    | none => none
  | _ => none
theorem den_tabIx (hg : Gl X T) (hm : X.mg T = some (.ref p)) (tb : TabOk X.K X.w p kvs) (he : Den X e fe) (hdb : (T == ("__debug__" : Str)) = false) (hs : PlainIx e) : Den X (.Subscript (.Name T p2) e pos) (fTabIx kvs fe) := by
  refine .mk ?_; intro H0 φ0 φ σ H sl S r R hf Q W tk post
  refine wE.of (pe_ix IxRun.op wE.pe wE.pe hs) ?_
  refine wE.of (pe_glob (v := .ref p) hg hm rfl hdb) ?_
  refine den_then he R tk hf post fun t v S1 u H1 φ1 hk R1 l1 rv post1 => ?_
  split at hk
  · rename_i z
    split at hk
    · rename_i d hd
      cases hk
      obtain rfl := rv.str
      obtain ⟨es, n, kd⟩ := tb.kd
      obtain ⟨r, hn, h⟩ := tb.get z
      rcases h with ⟨a, b⟩ | ⟨d', u, v, a, b, rv', rp⟩
      · rw [a] at hd; cases hd
      · rw [a] at hd
        cases hd
        subst b
        exact IxRun.of ix_kdict ⟨p, z, v, rfl, rfl, ⟨es, n, u, kd.at_, kd.lit, hn, rv'⟩, post1 v H1 φ1 R1 (Le.refl _ _) (rp H1) (fun z => nomatch z)⟩
    · cases hk
  · cases hk
/-- T.get(e, f) -/
def fTabGet (kvs : List (Str × PyData)) (f g : FE) : FE := fun sl S => bindE (f sl S) fun _ v S1 => match v with
  | .py (.str z) => bindE (g sl S1) fun t2 v2 S2 => match t2 with
    | .pure => match kvs.lookup z with
      | some d => some (.val .pure (.py d) S2)
      | none => some (.val .pure v2 S2)
    | _ => none
  | _ => none
theorem den_tabGet (hg : Gl X T) (hm : X.mg T = some (.ref p)) (tb : TabOk X.K X.w p kvs) (he : Den X e fe) (hff : Den X f ff) (hdb : (T == ("__debug__" : Str)) = false) (m : M2 X (.Name T p2) "get" apos e f pos) :
    Den X (.Call (.Attribute (.Name T p2) "get" apos) [e, f] [] pos) (fTabGet kvs fe ff) := by
  refine .mk ?_; intro H0 φ0 φ σ H sl S r R hf Q W tk post pins s I
  obtain ⟨es, n, kd⟩ := tb.kd
  refine wpAny_Call_method m.base m.few m.line PySem.F.plainAttrs_dict PySem.F.slot_dict_get PySem.F.type_dict_get (ld_glob I hg hm ?_ hdb)
  refine ⟨kd_type kd I, fun a q => ?_, ?_⟩
  · cases q
    exact ⟨_, I.kIn _ _ kd.at_, rfl⟩
  rw [m.trees]
  refine Calls.callWith_builtin rfl (Calls.evalArgs_plain (Calls.spliced_cons ?_))
  refine thn (den_then (Q' := fun x H1 => ∃ z, x = .str z ∧ wE X f σ H1 fun y H2 => ∃ r, PySem.W.nsIn X.K p z = some r ∧ (∀ u, r = some u → ∃ v, RelV v u ∧ Q v H2) ∧ (r = none → Q y H2)) he R tk hf post (fun t v S1 u H1 φ1 hk R1 l1 rv post1 => ?_) pins s I) ?_
  · split at hk
    · rename_i z
      obtain rfl := rv.str
      refine ⟨z, rfl, den_then hff R1 tk hk post1 fun t2 v2 S2 u2 H2 φ2 hk2 R2 l2 rv2 post2 => ?_⟩
      obtain ⟨r, hn, h⟩ := tb.get z
      split at hk2
      · refine ⟨r, hn, fun u e => ?_, fun e => ?_⟩
        · rcases h with ⟨a, b⟩ | ⟨d', u', v, a, b, rv', rp⟩
          · rw [b] at e; cases e
          · rw [a] at hk2
            cases hk2
            rw [b] at e
            cases e
            exact ⟨v, rv', post2 v H2 φ2 R2 (Le.refl _ _) (rp H2) (fun z => nomatch z)⟩
        · rcases h with ⟨a, b⟩ | ⟨d', u', v, a, b, rv', rp⟩
          · rw [a] at hk2
            cases hk2
            exact post2 u2 H2 φ2 R2 (Le.refl _ _) rv2 (fun z => nomatch z)
          · rw [b] at e; cases e
      · cases hk2
    · cases hk
  · rintro iv s2 ⟨x, H2, I2, ry, z, rfl, h2⟩
    obtain ⟨tz, rfl⟩ := ry
    refine Calls.spliced_cons (thn (h2 pins s2 I2) fun fv s3 ⟨y, H3, I3, rz, r, hn, q1, q2⟩ => Calls.spliced_nil ?_)
    have mp := PySem.W.mapOf_K (prog := X.prog) (w := X.w) I3.kIn kd.at_ kd.lit
    refine call_meetsIn PySem.F.slot_dict_get (kd_type kd I3) PySem.F.entry_dict_get (PySem.F.args_dict_get_3 _ _ _) (meets_dict_get_default (strKind X.prog X.w) p (strKind_is X.prog X.w z tz) kd.low fv) ⟨_, mp, ?_⟩
    rw [PySem.W.find_K kd.at_ hn]
    cases r with
    | none => exact ⟨y, H3, I3.tok _, rz, q2 rfl⟩
    | some u =>
      obtain ⟨v, rv, q⟩ := q1 u rfl
      exact ⟨v, H3, I3.tok _, rv, q⟩
/-! ### whole numbers -/
def fBits (f : FE) : FE := fun sl S => bindE (f sl S) fun _ v S1 => match v with
  | .py (.int i) => some (.val .pure (.py (.int ((Builtin.Int.intBits i : Nat) : Int))) S1)
  | _ => none
theorem den_bits (he : Den X e fe) (hbase : attributeBase e "bit_length" X.env (eval e X.env) = eval e X.env) (hline : (apos.endLine == pos.line) = true) : Den X (.Call (.Attribute e "bit_length" apos) [] [] pos) (fBits fe) := by
  refine .mk ?_; intro H0 φ0 φ σ H sl S r R hf Q W tk post
  refine wE.of (pe_bits wE.pe hbase hline) (den_then he R tk hf post fun t v S1 u H1 φ1 hk R1 l1 rv post1 => ?_)
  split at hk
  · rename_i i
    cases hk
    obtain rfl := rv.int
    exact ⟨i, rfl, post1 _ H1 φ1 R1 (Le.refl _ _) rfl (fun z => nomatch z)⟩
  · cases hk
def powP : PyData → PyData → Option (Tg × PyData)
  | .int i, .int j => if 0 ≤ j ∧ j ≤ 1000 ∧ Builtin.Int.intBits i ≤ 10000 then some (.pure, .int (i ^ j.toNat)) else none
  | _, _ => none
theorem sem_pow : BinSem X (binaryOp .Pow) powP := by
  intro dx dy x y H t d Q sx sy hs q
  unfold powP at hs
  split at hs
  · rename_i i j
    split at hs
    · rename_i hc
      cases hs
      obtain rfl : x = .int i := sx
      obtain rfl : y = .int j := sy
      intro pins s σ v u I rx ry
      obtain ⟨a, rfl⟩ := rx
      obtain ⟨b, rfl⟩ := ry
      obtain ⟨c1, c2, c3⟩ := hc
      refine PyProof.Rows.pow_int c1 ?_ ⟨.int _, H, I.tok _, ⟨_, rfl⟩, q _ H (Ext.refl H) rfl⟩
      have h1 : ((Builtin.Int.intBits i : Nat) : Int) ≤ 10000 := by exact_mod_cast c3
      calc ((Builtin.Int.intBits i : Nat) : Int) * j ≤ 10000 * 1000 := Int.mul_le_mul h1 c2 c1 (by omega)
        _ ≤ 2 ^ 27 := by decide
    · cases hs
  · cases hs
def intsOf : List PyData → Option (List Int)
  | [] => some []
  | .int i :: r => match intsOf r with
    | some ns => some (i :: ns)
    | none => none
  | _ :: _ => none
theorem rps_ints {K : PySem.W.Frag} {H : Hp} : ∀ {ds : List PyData} {vs : List V} {ns : List Int}, intsOf ds = some ns → Rps K H ds vs → vs = ns.map V.int
  | [], _, _, h, e => by cases h; cases e; rfl
  | .int i :: r, _, ns, h, ⟨v, t, e, a, b⟩ => by
    unfold intsOf at h
    split at h
    · rename_i ns' h1
      cases h
      obtain rfl : v = .int i := a
      rw [e, rps_ints h1 b]
      rfl
    · cases h
  | .none :: _, _, _, h, _ => by cases h
  | .bool _ :: _, _, _, h, _ => by cases h
  | .str _ :: _, _, _, h, _ => by cases h
  | .list _ :: _, _, _, h, _ => by cases h
  | .tuple _ :: _, _, _, h, _ => by cases h
  | .dict _ :: _, _, _, h, _ => by cases h
def sumP : List PyData → Option (Tg × PyData)
  | [.list ds] => match intsOf ds with
    | some ns => some (.pure, .int ns.sum)
    | none => none
  | _ => none
theorem sem_sum (c : Ct X k) : CallSem X (.builtin "sum") sumP := by
  intro ds xs H t d Q sh hs q
  unfold sumP at hs
  split at hs
  · rename_i ys
    split at hs
    · rename_i ns h1
      cases hs
      obtain ⟨u, r, rfl, ⟨p, vs, rfl, r1, a1⟩, rfl⟩ := sh
      obtain rfl := rps_ints h1 a1
      exact CallRun.of (cr_sum c.calm) ⟨p, ns, rfl, r1, q _ H (Ext.refl H) rfl⟩
    · cases hs
  · cases hs
end
end PP
set_option Elab.async false
set_option linter.all false
set_option maxRecDepth 100000
set_option maxHeartbeats 4000000
namespace PP
open PySem L2 PySem.Spec PyProof.Rows
/-! ## calls by names, calls of a name that holds a def -/
def wK (X : Cx) (kws : List Keyword) : TA := fun σ H Q => ∀ (pos : Pos) (pins : List (Addr × Obj)) (s : Shared), Inv X pins σ H s → wpAny (model X.prog X.w) X.A (evalAll ((backToKw pos (keywordEach kws X.env)).map (·.2))) (AP X pins σ Q) X.xe s
theorem wK.pk {X : Cx} {kws : List Keyword} : PK X kws (wK X kws) := ⟨fun pos pins s σ H Q I h => h pos pins s I⟩
theorem wK.of {X : Cx} {kws : List Keyword} {t : TA} {σ : L2.St} {H : Hp} {Q : List V → Hp → Prop} (h : PK X kws t) (q : t σ H Q) : wK X kws σ H Q := fun pos pins s I => h.run pos pins s σ H Q I q
def DenK_ (X : Cx) (kws : List Keyword) (f : FA) : Prop :=
  ∀ (H0 : Hp) (φ0 φ : List Addr) (σ : L2.St) (H : Hp) (sl : Sl) (S : SS) (r : AR), Rel X.K X.mg H0 φ0 φ σ H sl S → f sl S = some r →
    ∀ (Q : List V → Hp → Prop) (W : WX), Takes X W → PostA X H0 φ0 φ σ H sl Q W r → wK X kws σ H Q
structure DenK (X : Cx) (kws : List Keyword) (f : FA) : Prop where
  run : DenK_ X kws f
instance {X : Cx} {kws : List Keyword} {f : FA} : CoeFun (DenK X kws f) (fun _ => DenK_ X kws f) := ⟨DenK.run⟩
section
variable {X : Cx} {e : Expr} {es : List Expr} {kws : List Keyword} {f : FE} {g : FA} {p pos kpos : Pos} {x : Str} {k k' n i : Nat} {F : FF} {nm : Option Str}
theorem denK_nil : DenK X [] faNil := by
  refine .mk ?_; intro H0 φ0 φ σ H sl S r R hf Q W tk post
  cases hf
  exact wK.of pk_nil (post [] H φ R (Le.refl _ _) rfl)
theorem denK_cons (h : Den X e f) (hs : DenK X kws g) : DenK X (⟨nm, e, kpos⟩ :: kws) (faCons f g) := by
  refine .mk ?_; intro H0 φ0 φ σ H sl S r R hf Q W tk post
  refine wK.of (pk_cons wE.pe wK.pk) ?_
  unfold faCons at hf
  split at hf
  · rename_i t v S1 h1
    refine h H0 φ0 φ σ H sl S _ R h1 _ W tk fun u H1 φ1 R1 l1 rv _ => ?_
    split at hf
    · rename_i xs S2 h2
      cases hf
      exact hs H0 φ0 φ1 σ H1 sl S1 _ R1 h2 _ W tk fun us H2 φ2 R2 l2 rvs => post _ H2 φ2 R2 (l1.trans l2) ⟨u, us, rfl, rv.le l2, rvs⟩
    · rename_i c d S2 h2
      cases hf
      exact hs H0 φ0 φ1 σ H1 sl S1 _ R1 h2 _ W tk (fun C dx H' φ' R' l' => post C dx H' φ' R' (l1.trans l'))
    · cases hf
  · rename_i c d S1 h1
    cases hf
    exact h H0 φ0 φ σ H sl S _ R h1 _ W tk post
  · cases hf
/-- the parameters' values out of the keywords' values -/
def pick {α : Type} (perm : List Nat) (xs : List α) : List α := perm.filterMap fun j => xs[j]?
theorem pick_cons {α : Type} {j : Nat} {perm : List Nat} {xs : List α} : pick (j :: perm) xs = match xs[j]? with
    | some x => x :: pick perm xs
    | none => pick perm xs := by
  unfold pick
  rw [List.filterMap_cons]
  cases xs[j]? <;> rfl
theorem vals_none {xs : List V} {us : List Value} (r : Vals xs us) {j : Nat} (h : xs[j]? = none) : us[j]? = none := by
  rw [List.getElem?_eq_none_iff] at h ⊢
  rw [← r.length]
  exact h
theorem Vals.pick {xs : List V} {us : List Value} (r : Vals xs us) : ∀ perm : List Nat, Vals (PP.pick perm xs) (PP.pick perm us)
  | [] => .nil
  | j :: perm => by
    rw [pick_cons, pick_cons]
    cases e : xs[j]? with
    | none =>
      rw [vals_none r e]
      exact Vals.pick r perm
    | some x =>
      obtain ⟨u, hu, ru⟩ := r.get e
      rw [hu]
      exact .cons ru (Vals.pick r perm)
theorem RVs.get {K : PySem.W.Frag} {mg : Str → Option Value} {H0 H : Hp} {φ : List Addr} {σ : L2.St} {sl : Sl} : ∀ {xs : List (Tg × Vl)} {us : List V} {j : Nat} {x : Tg × Vl}, RVs K mg H0 H φ σ sl xs us → xs[j]? = some x → ∃ u, us[j]? = some u ∧ RV K mg H0 H φ σ sl x.1 x.2 u
  | _ :: _, _, 0, _, ⟨u, r, e, a, _⟩, h => by subst e; cases h; exact ⟨u, rfl, a⟩
  | _ :: _, _, j + 1, _, ⟨u, r, e, _, b⟩, h => by subst e; exact RVs.get (j := j) b h
theorem RVs.len {K : PySem.W.Frag} {mg : Str → Option Value} {H0 H : Hp} {φ : List Addr} {σ : L2.St} {sl : Sl} : ∀ {xs : List (Tg × Vl)} {us : List V}, RVs K mg H0 H φ σ sl xs us → us.length = xs.length
  | [], _, h => by cases h; rfl
  | _ :: _, _, ⟨u, r, e, _, b⟩ => by subst e; exact congrArg (· + 1) (RVs.len b)
theorem RVs.pick {K : PySem.W.Frag} {mg : Str → Option Value} {H0 H : Hp} {φ : List Addr} {σ : L2.St} {sl : Sl} {xs : List (Tg × Vl)} {us : List V} (r : RVs K mg H0 H φ σ sl xs us) : ∀ perm : List Nat, RVs K mg H0 H φ σ sl (PP.pick perm xs) (PP.pick perm us)
  | [] => rfl
  | j :: perm => by
    rw [pick_cons, pick_cons]
    cases e : xs[j]? with
    | none =>
      have : us[j]? = none := by
        rw [List.getElem?_eq_none_iff] at e ⊢
        rw [r.len]
        exact e
      rw [this]
      exact RVs.pick r perm
    | some x =>
      obtain ⟨u, hu, ru⟩ := r.get e
      rw [hu]
      exact ⟨u, _, rfl, ru, RVs.pick r perm⟩
structure CallKOk (X : Cx) (k : Nat) (f : Str) (ks : List Str) (perm : List Nat) (n : Nat) (F : FF) : Prop where
  ex : ∃ (fa : Addr) (fd : FuncData) (ps : List Str), ps.length = n ∧ X.mg f = some (.ref fa) ∧ PySem.W.keepIn X.K (.ref fa) = true ∧
    (∀ (s : Shared) (ws : List Value), ws.length = ks.length → (pick perm ws).length = n → BindsTo s fd ⟨[], ks.zip ws⟩ (ps.zip (pick perm ws))) ∧ FnG X.prog X.w X.K X.mg X.base k fa fd ps (spF X.K X.mg F ps.length)
/-- what a call gives -/
def callRes (n : Nat) (F : FF) (xs : List (Tg × Vl)) (S1 : SS) : Option ER := match argsOf xs with
  | some as => if as.length = n then match F as S1 with
      | some (.val .pure v S2) => some (.val .pure v S2)
      | some (.val _ v S2) => some (.val .fresh v S2)
      | some (.exn c d S2) => some (.exn c d S2)
      | none => none
    else none
  | none => none
theorem spF_go {H0 : Hp} {φ0 φ1 : List Addr} {σ : L2.St} {H1 : Hp} {sl : Sl} {S1 : SS} {r : ER} {Q : VK} {W : WX} {xs : List (Tg × Vl)} {us : List V} (R1 : Rel X.K X.mg H0 φ0 φ1 σ H1 sl S1) (rvs : RVs X.K X.mg H0 H1 φ1 σ sl xs us)
    (hf : callRes n F xs S1 = some r) (post1 : Post X H0 φ0 φ1 σ H1 sl Q W r) : spF X.K X.mg F n us H1 Q fun cl d H' => W cl d σ H' := by
  unfold callRes at hf
  split at hf
  · rename_i as h2
    split at hf
    · rename_i hn
      have fin : ∀ {H' φ' S'}, Le φ1 H1 φ' H' → BoxOk X.K φ' H' S' → Rel X.K X.mg H0 φ0 φ' σ H' sl S' := fun {H' φ' S'} l b => R1.le l b.blen b.nd b.box
      have ra := rvs.args h2
      split at hf
      · rename_i v S2 h3
        cases hf
        exact ⟨φ1, S1, as, _, hn, ra, R1.boxOk, h3, fun u H' φ' l b rp => post1 u H' φ' (fin l b) l rp (fun z => nomatch z)⟩
      · rename_i t v S2 hne h3
        cases hf
        refine ⟨φ1, S1, as, _, hn, ra, R1.boxOk, h3, fun u H' φ' l b rp => ?_⟩
        obtain ⟨d, p, rfl, hv, o, n, nb⟩ : ∃ d p, u = .ref p ∧ v = .py d ∧ Own1 X.K H' p d ∧ H1 p = none ∧ p ∉ φ' := by
          cases t with
          | pure => exact (hne rfl).elim
          | fresh =>
            cases v with
            | py d => obtain ⟨p, e, o, n, nb⟩ := rp; exact ⟨d, p, e, rfl, o, n, nb⟩
            | _ => exact rp.elim
          | mine =>
            cases v with
            | py d => obtain ⟨p, e, o, n, nb⟩ := rp; exact ⟨d, p, e, rfl, o, n, nb⟩
            | _ => exact rp.elim
        subst hv
        exact post1 _ H' φ' (fin l b) l ⟨p, rfl, o, R1.fresh0 n, nb, own_ref R1 n⟩ (fun _ q e => by cases e; exact n)
      · rename_i c' d S2 h3
        cases hf
        exact ⟨φ1, S1, as, _, hn, ra, R1.boxOk, h3, fun C dx H' φ' l b ex => post1 C dx H' φ' (fin l b) l ex⟩
      · cases hf
    · cases hf
  · cases hf
def fCallK (perm : List Nat) (m n : Nat) (F : FF) (g : FA) : FE := fun sl S => match g sl S with
  | some (.vals xs S1) => if xs.length = m then callRes n F (pick perm xs) S1 else none
  | some (.exn c d S1) => some (.exn c d S1)
  | none => none
/-- the callee runs, bound in any way -/
theorem run_gb {fa : Addr} {fd : FuncData} {ps : List Str} {sp : Sp} {W : WX} {pins : List (Addr × Obj)} {σ : L2.St} {H : Hp} {s : Shared} {Q : VK} {us0 us : List Value} {kw : List (Str × Value)} {vs : List V} (G : FnG X.prog X.w X.K X.mg X.base k fa fd ps sp) (c : Ct X k') (hk : k ≤ k')
    (hb : us.length = ps.length → BindsTo s fd ⟨us0, kw⟩ (ps.zip us)) (tk : Takes X W)
    (I : Inv X pins σ H s) (r : Vals vs us) (h : sp vs H Q fun cl d H' => W cl d σ H') : wpAny (model X.prog X.w) X.A (call (.ref fa) us0 kw) (EP X pins σ Q) X.xe s := by
  have hl : us.length = ps.length := by rw [← r.length]; exact G.len _ _ _ _ h
  refine wpAny_call (codeAny_mono (G.run X.A X.stack s H ⟨us0, kw⟩ us vs Q _ (c.room.mono hk) c.gd I.env0 (hb hl) r h) fun r s' hq => ?_)
  match r, hq with
  | .error er, hq => exact tk er s' (XE.of_call I (fun _ _ _ z => z) hq)
  | .ok (.ret u), hq => exact I.after hq
/-- f(a = .., b = ..) -/
theorem den_callK {ks : List Str} {perm : List Nat} (C : CallKOk X k x ks perm n F) (c : Ct X k') (hk : k ≤ k') (hg : Gl X x) (h : DenK X kws g) (hdb : (x == ("__debug__" : Str)) = false)
    (hall : (backToKw pos (keywordEach kws X.env)).all (·.1.isSome) = true) (hks : (backToKw pos (keywordEach kws X.env)).filterMap (·.1) = ks)
    (hpl : ((backTo pos (starEach [] X.env)).any (·.1) || (backToKw pos (keywordEach kws X.env)).any (·.1.isNone)) = false) : Den X (.Call (.Name x p) [] kws pos) (fCallK perm ks.length n F g) := by
  refine .mk ?_; intro H0 φ0 φ σ H sl S r R hf Q W tk post pins s I
  obtain ⟨fa, fd, ps, hn, hm, kp, hb, G⟩ := C.ex
  subst hn
  refine wpAny_Call_Name_kw (ld_glob I hg hm ?_ hdb)
  have go : wK X kws σ H fun vs H1 => vs.length = ks.length ∧ spF X.K X.mg F ps.length (pick perm vs) H1 Q fun cl d H' => W cl d σ H' := by
    unfold fCallK at hf
    split at hf
    · rename_i xs S1 h1
      split at hf
      · rename_i hl
        refine h H0 φ0 φ σ H sl S _ R h1 _ W tk fun us H1 φ1 R1 l1 rvs => ⟨rvs.len.trans hl, spF_go R1 (rvs.pick perm) hf (Post.le l1 R1 post)⟩
      · cases hf
    · rename_i c' d S1 h1
      cases hf
      exact h H0 φ0 φ σ H sl S _ R h1 _ W tk post
    · cases hf
  refine PySem.W.callWith_KW0 (h₀ := X.base) I.ok.mod.kin kp hall (thn (go pos pins s I) fun ws s2 ⟨zs, H2, I2, rz, hl, q2⟩ => ⟨I2.kIn, ?_⟩) hpl
  rw [hks]
  exact run_gb G c hk (fun e => hb s2 ws (by rw [← rz.length]; exact hl) e) tk I2 (Vals.pick rz perm) q2
/-- v(e, ..), v a name of ours that holds a def -/
def fCallL (i : Nat) (fs : List (Str × Nat × FF)) (g : FA) : FE := fun sl S => match sl[i]? with
  | some (.p (.fn f)) => match fs.lookup f with
    | some (n, F) => match g sl S with
      | some (.vals xs S1) => callRes n F xs S1
      | some (.exn c d S1) => some (.exn c d S1)
      | none => none
    | none => none
  | _ => none
theorem den_callL {fs : List (Str × Nat × FF)} (hi : X.N[i]? = some x) (hv : Vis X.env.scope x) (C : ∀ f n F, fs.lookup f = some (n, F) → CallOk X k f n F) (c : Ct X k') (hk : k ≤ k') (h : DenA X (e :: es) g) (hdb : (x == ("__debug__" : Str)) = false) (hcd : (x == ("__classdict__" : Str)) = false)
    (he : starEach (e :: es) X.env = (false, eval e X.env) :: starEach es X.env) (hpl : (backTo pos (starEach es X.env)).any (·.1) = false) : Den X (.Call (.Name x p) (e :: es) [] pos) (fCallL i fs g) := by
  refine .mk ?_; intro H0 φ0 φ σ H sl S r R hf Q W tk post pins s I
  unfold fCallL at hf
  split at hf
  · rename_i f ef
    split at hf
    · rename_i n F el
      obtain ⟨fa, fd, ps, hn, hm, kp, hb, G⟩ := (C f n F el).ex
      subst hn
      obtain ⟨u, eu, a, rfl, hm'⟩ := R.slots i _ ef
      rw [hm] at hm'
      cases hm'
      refine wpAny_Call_Name_kw (thn ((pe_var (pos := p) hi hv hdb hcd).run pins s σ H (fun v H1 => v = .ref fa ∧ H1 = H) I ⟨_, eu, rfl, rfl⟩) fun u s1 ⟨v, H1, I1, rv, e1, e2⟩ => ?_)
      subst e1 e2
      obtain rfl : u = Value.ref fa := rv
      have go : wA X (e :: es) σ H1 fun vs H2 => spF X.K X.mg F ps.length vs H2 Q fun cl d H' => W cl d σ H' := by
        split at hf
        · rename_i xs S1 h1
          exact h H0 φ0 φ σ H1 sl S _ R h1 _ W tk fun us H2 φ2 R2 l2 rvs => spF_go R2 rvs hf (Post.le l2 R2 post)
        · rename_i c' d S1 h1
          cases hf
          exact h H0 φ0 φ σ H1 sl S _ R h1 _ W tk post
        · cases hf
      refine PySem.W.callWith_K (h₀ := X.base) I1.ok.mod.kin kp (thn (go pos pins s1 I1) fun us s2 ⟨vs, H2, I2, rv, q⟩ => ?_) he hpl
      exact ⟨I2.kIn, run_g G c hk hb tk I2 rv q⟩
    · cases hf
  · cases hf
end
end PP
set_option Elab.async false
set_option linter.all false
set_option maxRecDepth 100000
set_option maxHeartbeats 4000000
namespace PP
open PySem L2 PySem.Spec PyProof.Rows
/-! ## a def by its body; the law's call -/
/-- what a body does, as a def -/
def funF (nN n : Nat) (f : FS) : FF := fun as S => if as.length = n then
    match f (as.map Slot.p ++ List.replicate (nN - n) .un) S with
    | some (.rt t v S') => some (.val t v S')
    | some (.nx _ S') => some (.val .pure (.py .none) S')
    | some (.exn c d _ S') => some (.exn c d S')
    | _ => none
  else none
theorem start_rel {K : PySem.W.Frag} {mg : Str → Option Value} {H : Hp} {φ : List Addr} {S : SS} {N : List Str} {as : List Vl} {vs : List V} (ra : RpVs K mg H φ as vs) (b : BoxOk K φ H S) (hl : as.length ≤ N.length) :
    Rel K mg H φ φ (L2.start N vs) H (as.map Slot.p ++ List.replicate (N.length - as.length) .un) S := by
  have lv := ra.len
  have nown : ∀ (j : Nat) (d : PyData), (as.map Slot.p ++ List.replicate (N.length - as.length) Slot.un)[j]? ≠ some (.own d) := fun j d h => by
    by_cases hj : j < as.length
    · rw [List.getElem?_append_left (by simpa using hj), List.getElem?_map] at h
      cases e : as[j]? with
      | none => rw [e] at h; cases h
      | some a => rw [e] at h; cases h
    · rw [List.getElem?_append_right (by simpa using Nat.le_of_not_lt hj), List.getElem?_replicate] at h
      split at h <;> cases h
  refine ⟨by simp [L2.start, lv], fun i s h => ?_, fun i j p q d d' _ h1 => absurd h1 (nown i d), b.blen, b.box, b.nd, ⟨[], by simp⟩, fun a h n => absurd h n, fun a o h _ => h⟩
  by_cases hi : i < as.length
  · rw [List.getElem?_append_left (by simpa using hi), List.getElem?_map] at h
    cases e : as[i]? with
    | none => rw [e] at h; cases h
    | some a =>
      rw [e] at h
      cases h
      obtain ⟨u, hu, ru⟩ := ra.get e
      refine ⟨u, ?_, ru⟩
      unfold L2.start
      rw [List.getElem?_append_left (by simpa [lv] using hi), List.getElem?_map, hu]
      rfl
  · rw [List.getElem?_append_right (by simpa using Nat.le_of_not_lt hi), List.getElem?_replicate] at h
    split at h
    · cases h
      trivial
    · cases h
theorem start_le {K : PySem.W.Frag} {mg : Str → Option Value} {H H' : Hp} {φ φ' : List Addr} {σ : L2.St} {sl : Sl} {S S' : SS} (b : BoxOk K φ H S) (R : Rel K mg H φ φ' σ H' sl S') : Le φ H φ' H' := by
  refine ⟨R.keep, R.pre, R.new, fun a o h m => R.keep a o h fun z => ?_⟩
  obtain ⟨k, hk⟩ := List.getElem?_of_mem z
  have hl : k < S.length := by rw [← b.blen]; exact (List.getElem?_eq_some_iff.mp hk).1
  obtain ⟨o', e, mu⟩ := (b.box k a S[k] hk (List.getElem?_eq_getElem hl)).mu
  rw [h] at e
  cases e
  rw [m] at mu
  cases mu
section
variable {P : Program} {w : World} {K : PySem.W.Frag} {mg : Str → Option Value} {base : Heap} {k : Nat} {f : Addr} {name qual : Str} {params : Arguments} {body : List Stmt} {scope : Scope} {dV kV doc pm cdv ct oc : Value} {an od : Option Addr}
    {osl : Array (Option Value)} {N ps : List Str}
/-- where a def's body runs -/
abbrev BX (P : Program) (w : World) (K : PySem.W.Frag) (mg : Str → Option Value) (base : Heap) (N : List Str) (qual : Str) (scope : Scope) (f : Addr) (cdv : Value) (A : Around) (outer : List Env) (s : Shared) (H : Hp) (E : XK) : Cx := cxOf (L2.CX P w) P w K mg base N qual scope f cdv A outer s H E
theorem bx_ct {A : Around} {outer : List Env} {s : Shared} {H : Hp} {E : XK} (hr : Room (k + 1) A) (hg : A.guards = some []) (nd : N.Nodup) : Ct (BX P w K mg base N qual scope f cdv A outer s H E) k :=
  ⟨hr.deeper _, by first | exact hg | (simpa [cxOf, Around.deeper] using hg), rfl, nd⟩
theorem bx_po {A : Around} {outer : List Env} {s : Shared} {H : Hp} {E : XK} : PassesOwn (model (BX P w K mg base N qual scope f cdv A outer s H E).prog (BX P w K mg base N qual scope f cdv A outer s H E).w) (BX P w K mg base N qual scope f cdv A outer s H E).A (BX P w K mg base N qual scope f cdv A outer s H E).env (BX P w K mg base N qual scope f cdv A outer s H E).xe :=
  passes_of rfl
/-- THE RULE: a def, by its body -/
theorem fnG_of {fb : FS} (lk : K.lookup f = some ⟨oc, od, .func (PySem.W.fnOf name qual params body scope dV kV doc pm an cdv ct), osl⟩) (hcd : PySem.W.codeIn K cdv qual = true) (S : FnScope N ps scope)
    (hbody : ∀ (A : Around) (outer : List Env) (s : Shared) (H : Hp) (E : XK), Room (k + 1) A → A.guards = some [] → DenS (BX P w K mg base N qual scope f cdv A outer s H E) body fb) :
    FnG P w K mg base (k + 1) f (PySem.W.fnOf name qual params body scope dV kV doc pm an cdv ct) ps (spF K mg (funF N.length ps.length fb) ps.length) := by
  have hpl : ps.length ≤ N.length := by have := congrArg List.length S.pre; rw [List.length_take] at this; omega
  have len : ∀ vs H Q E, spF K mg (funF N.length ps.length fb) ps.length vs H Q E → vs.length = ps.length := fun vs H Q E ⟨φ, S, as, r, h1, h2, _⟩ => h2.len.trans h1
  refine ⟨len, fun A outer s H args us vs Q E hr hgd e0 hb r hsp => ?_⟩
  have hl := len _ _ _ _ hsp
  have KX : K.In s.heap := e0.mod.kin.keeps fun b o e => (e0.bs b o e).1
  have lim : s.heap.NoLimit := e0.mod.nolimit.keeps fun b o e => (e0.bs b o e).1
  have hkind : ∀ y ∈ ps.zip us, scope.names.lookup y.1 = some .local ∨ (scope.names.lookup y.1 = some .cell ∧ ((cellsFrom (s.heap.objs.size + 1) scope.names []).lookup y.1).isSome = true) := fun ⟨n, v⟩ hy => by
    rcases S.par n (List.of_mem_zip hy).1 with q | q
    · exact .inl q
    · exact .inr ⟨q, PySem.W.cellsFrom_some _ _ _ (.inl q)⟩
  refine codeAny_call_function hr.depth (KX _ _ lk) rfl S.co S.gen rfl (PySem.W.codeRec_of KX hcd) (hb _ _ _ _ ?_)
  refine wpAny_newFunctionEnv_cells S.kind hkind fun env he s1 x => ?_
  subst he
  refine ⟨lim.keeps x.toInCall.keep, codeAny_func ?_⟩
  have I : Inv (BX P w K mg base N qual scope f cdv A outer s H E) [] (L2.start N vs) H s1 := inv_start S hr.hd e0 hl r x
  obtain ⟨φ, S0, as, rr, h1, ra, bx, hF, post⟩ := hsp
  have R0 : Rel K mg H φ φ (L2.start N vs) H (as.map Slot.p ++ List.replicate (N.length - ps.length) .un) S0 := by
    have := start_rel (N := N) ra bx (by rw [h1]; exact hpl)
    rw [h1] at this
    exact this
  have tk : Takes (BX P w K mg base N qual scope f cdv A outer s H E) (fun cls d _ H => E cls d H) := takes_of rfl rfl rfl rfl
  unfold funF at hF
  rw [if_pos h1] at hF
  have go : wSs (BX P w K mg base N qual scope f cdv A outer s H E) body { nx := fun _ H' => Q .non H', rt := Q } (L2.start N vs) H := by
    split at hF
    · rename_i t v S' e
      cases hF
      exact hbody A outer s H E hr hgd H φ φ (L2.start N vs) H _ S0 _ R0 e _ _ tk fun u σ' H' φ' sl' R' z rf => post u H' φ' (start_le bx R') R'.boxOk rf
    · rename_i sl' S' e
      cases hF
      exact hbody A outer s H E hr hgd H φ φ (L2.start N vs) H _ S0 _ R0 e _ _ tk fun σ' H' φ' R' z => post .non H' φ' (start_le bx R') R'.boxOk rfl
    · rename_i c d sl' S' e
      cases hF
      exact hbody A outer s H E hr hgd H φ φ (L2.start N vs) H _ S0 _ R0 e _ _ tk fun C dx σ' H' φ' R' z ex => post C dx H' φ' (start_le bx R') R'.boxOk ex
    · cases hF
  refine wpAny_mono (go [] s1 I) (fun fl s' hs => ?_) fun e s' hs => hs
  have fin : ∀ {σ' : L2.St} {H' : Hp} {v : V} {u : Value}, Inv (BX P w K mg base N qual scope f cdv A outer s H E) [] σ' H' s' → RelV v u → Q v H' → CE outer P w H s Q u s' :=
    fun {σ' H' v u} J rv q => ⟨v, H', J.os, J.bare, J.base, J.hok, rv, q⟩
  cases fl with
  | ret u =>
    obtain ⟨v, σ', H', J, rv, q⟩ := hs
    exact fin J rv q
  | next =>
    obtain ⟨σ', H', J, q⟩ := hs
    exact fin (v := V.non) (u := Value.none) J rfl q
  | brk =>
    obtain ⟨_, _, _, q⟩ := hs
    exact False.elim q
  | cont =>
    obtain ⟨_, _, _, q⟩ := hs
    exact False.elim q
end
/-- as it is bound by position -/
theorem spF_imp {K : PySem.W.Frag} {mg : Str → Option Value} {F F' : FF} {n : Nat} {vs : List V} {H : Hp} {Q : VK} {E : XK} (h : ∀ as S r, F as S = some r → F' as S = some r) : spF K mg F n vs H Q E → spF K mg F' n vs H Q E := fun ⟨φ, S, as, r, h1, h2, h3, h4, h5⟩ => ⟨φ, S, as, r, h1, h2, h3, h _ _ _ h4, h5⟩
theorem FnG.imp {P : Program} {w : World} {K : PySem.W.Frag} {mg : Str → Option Value} {base : Heap} {k : Nat} {f : Addr} {fd : FuncData} {ps : List Str} {sp sp' : Sp} (G : FnG P w K mg base k f fd ps sp) (h : ∀ vs H Q E, sp' vs H Q E → sp vs H Q E) : FnG P w K mg base k f fd ps sp' :=
  ⟨fun vs H Q E q => G.len vs H Q E (h _ _ _ _ q), fun A outer s H args us vs Q E hr hg he hb hv hs => G.run A outer s H args us vs Q E hr hg he hb hv (h _ _ _ _ hs)⟩
theorem FnG.mono {P : Program} {w : World} {K : PySem.W.Frag} {mg : Str → Option Value} {base : Heap} {j k : Nat} {f : Addr} {fd : FuncData} {ps : List Str} {sp : Sp} (G : FnG P w K mg base j f fd ps sp) (h : j ≤ k) : FnG P w K mg base k f fd ps sp :=
  ⟨G.len, fun A outer s H args us vs Q E hr => G.run A outer s H args us vs Q E (hr.mono h)⟩
/-- the call at the law's own place, over an abstract heap that tells of the script at most -/
theorem law_at {P : Program} {w : World} {K : PySem.W.Frag} {mg mb : Str → Option Value} {k : Nat} {fa a : Addr} {fd : FuncData} {x : Str} {sp : Sp} {s1 : Shared} {us : List Value} {H : Hp}
    (KX : K.In s1.heap) (nsG : s1.heap.Ns mainGlobals mg) (nsB : s1.heap.Ns builtinsNs mb) (boot : ∀ x : Str, x ≠ "__name__" → mb x = bootBuiltins x) (lim : s1.heap.NoLimit) (ng : s1.gens = #[])
    (at_a : s1.heap.get? a = some { cls := .type "list", data := .seq us.toArray }) (rm : Room k callerA) (gd : callerA.guards = some [])
    (F : ∀ base : Heap, K.In base → base.Ns mainGlobals mg → FnG P w K mg base k fa fd [x] sp) (bd : ∀ (s : Shared) (u : Value), BindsTo s fd ⟨[u], []⟩ [(x, u)])
    (onlyA : ∀ b, H b ≠ none → b = a) (notK : H a ≠ none → K.lookup a = none) (isF : ∀ u, H a = some u → ∃ o l, u = .frz o (.lst l)) (hk : HOk P w H s1.heap)
    (want : sp [.ref a] H (fun v _ => v = .bl true) fun _ _ _ => False) :
    codeAny (model P w) callerA (.call (.ref fa) ⟨[.ref a], []⟩) (fun r s' => r = .ok (.ret (.bool true)) ∧ OldK s1.heap s'.heap ∧ s'.os = s1.os ∧ AllBare s'.gens) s1 := by
  have low : ∀ {b : Addr} {o : Obj}, s1.heap.get? b = some o → (∀ l n, o.data ≠ .seq l n) → H b = none := fun {b o} e hd => by
    cases hb : H b with
    | none => rfl
    | some u =>
      obtain rfl : b = a := onlyA b (by rw [hb]; exact Option.some_ne_none u)
      rw [at_a] at e
      cases e
      exact absurd rfl (hd _ _)
  have toBase : ∀ {b : Addr} {o : Obj}, H b = none → s1.heap.get? b = some o → (hidT s1.heap H).get? b = some o := fun n e => hidT_get e n
  have nsOf : ∀ {b : Addr} {m : Str → Option Value}, s1.heap.Ns b m → (hidT s1.heap H).Ns b m := fun {b m} ⟨o, es, ep, e, d, r⟩ =>
    ⟨o, es, ep, toBase (low e fun l n z => by rw [d] at z; cases z) e, d, r⟩
  have inBase : K.In (hidT s1.heap H) := fun b o e => by
    refine toBase ?_ (KX b o e)
    cases hb : H b with
    | none => rfl
    | some u =>
      obtain rfl : b = a := onlyA b (by rw [hb]; exact Option.some_ne_none u)
      rw [notK (by rw [hb]; exact Option.some_ne_none u)] at e
      cases e
  obtain ⟨mc, l1, l2⟩ := lim
  have md : Mod K mg (hidT s1.heap H) := { kin := inBase, glob := nsOf nsG, blt := ⟨mb, nsOf nsB, boot⟩, nolimit := ⟨mc, nsOf l1, l2⟩ }
  have env : Env0 P w K mg (hidT s1.heap H) callerA [] s1 H :=
    { frames := rfl, mod := md, bs := fun b o e => of_hidT e, bsz := Nat.le_of_eq (hidT_size _ _), funs := trivial, frf := fun b hb => (nomatch (show b ∈ ([] : List Addr) from hb)), hok := hk, bare := .of_eq ng }
  have r1 : Vals [V.ref a] [Value.ref a] := .cons rfl .nil
  refine codeAny_mono ((F _ inBase (nsOf nsG)).run callerA [] s1 H ⟨[.ref a], []⟩ [.ref a] [.ref a] _ _ rm gd env (bd s1 (.ref a)) r1 want) fun r s' q => ?_
  match r, q with
  | .error e, ⟨_, _, _, _, _, _, _, _, _, _, _, _, no⟩ => exact no.elim
  | .ok (.ret u), ⟨v, H', eo, ba, un, ok', rv, ev⟩ =>
    have ev' : v = .bl true := ev
    subst ev'
    obtain rfl : u = Value.bool true := rv
    refine ⟨rfl, OldK.of_keep fun b o e => ?_, eo, ba⟩
    cases hb : H b with
    | none => exact un.keep b o e hb (fun z => by cases z) (fun z => by cases z)
    | some u =>
      have hb' := hb
      obtain rfl : b = a := onlyA b (by rw [hb]; exact Option.some_ne_none u)
      obtain ⟨ob, l, rfl⟩ := isF u hb
      have e1 := (hk _ _ hb).1
      have e2 := (ok' _ _ (un.frzs _ _ _ hb)).1
      rw [e] at e1
      cases e1
      exact e2
theorem law_callG {P : Program} {w : World} {K : PySem.W.Frag} {mg mb : Str → Option Value} {k : Nat} {fa a : Addr} {fd : FuncData} {x : Str} {sp : Sp} {s1 : Shared} {us : List Value} {ns : List Int}
    (KX : K.In s1.heap) (nsG : s1.heap.Ns mainGlobals mg) (nsB : s1.heap.Ns builtinsNs mb) (boot : ∀ x : Str, x ≠ "__name__" → mb x = bootBuiltins x) (lim : s1.heap.NoLimit) (ng : s1.gens = #[])
    (at_a : s1.heap.get? a = some { cls := .type "list", data := .seq us.toArray }) (ia : IntsAre us ns) (zl : ns.length ≤ sizeLine) (rm : Room k callerA) (gd : callerA.guards = some [])
    (F : ∀ base : Heap, K.In base → base.Ns mainGlobals mg → FnG P w K mg base k fa fd [x] sp) (bd : ∀ (s : Shared) (u : Value), BindsTo s fd ⟨[u], []⟩ [(x, u)])
    (want : ∀ H : Hp, FzK K H a (ns.map V.int) → sp [.ref a] H (fun v _ => v = .bl true) fun _ _ _ => False) :
    codeAny (model P w) callerA (.call (.ref fa) ⟨[.ref a], []⟩) (fun r s' => r = .ok (.ret (.bool true)) ∧ OldK s1.heap s'.heap ∧ s'.os = s1.os ∧ AllBare s'.gens) s1 := by
  have rv := vals_ints ia
  have le := ia.length
  cases lk : K.lookup a with
  | some o =>
    have e := KX a o lk
    rw [at_a] at e
    cases e
    have fz : FzK K (fun _ => none) a (ns.map V.int) := .inr ⟨_, us.toArray, _, lk, rfl, rfl, rfl, by rw [List.size_toArray, le]; exact zl, by simpa using rv⟩
    exact law_at KX nsG nsB boot lim ng at_a rm gd F bd (fun b z => absurd rfl z) (fun z => absurd rfl z) (fun u z => nomatch z) (fun b u z => nomatch z) (want _ fz)
  | none =>
    have e0 : upd (fun _ => none) a (.frz { cls := .type "list", data := .seq us.toArray } (.lst (ns.map V.int))) a = some (.frz { cls := .type "list", data := .seq us.toArray } (.lst (ns.map V.int))) := upd_same
    have ne : ∀ b, b ≠ a → upd (fun _ => none) a (.frz { cls := .type "list", data := .seq us.toArray } (.lst (ns.map V.int))) b = none := fun b hb => upd_ne hb
    refine law_at KX nsG nsB boot lim ng at_a rm gd F bd (fun b z => ?_) (fun _ => lk) (fun u z => ?_) (fun b u z => ?_) (want _ (.inl ⟨_, e0⟩))
    · by_cases hb : b = a
      · exact hb
      · exact absurd (ne b hb) z
    · rw [e0] at z
      cases z
      exact ⟨_, _, rfl⟩
    · by_cases hb : b = a
      · subst hb
        rw [e0] at z
        cases z
        exact ⟨at_a, by rw [List.length_map]; exact zl, us, _, rv, at_a⟩
      · rw [ne b hb] at z
        cases z
/-- the goal that the head leaves -/
theorem walk_ofG {l : PySem.W.OpenLaw} {n k : Nat} {q : Program} {loose : List Str} {XP : (Str → Option Value) → Heap → Prop} {YP : World → Heap → Prop} {d : DefRec} {K : Params → PySem.W.Frag} {F : World → FF} {x : Str}
    (hn : l.most = some n) (hn2 : n ≤ sizeLine) (hdf : d.params.defaults = []) (hr : Room k callerA) (gd : callerA.guards = some [])
    (hY : ∀ (w : World) (h : Heap), YP w h → (K w.params).In h)
    (hF : ∀ (w : World) (mg : Str → Option Value) (fa : Addr) (h : Heap), (K w.params).In h → h.Ns mainGlobals mg → mg d.name = some (.ref fa) →
      ∃ fd : FuncData, (∀ (s : Shared) (u : Value), BindsTo s fd ⟨[u], []⟩ [(x, u)]) ∧ ∀ base : Heap, (K w.params).In base → base.Ns mainGlobals mg → FnG l.prog w (K w.params) mg base k fa fd [x] (spF (K w.params) mg (F w) 1))
    (hsp : ∀ (w : World) (ns : List Int), ns.length ≤ n → ∃ t S, F w [.py (.list (ns.map PyData.int))] [] = some (.val t (.py (.bool true)) S)) :
    PySem.W.WalkO q loose XP YP l.row.toRowW d [] (fun f vs => PySem.call f vs) := by
  refine Att.attach_call hn hdf fun w s₀ s₁ mg mb fa o pm cd doc a vs ns G Y ho hd hcd hmg hobj hints hlen hg => ?_
  have KX := hY w _ Y
  obtain ⟨fd, hb, hG⟩ := hF w mg fa _ KX G.T.g hmg
  refine law_callG KX G.T.g G.T.b G.T.builtins G.T.nolimit hg hobj hints (Nat.le_trans hlen hn2) hr gd hG hb fun H fz => ?_
  obtain ⟨t, S, e⟩ := hsp w ns hlen
  have rp : Rps (K w.params) H (ns.map PyData.int) (ns.map V.int) := by
    clear fz hlen hints e
    induction ns with
    | nil => rfl
    | cons i ns ih => exact ⟨.int i, _, rfl, rfl, ih⟩
  refine ⟨[], [], [.py (.list (ns.map PyData.int))], _, rfl, ⟨.ref a, [], rfl, ⟨a, _, rfl, fz, rp⟩, rfl⟩, ⟨rfl, List.nodup_nil, fun k a d h => nomatch h⟩, e, fun u H' φ' l b rf => ?_⟩
  cases t with
  | pure => exact rf
  | fresh => obtain ⟨_, _, o, _⟩ := rf; exact o.elim
  | mine => obtain ⟨_, _, o, _⟩ := rf; exact o.elim
end PP
set_option Elab.async false
set_option linter.all false
set_option maxRecDepth 100000
set_option maxHeartbeats 4000000
namespace PP
open PySem PySem.W PySem.Calls PyProof.Rows
/-! ## an own error of the house: super().__init__(value); self.value = value -/
def iniArgs (q1 q2 : Pos) : Arguments := { posonlyargs := [], args := [{ arg := "self", annotation := none, pos := q1 }, { arg := "value", annotation := none, pos := q2 }], vararg := none, kwonlyargs := [], kw_defaults := [], kwarg := none, defaults := [] }
abbrev iniCall (a b c d e : Pos) : Expr := .Call (.Attribute (.Call (.Name "super" a) [] [] b) "__init__" c) [.Name "value" d] [] e
def iniBody (a b c d e f g h i j k : Pos) : List Stmt :=
  [.Expr (iniCall a b c d e) f, .Assign [.Attribute (.Name "self" g) "value" h] (.Name "value" i) j]
/-- what the written part says of the class at C (made by the __init__ at fI that the class at D has) -/
structure ErrTxt (prog : Program) (K : Frag) (C D fI : Addr) : Prop where
  cls : ∃ nm q N bs bm sn sub ab col dd k0 k1 k2 k3 k5, K.lookup C = some (excClassObj nm q C N bs bm true sn sub ab col dd k0 k1 k2 k3 k5 "ValueError.__new__") ∧ HandSPX.refsVE bm = true
  sa : findIn K (.ref C) "__setattr__" = some (some (.builtin "object.__setattr__"))
  ga : findIn K (.ref C) "__getattribute__" = some (some (.builtin "BaseException.__getattribute__"))
  gg : findIn K (.ref C) "__getattr__" = some none
  noN : findIn K (.ref C) "value" = some none
  iC : findIn K (.ref C) "__init__" = some (some (.ref fI))
  tC : typeIn K (.ref fI) = some (.type "function")
  kC : keepIn K (.ref C) = true
  exC : subIn K (.ref C) (.type "BaseException") = some true
  veC : subIn K (.ref C) (.type "ValueError") = some true
  tyC : typeIn K (.ref C) = some (.type "type")
  hdC : hasDictIn K C = true
  inC : excInitIn K C [.type "ValueError", .type "Exception", .type "BaseException", .type "object"] "ValueError.__new__" = true
  sup : ks_superIn K C D "__init__" = some (some (.builtin "ValueError.__init__"))
  subD : mroIn K C (.ref D) = some true
  clD : (clsIn K D).isSome = true
  thi : nsIn K cStatics "thirdparty.any" = some none
  noS : nsIn K mainGlobals "super" = some none
  top : (prog.main.scope.names.lookup ("super" : Str)).isSome = false
  fn : ∃ (oc doc pm ct : Value) (od an : Option Addr) (osl : Array (Option Value)) (cda cc : Addr) (q1 q2 p1 p2 p3 p4 p5 p6 p7 p8 p9 p10 p11 : Pos) (scope : Scope) (vs : Array Value) (file : Str) (tf : Tok) (o1 o2 : Value) (d1 d2 : Option Addr) (s1 s2 : Array (Option Value)),
    K.lookup fI = some ⟨oc, od, .func (fnX "__init__" "ReasonError.__init__" (iniArgs q1 q2) (iniBody p1 p2 p3 p4 p5 p6 p7 p8 p9 p10 p11) scope [("__class__", cc)] .none .none doc pm an (.ref cda) ct), osl⟩ ∧ codeIn K (.ref cda) "ReasonError.__init__" = true ∧
      K.lookup cda = some ⟨o1, d1, .fields vs, s1⟩ ∧ vs[2]? = some (.str file tf) ∧ ((prog.main.file : Str) == file) = true ∧ K.lookup cc = some ⟨o2, d2, .cell (some (.ref D)), s2⟩ ∧
      scope.kind = .function ∧ scope.isCoroutine = false ∧ scope.isGenerator = false ∧ scope.names.lookup ("super" : Str) = some .globalImplicit ∧ scope.names.lookup ("__class__" : Str) = some .free ∧ scope.names.lookup ("self" : Str) = some .local ∧ scope.names.lookup ("value" : Str) = some .local ∧ (∀ y ∈ scope.names, y.2 ≠ .cell) ∧
      ∃ pl : Sem Bool, ∀ env : Env, eval (iniCall p1 p2 p3 p4 p5) env = (do
        let ov ← attributeBase (.Call (.Name "super" p1) [] [] p2) "__init__" env (eval (.Call (.Name "super" p1) [] [] p2) env)
        standAt p3.atName
        let (f, first) ← holding [ov] (getMethod ov "__init__" pl)
        callWith p5 f first (backTo p5 (starEach [.Name "value" p4] env)) [])
/-- a made error -/
structure ErrMade (h h' : Heap) (e C d : Addr) (v : Value) : Prop where
  keep : ∀ b o, h.get? b = some o → h'.get? b = some o
  new : h.objs.size ≤ e
  obj : ∃ oe vs, h'.get? e = some oe ∧ oe.cls = .ref C ∧ oe.dict = some d ∧ oe.data = .fields vs ∧ vs[1]? = some .none
  dbig : h.objs.size ≤ d
  dne : d ≠ e
  ns : h'.Ns1 d (fun y => if y = "value" then some v else none)
section
variable {prog : Program} {w : World} {A : Around} {E : Value → Shared → Prop} {R : Result → Shared → Prop} {s : Shared} {K : Frag} {mg mb : Str → Option Value} {C D fI : Addr}
theorem boot_super : bootBuiltins "super" = some (.type "super") := by first | boot_by_name | rfl | kernel_rfl
theorem err_made (T : ErrTxt prog K C D fI) {v : Value} (X : K.In s.heap) (hlim : s.heap.NoLimit) (hG : s.heap.Ns mainGlobals mg) (hB : s.heap.Ns builtinsNs mb) (hb : ∀ x : Str, x ≠ "__name__" → mb x = bootBuiltins x) (hroom : A.depth + 1 < recursionLimit)
    (hq : ∀ h' tk e d, ErrMade s.heap h' e C d v → R (.ok (.ret (.ref e))) { s with heap := h', toks := tk }) :
    codeAny (model prog w) A (.call (.ref C) ⟨[v], []⟩) R s := by
  obtain ⟨nm, q, N, bs, bm, sn, sub, ab, col, dd, k0, k1, k2, k3, k5, hC, hbm⟩ := T.cls
  have hcl : clsIn K C = some { name := nm, bases := bs, mro := .ref C :: bm, ns := N, qualname := q, hasDict := true, slotNames := sn, subclasses := sub, abstract := ab, collection := col, hasDel := false } := by unfold clsIn; rw [hC] <;> rfl
  obtain ⟨oc, doc, pm, ct, od, an, osl, cda, cc, q1, q2, p1, p2, p3, p4, p5, p6, p7, p8, p9, p10, p11, scope, vs, file, tf, o1, o2, d1, d2, sl1, sl2, hfn, hcd, hcode, hvs, hfile, hcell, hk, hco, hgen, hks, hkc, hka, hkv, hnc, pl, hev⟩ := T.fn
  obtain ⟨cdD, hD⟩ := Option.isSome_iff_exists.mp T.clD
  obtain ⟨hp, g, dr, tk, os⟩ := s
  have z1 : ([v] : List Value).length ≤ sizeLine := by rw [sizeLine_eq]; exact (by decide : 1 ≤ 16777216)
  have up : ∀ b o, hp.get? b = some o → ((hp.push (kdv_tup [v])).push (HandSPX.excO C hp.objs.size)).get? b = some o := fun b o e => Heap.get?_push_of_some _ (Heap.get?_push_of_some _ e)
  have hx1 : ((hp.push (kdv_tup [v])).push (HandSPX.excO C hp.objs.size)).get? (hp.objs.size + 1) = some (HandSPX.excO C hp.objs.size) := by heap_get
  have szx : hp.get? (hp.objs.size + 1) = none := Heap.get?_none_of_le (Nat.le_succ _)
  refine HandSPX.call_own F.excBase_ValueError (fun X => HandSPX.refsVE_contains X bm hbm) (X _ _ hC) (looks_findIn X T.iC) (fun self => bind_fn X self T.tC) z1 ?_
  generalize hh1 : (hp.push (kdv_tup [v])).push (HandSPX.excO C hp.objs.size) = h1 at up hx1
  have X1 : K.In h1 := X.keeps up
  have sz1 : hp.objs.size + 1 < h1.objs.size := Heap.lt_size hx1
  refine ks_codeAny_call_defAt (binds := [("self", .ref (hp.objs.size + 1)), ("value", v)]) (body := iniBody p1 p2 p3 p4 p5 p6 p7 p8 p9 p10 p11) ?_ (X1 _ _ hfn) rfl (hlim.keeps up) (codeRec_of X1 hcd) rfl (BindsTo.of_eq (by first | rfl | with_unfolding_all rfl)) hnc ?_ (fun h2 hns k2' => ?_) hco hgen hk
  · show A.depth + 1 < recursionLimit
    exact hroom
  · intro y hy
    rcases List.mem_cons.mp hy with rfl | hy
    · exact hka
    · rcases List.mem_cons.mp hy with rfl | hy
      · exact hkv
      · cases hy
  have up2 : ∀ b o, hp.get? b = some o → h2.get? b = some o := fun b o e => k2' b o (up b o e)
  have hx2 : h2.get? (hp.objs.size + 1) = some (HandSPX.excO C hp.objs.size) := k2' _ _ hx1
  have Fr2 : Fr hp h1.objs.size h2 (fun x => ([("self", Value.ref (hp.objs.size + 1)), ("value", v)] : List (Str × Value)).reverse.lookup x) := ⟨hns, up2, Nat.le_of_lt (Nat.lt_of_succ_lt sz1)⟩
  have N2 : News hp h1.objs.size h2 [(hp.objs.size + 1, excObj C hp.objs.size none .none)] := fun p hp' => by
    obtain rfl : p = _ := List.mem_singleton.mp hp'
    exact ⟨hx2, Nat.ne_of_lt sz1, szx⟩
  show _root_.PySem.wpAt (model prog w) _ (.func _ (ksEnv "ReasonError.__init__" scope h1.objs.size fI (.ref cda) cc)) (execs _ (ksEnv "ReasonError.__init__" scope h1.objs.size fI (.ref cda) cc)) _ _ _
  have nse : (("value" : Str) == ("__debug__" : Str)) = false := by decide
  -- super()
  refine ks_wpAt_execs_cons (ks_wpAt_Expr_any (ks_wpAt_MethodCall (pl := pl) ?_ (hev _)) (by simp [interactive, hk]))
  have hf2 := up2 _ _ (X _ _ hfn)
  obtain ⟨oD, eD1, eD2⟩ : ∃ oD, h2.get? D = some oD ∧ oD.data = .cls cdD := by
    unfold clsIn at hD
    split at hD
    · rename_i c d cd' sl ho
      cases hD
      exact ⟨_, up2 _ _ (X _ _ ho), rfl⟩
    · cases hD
  have X2 : K.In h2 := X.keeps up2
  refine ks_wpAt_super_base (env := ksEnv "ReasonError.__init__" scope h1.objs.size fI (.ref cda) cc) hks hkc rfl rfl hf2 rfl rfl rfl (up2 _ _ (X _ _ hcode)) rfl hvs hfile T.top ?_
  refine ks_loadName_global hk hks (loadGlobal_builtin (env := ksEnv "ReasonError.__init__" scope h1.objs.size fI (.ref cda) cc) (hG.keeps up2) (mg_none_of X hG T.noS) (hB.keeps up2) ((hb _ (by decide +kernel)).trans boot_super) ⟨rfl, ?_⟩)
  refine wpAny_loadName_free hk hkc rfl ⟨_, up2 _ _ (X _ _ hcell), rfl⟩ ?_
  refine wpAny_loadName_local hk hka hns rfl ?_
  refine ks_wpAny_isType_cls eD1 eD2 ⟨rfl, ?_⟩
  refine ks_wpAny_call_super eD1 eD2 hx2 rfl (fun c e => nomatch e) (looks_mroIn X2 T.subD) (fun h3 e3 up3 => ?_)
  obtain ⟨Fr3, N3, l3⟩ := ks_newsPush (s := ⟨h2, g, dr, tk + 2, os⟩) Fr2 N2 rfl e3 up3
  have I3 : InstAt h3 (hp.objs.size + 1) (excObj C hp.objs.size none .none) C none := ⟨up3 _ _ hx2, rfl, rfl, trivial⟩
  refine kxs_method kxs_ValueError Fr3 X N3 (List.mem_cons_self ..) I3 T.thi T.sup T.veC rfl fun u h4 Fr4 N4 l4 => ?_
  refine kxs_callWith1 N4 (List.mem_cons_self ..) (Calls.spliced_cons (wpAny_Name (wpAny_loadName_local hk hkv Fr4.ns rfl (Calls.spliced_nil ⟨kxs_at N4 (List.mem_cons_self ..), ?_⟩)) nse))
  refine kxs_call Fr4 X N4 F.excBase_ValueError T.inC (List.mem_cons_self ..) (UpdF.tail ?_ (UpdF.tail ?_ (UpdF.head fun p hp => nomatch hp))) z1 fun t5 h5 Fr5 N5 l5 => ?_
  · exact Nat.ne_of_gt (l4 (hp.objs.size + 1, excObj C hp.objs.size none .none) (by simp))
  · exact Nat.ne_of_gt (l3 (hp.objs.size + 1, excObj C hp.objs.size none .none) (by simp))
  -- self.value = value
  have hx5 : h5.get? (hp.objs.size + 1) = some (excObj C t5 none .none) := (N5 (hp.objs.size + 1, excObj C t5 none .none) (by simp)).1
  have X5 : K.In h5 := X.keeps Fr5.keep
  show _root_.PySem.wpAt _ _ _ (execs _ _) _ _ _
  refine wpAt_of_wpAny (wpAny_execs_cons (plainObj_wpAny_Assign_Attribute ?_))
  refine wpAny_Name (wpAny_loadName_local hk hkv Fr5.ns rfl (wpAny_Name (wpAny_loadName_local hk hka Fr5.ns rfl ?_) (by decide))) nse
  refine set_plain X5 (ox := excObj C t5 none .none) (od := none) ⟨hx5, rfl, rfl, trivial⟩ T.sa ?_
  refine HandSPX.exc_osa X5 hx5 hcl (show HandSPX.refsVE (.ref C :: bm) = true from hbm) rfl T.noN (fun h6 tk6 dx up6 dn dne hx6 ns6 => ?_)
  refine wpAny_execs_nil ⟨rfl, hq h6 tk6 (hp.objs.size + 1) dx ⟨fun b o e => up6 b o (Nat.ne_of_lt (Nat.lt_succ_of_lt (Heap.lt_size e))) (Fr5.keep b o e), Nat.le_succ _, ⟨_, _, hx6, rfl, rfl, rfl, rfl⟩, ?_, dne, ns6⟩⟩
  exact Nat.le_trans (Nat.le_of_lt (Nat.lt_of_succ_lt (Nat.lt_trans sz1 Fr5.ns.lt))) dn
end
end PP
set_option Elab.async false
set_option linter.all false
set_option maxRecDepth 100000
set_option maxHeartbeats 4000000
namespace PP
open PySem L2 PySem.Spec PyProof.Rows
/-! ## raise, try, what is caught -/
section
variable {X : Cx} {pins : List (Addr × Obj)} {σ : L2.St} {H : Hp} {s : Shared}
/-- an object that none of ours knows is noted -/
theorem inv_note {a : Addr} {oe : Obj} (I : Inv X pins σ H s) (ha : s.heap.get? a = some oe) (na : H a = none) (nL : a ≠ X.env.locals) (nC : ∀ x c, X.env.cells.lookup x = some c → c ≠ a) (nP : ∀ p ∈ X.pn ++ pins, p.1 ≠ a) (n0 : X.s_0.heap.get? a = none) :
    Inv X pins σ (upd H a (.ext fun h => h.get? a = some oe)) s := by
  have ne0 : ∀ b o, X.s_0.heap.get? b = some o → b ≠ a := fun b o e z => by subst z; rw [n0] at e; cases e
  have neH : ∀ b o, H b = some o → b ≠ a := fun b o e z => by subst z; rw [na] at e; cases e
  have B := I.base
  refine { I with
    base := ⟨B.keep, B.slot, fun b o e n hx => (upd_ne (ne0 b o e)).trans (B.free b o e n hx), B.there, fun b xs e => ?_, fun b o xs e => ?_, fun b ps e => ?_⟩
    free := (upd_ne (Ne.symm nL)).trans I.free
    freeC := fun x c e => (upd_ne (nC x c e)).trans (I.freeC x c e)
    pin := fun p hp => ?_
    hok := fun b o e => ?_ }
  · exact (upd_ne (neH b _ (B.tups b xs e))).trans (B.tups b xs e)
  · exact (upd_ne (neH b _ (B.frzs b o xs e))).trans (B.frzs b o xs e)
  · obtain ⟨m, q⟩ := B.tbls b ps e
    exact ⟨m, (upd_ne (neH b _ q)).trans q⟩
  · obtain ⟨q1, q2, q3⟩ := I.pin p hp
    exact ⟨q1, (upd_ne (nP p hp)).trans q2, q3⟩
  · by_cases hb : b = a
    · subst hb
      rw [upd_same] at e
      cases e
      exact ⟨ha, ⟨_, ha⟩, fun h1 h2 q k => k _ q⟩
    · rw [upd_ne hb] at e
      exact (I.hok b o e).stay (fun _ _ _ q => q) (fun c q => (upd_ne (neH c _ q)).trans q) (fun c xs q => (upd_ne (neH c _ q)).trans q)
/-- what the clause 'except c as n: y = n' wishes: slot i is n's, slot j is y's -/
def wKeep (K : PySem.W.Frag) (c : Value) (i j : Nat) (D : Ends) : WX := fun cls d σ H =>
  PySem.W.exmOne K cls c = some true ∧ ∀ a oe, H a = none → oe.cls = cls → oe.dict = d → (∃ ws, oe.data = .fields ws) →
    D.nx (((σ.set i (some (.ref a))).set j (some (.ref a))).set i none) (upd H a (.ext fun h => h.get? a = some oe))
theorem ps_keep {x n y : Str} {c : Value} {i j : Nat} {body : List Stmt} {np p1 p2 spos pos pos' : Pos} {tb : WX → TS} (hs : X.stack = X.env :: X.outer) (hf : X.env.frame = some X.env.locals) (hex : X.ex = []) (nd : X.N.Nodup) (hi : X.N[i]? = some n) (hj : X.N[j]? = some y)
    (hn : X.env.scope.names.lookup n = some .local) (hy : X.env.scope.names.lookup y = some .local) (hc : Names X x c) (hdn : (n == ("__debug__" : Str)) = false) (hcn : (n == ("__classdict__" : Str)) = false)
    (hsw : swapsWith (.Name n p2) (some (.Name y p1)) spos.line X.env = pure false) (hli : i < X.N.length)
    (hb : ∀ (W : WX) (pn : List (Addr × Obj)) (xe : Value → Shared → Prop), Takes (X.tr pn xe) W → PassesOwn (model X.prog X.w) X.A X.env xe → PSs (X.tr pn xe) body (tb W)) :
    PS X (.Try body [.ExceptHandler (some (.Name x np)) (some n) [.Assign [.Name y p1] (.Name n p2) spos] pos'] [] [] pos) (fun D σ H => tb (wKeep X.K c i j D) D σ H) := by
  refine ⟨fun pins s σ H D I want => wpAny_Try_except ?_⟩
  have okX := I.ok
  have frames : X.A.frames = some (X.env :: X.outer) := okX.frames.trans (by rw [hs])
  -- the body's ends
  have ends : ∀ (xe : Value → Shared → Prop) (f : Flow) (s1 : Shared), SP (X.tr (X.pn ++ pins) xe) [] D f s1 → SP X pins D f s1 := fun xe f s1 q => by
    cases f with
    | next => exact let ⟨σ', H', J, z⟩ := q; ⟨σ', H', J.ofTry okX, z⟩
    | brk => exact let ⟨σ', H', J, z⟩ := q; ⟨σ', H', J.ofTry okX, z⟩
    | cont => exact let ⟨σ', H', J, z⟩ := q; ⟨σ', H', J.ofTry okX, z⟩
    | ret u => exact let ⟨v, σ', H', J, r, z⟩ := q; ⟨v, σ', H', J.ofTry okX, r, z⟩
  let hnd : List ExceptHandler := [.ExceptHandler (some (.Name x np)) (some n) [.Assign [.Name y p1] (.Name n p2) spos] pos']
  let XE1 : Value → Shared → Prop := fun e s1 => wpAny (model X.prog X.w) X.A (noteFrame e X.env) (fun _ s2 => wpAny (model X.prog X.w) X.A (setFlight e none) (fun _ s3 => wpAny (model X.prog X.w) X.A (handleBy e X.env hnd) (SP X pins D) X.xe s3) X.xe s2) X.xe s1
  have takes : Takes (X.tr (X.pn ++ pins) XE1) (wKeep X.K c i j D) := by
    rintro u s' ⟨a, B, sI, pins', σ', H', cls, d, rfl, J', nb, up, sky, na, os, ag, hm, go⟩
    have J : Inv X pins σ' H' sI := J'.ofTry okX
    have sky1 : Sky B (X.env :: X.outer) a (Zc cls d) X.env.locals s'.heap := hs ▸ sky
    show wpAny (model X.prog X.w) X.A (noteFrame (.ref a) X.env) _ _ _
    refine Sky.land Zc.steady frames hf sky1 fun h3 fl3 up3 => ?_
    have J3 : Inv X pins σ' H' { s' with heap := h3 } := J.landed nb fl3.1 (up.trans up3) os ag
    obtain ⟨oe3, vs3, g3, z3, d3⟩ := fl3.there
    have noFr : a ∉ frs (X.env :: X.outer) := fun hm' => by
      obtain ⟨_, o', e', hnf⟩ := fl3.2.2.1.mem hm'
      rw [g3] at e'
      cases e'
      exact hnf _ d3
    have nL : a ≠ X.env.locals := fun z => noFr (List.mem_filterMap.mpr ⟨X.env, List.mem_cons_self, by rw [hf, z]⟩)
    have nF : a ∉ X.fs := fun hm' => let ⟨e, he, q⟩ := List.mem_filterMap.mp hm'; noFr (List.mem_filterMap.mpr ⟨e, List.mem_cons_of_mem _ he, q⟩)
    have aB : B.get? a = none := fl3.2.1
    have notI : ∀ o, sI.heap.get? a ≠ some o := fun o e => by
      have := nb a o e (by rw [hs]; exact noFr)
      rw [aB] at this
      cases this
    have S3 := J3.suite g3 d3 na nL nF
    have looksT : PySem.W.Looks (model X.prog X.w) h3 (typeOf (.ref a)) cls := fun A Q E s k q => wpAny_typeOf_ref (k _ _ g3) (by rw [z3.1]; exact q)
    have looksM := PySem.W.exm_one (M := model X.prog X.w) J3.kIn looksT hm
    refine wpAny_handleBy_cons (codeAny_handlers_test ?_) (fun q => nomatch q)
    have named : ∀ {Q : Value → Shared → Prop} {E : Value → Shared → Prop}, Q c { s' with heap := h3 } → wpAny (model X.prog X.w) (X.A.mark (some (.ref a))) (eval (.Name x np) X.env) Q E { s' with heap := h3 } := fun {Q E} q => by
      rcases hc with ⟨hg, hdbg, h1 | ⟨h1, h2, h3⟩⟩
      · exact ld_glob (X := X.suite a ((a, oe3) :: (X.pn ++ pins))) S3 hg h1 q hdbg
      · exact ld_blt (X := X.suite a ((a, oe3) :: (X.pn ++ pins))) S3 hg h1 h2 q h3 hdbg
    refine named (looksM.here (codeAny_handlers_suite_as (HandSPX.lands_againZ fl3 fun h4 fl4 up4 => ?_)))
    have J4 : Inv X pins σ' H' { s' with heap := h4 } := J.landed nb fl4.1 ((up.trans up3).trans up4) os ag
    obtain ⟨oe4, vs4, g4, z4, d4⟩ := fl4.there
    have S4 := J4.suite g4 d4 na nL nF
    have li : i < σ'.length := by rw [J.len]; exact hli
    refine store_ok (X := X.suite a ((a, oe4) :: (X.pn ++ pins))) (v := .ref a) S4 nd hi (.inl hn) rfl (fun s5 S5 => ?_) (.inr hn)
    -- y = n
    have asg : PS (X.suite a ((a, oe4) :: (X.pn ++ pins))) (.Assign [.Name y p1] (.Name n p2) spos) (tAsg (tVar i) (gName j)) := ps_set nd hj (.inl hy) (pe_var hi (.inl hn) hdn hcn) hsw (.inr hy)
    refine wpAny_mono ((pss_one asg).run [] s5 _ H' { nx := fun σ6 H6 => σ6 = (σ'.set i (some (.ref a))).set j (some (.ref a)) ∧ H6 = H', rt := fun _ _ => False } S5 ⟨.ref a, List.getElem?_set_self li, rfl, rfl⟩) (fun f s6 hsp => ?_) fun _ _ z => False.elim z
    cases f with
    | next =>
      obtain ⟨σ6, H6, S6, rfl, rfl⟩ := hsp
      have J6 : Inv X pins _ H6 s6 := S6.unsuite okX
      have g6 : s6.heap.get? a = some oe4 := (S6.pin (a, oe4) (List.mem_append_left _ List.mem_cons_self)).1
      have noted := inv_note J6 g6 na nL (fun x' c' e' z => by
          obtain ⟨v', o', e1, e2⟩ := J6.cell x' c' e'
          rw [z, g6] at e1
          cases e1
          rw [d4] at e2
          cases e2) (fun p hp z => by
          have q := (J.pin p hp).1
          rw [z] at q
          exact notI _ q) (by
          cases e0 : X.s_0.heap.get? a with
          | none => rfl
          | some o0 =>
            obtain ⟨o', e1⟩ := J.base.there a o0 e0 (by rw [hex]; exact fun z => nomatch z)
            exact absurd e1 (notI o'))
      exact gone_ok noted nd hi hn fun s7 J7 => ⟨_, _, J7, go a oe4 na z4.1 z4.2 ⟨_, d4⟩⟩
    | brk => exact let ⟨_, _, _, z⟩ := hsp; False.elim z
    | cont => exact let ⟨_, _, _, z⟩ := hsp; False.elim z
    | ret u => exact let ⟨_, _, _, _, _, z⟩ := hsp; False.elim z
  refine wpAny_mono ((hb (wKeep X.K c i j D) (X.pn ++ pins) XE1 takes PassesOwn.looking).run [] s σ H D (I.toTry XE1) want) (fun f s1 hsp => ?_) fun e s1 he => he
  have q := ends _ f s1 hsp
  cases f with
  | next => exact wpAny_execs_nil q
  | brk => exact q
  | cont => exact q
  | ret u => exact q
end
end PP
set_option Elab.async false
set_option linter.all false
set_option maxRecDepth 100000
set_option maxHeartbeats 4000000
namespace PP
open PySem PySem.W PySem.Calls PyProof.Rows PySem.Spec
/-! ## isinstance of a kept error -/
structure ErrCls (K : Frag) (D : Addr) : Prop where
  ga : findIn K (.ref D) "__getattribute__" = some (some (.builtin "BaseException.__getattribute__"))
  gg : findIn K (.ref D) "__getattr__" = some none
  ex : subIn K (.ref D) (.type "BaseException") = some true
  hd : hasDictIn K D = true
  cl : findIn K (.ref D) "__class__" = some (some (.builtin "object.__class__"))
  gt : specialIn K (.builtin "object.__class__") "__get__" = some (some (.builtin "getset_descriptor.__get__"))
  tk : takesIn K (.builtin "object.__class__") = some true
  ob : mroIn K D (.type "object") = some true
section
variable {prog : Program} {w : World} {A : Around} {E : Value → Shared → Prop} {s : Shared} {K : Frag} {x D : Addr} {ox : Obj} {od : Option Obj}
theorem err_class {Q : Option Value → Shared → Prop} (c : ErrCls K D) (X : K.In s.heap) (I : InstAt s.heap x ox D od) (h : Q (some (.ref D)) { s with toks := s.toks + 1 }) : wpAny (model prog w) A (getAttr? (.ref x) "__class__") Q E s := by
  obtain ⟨cd, hc, _⟩ := any_some c.hd
  have found : findObj K D od "__class__" = some (.bind (.builtin "getset_descriptor.__get__") (.builtin "object.__class__")) := by
    unfold findObj
    rw [hc, Option.bind_some, c.cl, Option.bind_some]
    simp [c.gt, c.tk]
  obtain ⟨hp, g, dr, t, os⟩ := s
  have lt := I.type (M := model prog w)
  have lg := looks_findIn (M := model prog w) X c.ga
  have lo := looks_find (M := model prog w) X I found
  have isB : Looks (model prog w) hp (isInstance (.ref x) (.type "BaseException")) true := lt.andThen (looks_subIn X c.ex)
  unfold getAttr? getAttrBy? getAttrBy
  refine wpAny_bind (wpAny_mkText (wpAny_bind (wpAny_attempt (wpAny_holding (wpAny_bind (lt.at (wpAny_bind (lg.at ?_))))))))
  have no2 : (Value.builtin "BaseException.__getattribute__" == Value.builtin "object.__getattribute__") = false := by decide +kernel
  have no1 : (onTheHeap (Value.ref D) && Value.builtin "BaseException.__getattribute__" == Value.builtin "object.__getattribute__") = false := by rw [no2, Bool.and_false]
  show wpAny _ _ (if (onTheHeap (Value.ref D) && Value.builtin "BaseException.__getattribute__" == Value.builtin "object.__getattribute__") = true then _ else _) _ _ _
  rw [no1, if_neg Bool.false_ne_true]
  unfold getAttrByItsOwn hookBefore
  refine wpAny_bind ?_
  rw [if_pos (show onTheHeap (Value.ref D) = true from rfl)]
  refine (looks_findIn (M := model prog w) X c.gg).at (wpAny_bind (wpAny_attempt (wpAny_holding ?_)))
  unfold callGetattribute
  rw [if_neg (show ¬ ((false && onTheHeap (Value.builtin "BaseException.__getattribute__")) = true) from Bool.false_ne_true)]
  unfold boundAndCalled
  rw [PySem.F.excAttr_ValueError.ga.bind (.ref x)]
  refine wpAny_bind (wpAny_pure ?_)
  show wpAny _ _ (call (.builtin "BaseException.__getattribute__") [.ref x, .str "__class__" t]) _ _ _
  refine wpAny_call (codeAny_call_builtin PySem.F.excAttr_ValueError.ga.plain PySem.F.entry_bexc_ga (@check_slot (model prog w) _ _ ⟨hp, g, dr, t + 1, os⟩ "BaseException.__getattribute__" "BaseException" "__getattribute__" (.ref x) [.str "__class__" t] [] _ (by decide +kernel) (by decide +kernel) isB
    (PySem.F.args_bexc_ga (.ref x) (.str "__class__" t)) ?_))
  unfold Builtin.«object.__getattribute__»
  refine wpAny_bind (wpAny_of_eq (a := ((Value.ref x : Value), [Value.str "__class__" t])) (by first | rfl | (simp only [slotArgs]; rfl)) (wpAny_bind (wpAny_pure (wpAny_bind (lt.at (wpAny_bind (lo.at ?_)))))))
  show wpAny _ _ (holding [Value.builtin "object.__class__"] (call (.builtin "getset_descriptor.__get__") [.builtin "object.__class__", .ref x, .ref D]) >>= ret) _ _ _
  refine wpAny_bind (wpAny_holding (wpAny_call (class_get (s := ⟨hp, g, dr, t + 1, os⟩) (ox := ox) (od := od) X I c.ob (wpAny_pure ?_))))
  show wpAny _ _ (handedOut (.ref D)) _ _ _
  rw [handedOut_of (v := .ref D) rfl]
  first
    | exact wpAny_pure (wpAny_pure h)
    | exact wpAny_pure h
    | exact wpAny_pure (wpAny_bind (wpAny_pure (wpAny_pure h)))
theorem err_kit (c : ErrCls K D) : KitX K (.ref x) (.ref D) (fun h => ∃ ox od, InstAt h x ox D od) where
  ty := fun _ _ _ ⟨_, _, I⟩ => I.type
  it := fun _ _ X _ => by
    obtain ⟨cd, hc, _⟩ := any_some c.hd
    unfold clsIn at hc
    split at hc
    · rename_i ho
      exact fun A' Q' E' s' k q => by
        unfold isType loadHead
        exact wpAny_bind (wpAny_loadPart (k _ _ (X _ _ ho)) (wpAny_pure q))
    · cases hc
  ne := fun h tp dd its n sl X htp => by
    obtain ⟨cd, hc, _⟩ := any_some c.hd
    refine Bool.eq_false_iff.mpr fun q => ?_
    obtain rfl : D = tp := Value.ref.inj (beq_iff_eq.mp q)
    unfold clsIn at hc
    split at hc
    · rename_i ho
      cases (X _ _ ho).symm.trans htp
    · cases hc
  ca := fun X ⟨_, _, I⟩ k => err_class c X I k
end
end PP
namespace PP
open PySem L2 PySem.Spec PyProof.Rows
section
variable {X : Cx} {e a : Expr} {fe : FE} {g : FA} {p pos pos2 : Pos} {c : Str} {k : Nat}
/-- the object of a kept error -/
theorem errAt_inst {pins : List (Addr × Obj)} {σ : L2.St} {H : Hp} {s : Shared} {d : PyData} {u : V} (I : Inv X pins σ H s) (h : ErrAt X.K X.mg H c d u) : ∃ (a C dx : Addr) (oe : Obj) (fs : List (Str × V)) (vv : V) (od : Obj) (mA : Str → Option Value), u = .ref a ∧ X.mg c = some (.ref C) ∧ PySem.W.InstAt s.heap a oe C (some od) ∧
    (∀ y, PySem.W.lookIn y od = some (mA y)) ∧ RelO (fs.lookup ("value" : Str)) (mA "value") ∧ fs.lookup ("value" : Str) = some vv ∧ Rp X.K H d vv := by
  obtain ⟨a, C, dx, oe, fs, vv, rfl, hm, c1, c2, ⟨ws, c3⟩, c4, c5, c6, rp⟩ := h
  have he : s.heap.get? a = some oe := (I.hok a _ c4).1
  obtain ⟨mA, ns, rel⟩ := (show ObjOk X.prog X.w H s.heap dx (.xd fs) from I.hok dx _ c5)
  obtain ⟨od, ho, hl⟩ := lookIn_ns ns
  exact ⟨a, C, dx, oe, fs, vv, od, mA, rfl, hm, ⟨he, c1, by unfold PySem.W.notCls; rw [c3] <;> rfl, by rw [c2]; exact ho⟩, hl, rel _, c6, rp⟩
/-- what is known of the error class c -/
structure ErrOk (X : Cx) (R fI : Addr) (c : Str) : Prop where
  ex : ∃ C, X.mg c = some (.ref C) ∧ ErrTxt X.prog X.K C R fI ∧ ErrCls X.K C ∧ PySem.W.exmOne X.K (.ref C) (.ref R) = some true
def rIsiE (X : Cx) : List V → Hp → VK → Prop := fun xs H Q => ∃ (x v : V) (u : Value) (c : Str) (d : PyData) (C : Addr) (b : Bool), xs = [x, v] ∧ ClsV v u ∧ ErrAt X.K X.mg H c d x ∧ X.mg c = some (.ref C) ∧ ErrCls X.K C ∧ PySem.W.kitOne X.K (.ref C) u = some b ∧ Q (.bl b) H
theorem cr_isiE : CallR X (.builtin "isinstance") (rIsiE X) := by
  intro pins s σ H xs us Q I r h
  obtain ⟨x, v, u, c, d, C, b, rfl, kv, er, hm, ec, e, q⟩ := h
  obtain ⟨u1, u2, rfl, r1, r2⟩ := vals2 r
  have e2 := kv.eq r2
  subst e2
  obtain ⟨a, C', dx, oe, fs, vv, od, mA, rfl, hm', J, _⟩ := errAt_inst I er
  rw [hm] at hm'
  cases hm'
  obtain rfl : u1 = Value.ref a := r1
  exact PySem.W.kia_one (err_kit ec) I.kIn ⟨_, _, J⟩ e (fun z => nomatch z) fun tk => ⟨.bl b, H, I.tok tk, rfl, q⟩
theorem cr_isiN : CallR X (.builtin "isinstance") (fun xs H Q => rIsiE X xs H Q ∨ rIsi X.K xs H Q) := by
  intro pins s σ H xs us Q I r h
  rcases h with h | h
  · exact cr_isiE pins s σ H xs us Q I r h
  · exact call_isi pins s σ H xs us Q I r h
/-- isinstance(e, T), e a kept error or None, T an error's class -/
def fIsiC (tab : List (Str × Bool)) (f : FE) : FE := fun sl S => bindE (f sl S) fun t v S1 => match t, v with
  | .pure, .err c _ => match tab.lookup c with
    | some b => some (.val .pure (.py (.bool b)) S1)
    | none => none
  | .pure, .py .none => some (.val .pure (.py (.bool false)) S1)
  | _, _ => none
theorem den_isiC {T : Str} {q : Pos} {v : V} {uT : Value} {tab : List (Str × Bool)} (h : Den X e fe) (hi : Gl X "isinstance") (mi : X.mg "isinstance" = none) (hT : PE X (.Name T q) (tC v)) (kv : ClsV v uT)
    (htab : ∀ c b, tab.lookup c = some b → ∃ C, X.mg c = some (.ref C) ∧ ErrCls X.K C ∧ PySem.W.kitOne X.K (.ref C) uT = some b) (hN : PySem.W.kitOne X.K (.type "NoneType") uT = some false)
    (h1 : starEach [e, .Name T q] X.env = (false, eval e X.env) :: starEach [.Name T q] X.env) (h2 : starEach [.Name T q] X.env = (false, eval (.Name T q) X.env) :: starEach [] X.env) (hpl : (backTo pos (starEach [.Name T q] X.env)).any (·.1) = false) :
    Den X (.Call (.Name "isinstance" p) [e, .Name T q] [] pos) (fIsiC tab fe) := by
  refine .mk ?_; intro H0 φ0 φ σ H sl S r R hf Q W tk post
  refine wE.of (pe_callB cr_isiN hi mi (by decide +kernel) (pa_cons wE.pe (pa_cons hT pa_nil h2) h1) (by decide) (by decide) h1 hpl) ?_
  refine den_then h R tk hf post fun t1 v1 S1 u1 H1 φ1 hk R1 l1 rv1 post1 => ?_
  split at hk
  · rename_i c d
    split at hk
    · rename_i b hb
      cases hk
      obtain ⟨C, hm, ec, ek⟩ := htab c b hb
      exact .inl ⟨u1, v, uT, c, d, C, b, rfl, kv, rv1, hm, ec, ek, post1 _ H1 φ1 R1 (Le.refl _ _) rfl (fun z => nomatch z)⟩
    · cases hk
  · cases hk
    obtain rfl : u1 = .non := rv1
    exact .inr ⟨.non, v, _, uT, false, rfl, kv, .base .non, hN, post1 _ H1 φ1 R1 (Le.refl _ _) rfl (fun z => nomatch z)⟩
  · cases hk
/-- e.value -/
def fErrVal (cs : List Str) (f : FE) : FE := fun sl S => bindE (f sl S) fun t v S1 => match t, v with
  | .pure, .err c d => if cs.contains c = true then some (.val .pure (.py d) S1) else none
  | _, _ => none
theorem den_errVal {R0 fI : Addr} {cs : List Str} (h : Den X e fe) (ok : ∀ c, cs.contains c = true → ErrOk X R0 fI c) (hb : attributeBase e "value" X.env (eval e X.env) = eval e X.env) : Den X (.Attribute e "value" pos) (fErrVal cs fe) := by
  refine .mk ?_; intro H0 φ0 φ σ H sl S r R hf Q W tk post pins s I
  refine attr_of hb ?_
  have go : wE X e σ H fun x H1 => ∃ c d C, ErrAt X.K X.mg H1 c d x ∧ X.mg c = some (.ref C) ∧ ErrTxt X.prog X.K C R0 fI ∧ ∀ v, Rp X.K H1 d v → Q v H1 := by
    rcases bindE_some hf with ⟨t, v, S1, e1, e2⟩ | ⟨c, d, S1, e1, rfl⟩
    · refine h H0 φ0 φ σ H sl S _ R e1 _ W tk fun u H1 φ1 R1 l1 rv _ => ?_
      split at e2
      · rename_i c d
        split at e2
        · rename_i hc
          cases e2
          obtain ⟨C, hm, T, _⟩ := (ok _ hc).ex
          exact ⟨_, _, C, rv, hm, T, fun v rp => post v H1 φ1 R1 l1 rp (fun z => nomatch z)⟩
        · cases e2
      · cases e2
    · exact h H0 φ0 φ σ H sl S _ R e1 _ W tk post
  refine thn (go pins s I) fun u s1 ⟨x, H1, I1, rx, c, d, C, er, hm, T, q⟩ => ?_
  obtain ⟨a, C', dx, oe, fs, vv, od, mA, rfl, hm', J, hl, rel, hv, rp⟩ := errAt_inst I1 er
  rw [hm] at hm'
  cases hm'
  obtain rfl : u = Value.ref a := rx
  obtain ⟨uv, hu, ru⟩ := RelO.some_of (v := vv) (o := mA "value") (by rw [← hv]; exact rel)
  exact HandSPX.exc_get I1.kIn J T.ga T.gg T.exC (PySem.W.findObj_own T.hdC T.noN rfl (by rw [hl, hu])) (handed_of ru) ⟨vv, H1, I1.tok _, ru, q vv rp⟩
/-! ### raise C(e) -/
def fMkErr (C : Addr) (ta : TA) : L2.St → Hp → XK → Prop := fun σ H Q => ta σ H fun vs H1 => ∃ v, vs = [v] ∧ ∀ d, H1 d = none → Q (.ref C) (some d) (upd H1 d (.xd [("value", v)]))
theorem relO_value {v : V} {u : Value} (r : RelV v u) (f : Str) : RelO (List.lookup f [(("value" : Str), v)]) (if f = "value" then some u else none) := by
  by_cases h : f = "value"
  · subst h
    rw [if_pos rfl]
    have e : List.lookup ("value" : Str) [(("value" : Str), v)] = some v := by simp [List.lookup]
    rw [e]
    exact r
  · rw [if_neg h]
    have e : (f == ("value" : Str)) = false := by simpa using h
    have e2 : List.lookup f [(("value" : Str), v)] = none := by simp [List.lookup, e]
    rw [e2]
    trivial
theorem pmk_err {C R0 fI : Addr} {ta : TA} (T : ErrTxt X.prog X.K C R0 fI) (hr : Room k X.A) (hg : Gl X c) (hm : X.mg c = some (.ref C)) (hdb : (c == ("__debug__" : Str)) = false) (ha : PA X [a] ta)
    (he : starEach (a :: []) X.env = (false, eval a X.env) :: starEach [] X.env) (hpl : (backTo pos (starEach [] X.env)).any (·.1) = false) : PMk X (.Call (.Name c p) [a] [] pos) (fMkErr C ta) := by
  intro pins s σ H Q I h
  refine wpAny_Call_Name_kw (ld_glob I hg hm ?_ hdb)
  refine PySem.W.callWith_K (h₀ := X.base) I.ok.mod.kin T.kC (thn (ha.run pos pins s σ H _ I h) fun us s1 ⟨vs, H1, I1, rr, v, ev, q1⟩ => ⟨I1.kIn, ?_⟩) he hpl
  subst ev
  obtain ⟨u, rfl, rv⟩ := rr.one
  have lim := I1.nolimit
  have nsG := I1.ok.mod.glob.keeps I1.bk
  obtain ⟨mb, nsB, hbb⟩ := I1.ok.mod.blt
  have nsB' := nsB.keeps I1.bk
  obtain ⟨hp, g, dr, tk, os⟩ := s1
  refine wpAny_call (err_made T I1.kIn lim nsG nsB' hbb (by have := hr.dp; omega) fun h' tk' e d M => ?_)
  show MkP X pins σ Q (.ref e) ⟨h', g, dr, tk', os⟩
  obtain ⟨oe, fv, hoe, hc, hd, hdat, h1⟩ := M.obj
  -- the state without the error's object
  obtain ⟨G', in_, out_⟩ := restrict h' fun b => decide (b ≠ e)
  have same : ∀ b, b ≠ e → G'.get? b = h'.get? b := fun b hb => in_ b (decide_eq_true hb)
  have gone : G'.get? e = none := out_ e (by simp)
  have old : ∀ b o, hp.get? b = some o → G'.get? b = some o := fun b o q => by
    rw [same b (Nat.ne_of_lt (Nat.lt_of_lt_of_le (Heap.lt_size q) M.new))]
    exact M.keep b o q
  have new : ObjOk X.prog X.w (upd H1 d (.xd [(("value" : Str), v)])) G' d (.xd [(("value" : Str), v)]) :=
    ⟨_, M.ns.at fun o q => by rw [same d M.dne]; exact q, fun f => relO_value rv f⟩
  have J : Inv X pins σ (upd H1 d (.xd [(("value" : Str), v)])) ⟨G', g, dr, tk', os⟩ := I1.laid (t' := tk') old M.dbig new
  refine ⟨e, oe, fv, ⟨G', g, dr, tk', os⟩, _, .ref C, some d, rfl, J, fun b o q => ?_, gone, hoe, ⟨hc, hd⟩, hdat, h1, ?_, rfl, I1.bare, raises_own T.exC T.tyC, q1 d (I1.hok.fresh M.dbig)⟩
  · have q' : G'.get? b = some o := q
    by_cases hb : b = e
    · rw [hb, gone] at q'
      cases q'
    · rw [same b hb] at q'
      exact q'
  · rw [upd_ne (Ne.symm M.dne)]
    exact I1.hok.fresh M.new
def fRaise (c : Str) (g : FA) : FS := fun sl S => match g sl S with
  | some (.vals [(.pure, .py d)] S1) => some (.exn c d sl S1)
  | some (.exn c' d S1) => some (.exn c' d sl S1)
  | _ => none
theorem denS_raise {R0 fI : Addr} (ct : Ct X k) (ok : ErrOk X R0 fI c) (hg : Gl X c) (hdb : (c == ("__debug__" : Str)) = false) (ha : DenA X [a] g)
    (he : starEach (a :: []) X.env = (false, eval a X.env) :: starEach [] X.env) (hpl : (backTo pos (starEach [] X.env)).any (·.1) = false) : DenS1 X (.Raise (some (.Call (.Name c p) [a] [] pos)) none pos2) (fRaise c g) := by
  refine .mk ?_; intro H0 φ0 φ σ H sl S r R hf D W tk post
  obtain ⟨C, hm, T, _⟩ := ok.ex
  refine wS1.of (ps_raise ct.calm tk (pmk_err T ct.room hg hm hdb wA.pa he hpl)) ?_
  unfold fRaise at hf
  split at hf
  · rename_i d S1 h1
    cases hf
    refine ha H0 φ0 φ σ H sl S _ R h1 _ W tk fun us H1 φ1 R1 l1 rvs => ?_
    obtain ⟨u, t, rfl, rv, rfl⟩ := rvs
    refine ⟨u, rfl, fun dx hd => ?_⟩
    have ex : Ext H1 (upd H1 dx (.xd [(("value" : Str), u)])) := Ext.new hd
    exact post (C) dx σ _ φ1 (R1.ext ex) (l1.fz.trans ex.fz) ⟨hm, _, u, upd_same, by simp [List.lookup], Rp.mono ex.fz d rv⟩
  · rename_i c' d S1 h1
    cases hf
    exact ha H0 φ0 φ σ H sl S _ R h1 _ W tk fun C dx H' φ' R' l' ex => post C dx σ H' φ' R' l'.fz ex
  · cases hf
/-! ### try: .. except R as n: y = n -/
def fKeep (cs : List Str) (i j : Nat) (fb : FS) : FS := fun sl S => match fb sl S with
  | some (.exn c d sl' S') => if cs.contains c then some (.nx ((sl'.set j (.p (.err c d))).set i .un) S') else none
  | r => r
theorem denS_keep {x n y : Str} {R0 fI : Addr} {cs : List Str} {i j : Nat} {body : List Stmt} {fb : FS} {np p1 p2 spos pos' : Pos} (ct : Ct X k) (hs : X.stack = X.env :: X.outer) (hf : X.env.frame = some X.env.locals) (hex : X.ex = []) (hi : X.N[i]? = some n) (hj : X.N[j]? = some y) (hij : i ≠ j)
    (hn : X.env.scope.names.lookup n = some .local) (hy : X.env.scope.names.lookup y = some .local) (hg : Gl X x) (hm : X.mg x = some (.ref R0)) (hdx : (x == ("__debug__" : Str)) = false) (ok : ∀ c, cs.contains c = true → ErrOk X R0 fI c) (hdn : (n == ("__debug__" : Str)) = false) (hcn : (n == ("__classdict__" : Str)) = false)
    (hsw : swapsWith (.Name n p2) (some (.Name y p1)) spos.line X.env = pure false)
    (hb : ∀ (pn : List (Addr × Obj)) (xe : Value → Shared → Prop), PassesOwn (model X.prog X.w) X.A X.env xe → DenS (X.tr pn xe) body fb) :
    DenS1 X (.Try body [.ExceptHandler (some (.Name x np)) (some n) [.Assign [.Name y p1] (.Name n p2) spos] pos'] [] [] pos) (fKeep cs i j fb) := by
  refine .mk ?_; intro H0 φ0 φ σ H sl S r R hfb D W tk post
  have li : i < X.N.length := (List.getElem?_eq_some_iff.mp hi).1
  refine wS1.of (ps_keep (c := .ref R0) (tb := fun W' D' σ' H' => ∀ pn xe, Takes (X.tr pn xe) W' → PassesOwn (model X.prog X.w) X.A X.env xe → wSs (X.tr pn xe) body D' σ' H') hs hf hex ct.nd hi hj hn hy ⟨hg, hdx, .inl hm⟩ hdn hcn hsw li
    fun W' pn xe tk' po => ⟨fun pins s σ' H' D' I h => h pn xe tk' po pins s I⟩) fun pn xe tk' po => ?_
  unfold fKeep at hfb
  split at hfb
  · rename_i c d sl' S' e1
    split at hfb
    · rename_i hc
      cases hfb
      refine hb pn xe po H0 φ0 φ σ H sl S _ R e1 D _ tk' fun C dx σ' H' φ' R' z ex => ?_
      obtain ⟨C', hm', _, _, hx⟩ := (ok c hc).ex
      obtain ⟨hmC, fs, vv, hd, hv, rp⟩ := ex
      have hmC' : X.mg c = some (.ref C) := hmC
      rw [hm'] at hmC'
      cases hmC'
      refine ⟨hx, fun a oe na oc od ws => ?_⟩
      have e0 : Ext H' (upd H' a (.ext fun h => h.get? a = some oe)) := Ext.new na
      have er : ErrAt X.K X.mg (upd H' a (.ext fun h => h.get? a = some oe)) c d (.ref a) := ⟨a, _, dx, oe, fs, vv, rfl, hm', oc, od, ws, upd_same, e0 _ _ hd, hv, rp.mono e0.fz⟩
      have R1 : Rel X.K X.mg H0 φ0 φ' σ' (upd H' a (.ext fun h => h.get? a = some oe)) sl' S' := Rel.ext R' e0
      have R2 := ((R1.un i (some (.ref a))).put (t := .pure) (v := .err c d) (u := .ref a) er rfl j).un i none
      have e2 : ((sl'.set i Slot.un).set j (Slot.p (Vl.err c d))).set i Slot.un = (sl'.set j (Slot.p (Vl.err c d))).set i Slot.un := by rw [List.set_comm _ _ hij, List.set_set]
      rw [e2] at R2
      exact post _ _ φ' R2 (z.trans e0.fz)
    · cases hfb
  · rename_i hne
    refine hb pn xe po H0 φ0 φ σ H sl S r R hfb D _ tk' ?_
    cases r with
    | nx a b => exact post
    | bk a b => exact post
    | ct a b => exact post
    | rt t v S => exact post
    | exn c d a b => exact absurd hfb (hne c d a b)
end
end PP
set_option Elab.async false
set_option linter.all false
set_option maxRecDepth 100000
set_option maxHeartbeats 4000000
namespace PP
open PySem PySem.W PySem.Calls PyProof.Rows PySem.Spec PySem.SeqAt
/-! ## sorted -/
section
variable {prog : Program} {w : World} {A : Around} {E : Value → Shared → Prop} {s : Shared}
theorem tupleLt_call {Q : Value → Shared → Prop} {l b : Addr} {items items2 : Array Value} {e r : Nat → Bool} {o o2 : Obj} {n n2 : Nat} (h1 : s.heap.get? l = some o) (c1 : o.cls = .type "tuple") (d1 : o.data = .seq items n) (h2 : s.heap.get? b = some o2) (c2 : o2.cls = .type "tuple") (d2 : o2.data = .seq items2 n2)
    (he : ∀ j (h1 : j < items.size) (h2 : j < items2.size), EqAt A.in1 s items[j] items2[j] (e j)) (hr : ∀ j (h1 : j < items.size) (h2 : j < items2.size), e j = false → RcLt A.in1 s items[j] items2[j] (r j))
    (h : Q (.bool (firstLt e r (decide (items.size < items2.size)) (List.range (min items.size items2.size)))) s) : wpAny (model prog w) A (call (.builtin "tuple.__lt__") [.ref l, .ref b]) Q E s := by
  obtain ⟨k1, dd1, dt1, sl1⟩ := o
  obtain ⟨k2, dd2, dt2, sl2⟩ := o2
  dsimp only at c1 d1 c2 d2
  subst c1 d1 c2 d2
  exact call_meets F.slot_tuple_lt ⟨_, h1, rfl⟩ F.entry_tuple_lt (F.args_tuple_lt_2 _ _) (tuple_ltAt l b items items2 n n2 dd1 dd2 sl1 sl2 e r) ⟨h1, h2, he, hr, h⟩
theorem oneLt_tup {xs ys : List PyData} {a b : Value} {as bs : List Addr} {Q : Bool → Shared → Prop} (ra : Reads s.heap a (.tuple xs) as) (rb : Reads s.heap b (.tuple ys) bs) (hal : alikeAll xs ys = true)
    (hu : A.units + min (PyData.tuple xs).depth (PyData.tuple ys).depth < cLine) (hq : Q (dataLt (.tuple xs) (.tuple ys)) s) : wpAny (model prog w) A (oneLt' true a b) Q E s := by
  cases ra with
  | @tuple l o vs n _ as₁ h1 h2 h3 h4 =>
    cases rb with
    | @tuple l' o' vs' n' _ bs₁ k1 k2 k3 k4 =>
      have n1 : vs.size = xs.length := by simpa using SeqAt.ReadsAll.length _ _ _ h4
      have n2 : vs'.size = ys.length := by simpa using SeqAt.ReadsAll.length _ _ _ k4
      rw [dataLt_tuple, ← firstLt_toks xs ys hal, ← n1, ← n2] at hq
      rw [oneLt'_eq, if_pos rfl]
      refine wpAny_bind (wpAny_cRoomFor (SeqAt.room_here hu) (wpAny_bind (wpAny_callSpecialIfBound?_slot (T := "tuple") ⟨_, h1, h2⟩ F.slot_tuple_lt ?_)))
      refine tupleLt_call (e := pairEq xs ys) (r := fun j => dataLt (xs.getD j .none) (ys.getD j .none)) h1 h2 h3 k1 k2 k3 (fun j j1 j2 => ?_) (fun j j1 j2 hj => ?_) (wpAny_truthy_bool hq)
      · have z := eqAt_alikeAll xs ys A.in1 s vs.toList vs'.toList _ _ h4 k4 hal (SeqAt.room_in hu) j (by simpa using j1) (by simpa using j2)
        simpa using z
      · have z := rcLt_alikeAll xs ys A.in1 s vs.toList vs'.toList _ _ h4 k4 hal (SeqAt.room_in hu) j (by simpa using j1) (by simpa using j2) hj
        simpa using z
theorem mapM_some {M : Model} {α β : Type} {f : α → Sem β} : ∀ (l : List α) {Q : List β → Shared → Prop}, (∀ v ∈ l, ∃ r : β, ∀ (Q' : β → Shared → Prop), Q' r s → wpAny M A (f v) Q' E s) → (∀ rs : List β, rs.length = l.length → Q rs s) → wpAny M A (l.mapM f) Q E s
  | [], Q, _, h => by rw [List.mapM_nil]; exact wpAny_pure (h [] rfl)
  | x :: l, Q, hf, h => by
    rw [List.mapM_cons]
    obtain ⟨r, hr⟩ := hf x (List.mem_cons_self ..)
    refine wpAny_bind (hr _ (wpAny_bind (mapM_some l (fun v hv => hf v (List.mem_cons_of_mem _ hv)) fun rs e => wpAny_pure (h (r :: rs) (by simp [e])))))
theorem first_of {M : Model} {v : Value} {xs : List PyData} {as : List Addr} (ra : Reads s.heap v (.tuple xs) as) : ∃ r : Option Value, (xs = [] → r = none) ∧ ∀ (Q' : Option Value → Shared → Prop), Q' r s → wpAny M A (firstOfTuple' v) Q' E s := by
  cases ra with
  | @tuple l o vs n _ as₁ h1 h2 h3 h4 =>
    refine ⟨vs[0]?, fun e => ?_, fun Q' q => ?_⟩
    · subst e
      have n1 : vs.size = 0 := by simpa using SeqAt.ReadsAll.length _ _ _ h4
      exact Array.getElem?_eq_none (by omega)
    · rw [kas_first_eq]
      refine wpAny_bind (Looks.here (show Looks M s.heap (typeOf (.ref l)) o.cls from (Looks.ld h1).andThen .now) ?_)
      rw [h2, if_neg (by first | decide | simp)]
      exact wpAny_bind (listItems_at h1 h3 (wpAny_pure q))
/-- tuples, the first of them empty -/
theorem kind_empty {M : Model} {vs : List Value} {ds : List PyData} {Q : SortKind → Shared → Prop} (e : EachIs (fun v d => ∃ as, Reads s.heap v d as) vs (.tuple [] :: ds)) (ht : ∀ d ∈ ds, ∃ xs, d = .tuple xs) (h2 : 2 ≤ vs.length) (h : Q oneType' s) : wpAny M A (keyKind' vs.toArray) Q E s := by
  have isT : ∀ v ∈ vs, ∃ xs as, Reads s.heap v (.tuple xs) as := fun v hv => by
    obtain ⟨d, hd, as, r⟩ := e.left v hv
    rcases List.mem_cons.mp hd with rfl | hd
    · exact ⟨_, as, r⟩
    · obtain ⟨xs, rfl⟩ := ht d hd
      exact ⟨xs, as, r⟩
  cases e with
  | @cons v _ rest _ r0 rt =>
    obtain ⟨as0, r0⟩ := r0
    rw [keyKind'_eq, List.mapM_toArray, map_eq_pure_bind, List.mapM_cons]
    obtain ⟨f0, hf0, hq0⟩ := first_of (M := M) (A := A) (E := E) r0
    obtain rfl := hf0 rfl
    refine wpAny_bind (wpAny_bind (wpAny_bind (hq0 _ (wpAny_bind (mapM_some rest (fun v hv => ?_) fun rs hl => wpAny_pure (wpAny_pure ?_))))))
    · obtain ⟨xs, as, r⟩ := isT v (List.mem_cons_of_mem _ hv)
      obtain ⟨f, _, hq⟩ := first_of (M := M) (A := A) (E := E) r
      exact ⟨f, hq⟩
    · rw [if_neg (by simp), if_neg (by simp)]
      rw [oneTypeOnly'_eq, List.mapM_toArray, map_eq_pure_bind]
      refine wpAny_bind (wpAny_bind (wpAny_bind (kas_mapM (r := Value.type "tuple") _ (fun v hv Q' hq => ?_) (wpAny_pure ?_))))
      · obtain ⟨xs, as, r⟩ := isT v hv
        exact (looks_reads r).here hq
      · have all : ((List.map (fun _ => Value.type "tuple") (v :: rest)).toArray.all fun x => x == Value.type "tuple") = true := by
          simp only [List.all_toArray, List.all_map, List.all_eq_true]
          intro _ _
          exact beq_self_eq_true _
        rw [show (List.map (fun _ => Value.type "tuple") (v :: rest)).toArray[0]? = some (Value.type "tuple") by simp]
        simp only [all, if_true]
        exact wpAny_pure (wpAny_pure h)
theorem sorts_empty {vs : List Value} {ds : List PyData} (e : EachIs (fun v d => ∃ as, Reads s.heap v d as) vs (.tuple [] :: ds)) (hal : AllAlike (.tuple [] :: ds)) (ht : ∀ d ∈ ds, ∃ xs, d = .tuple xs) (hu : ∀ d, d ∈ PyData.tuple [] :: ds → A.units + d.depth < cLine) :
    SortsAt prog w A s (dataKind s.heap (.tuple [] :: ds)) vs := by
  have isT : ∀ d ∈ PyData.tuple [] :: ds, ∃ xs, d = .tuple xs := fun d hd => by
    rcases List.mem_cons.mp hd with rfl | hd
    · exact ⟨[], rfl⟩
    · exact ht d hd
  refine ⟨fun v hv => ?_, oneType', ?_, fun h2 E Q hq => kind_empty e ht h2 hq⟩
  · obtain ⟨d, hd, as, r⟩ := e.left v hv
    exact ⟨_, dataKind_some hal hd r⟩
  · intro E x y a b Q ha hb hq
    obtain ⟨d, as, hd, ra, rfl⟩ := dataKind_inv ha
    obtain ⟨d', as', hd', rb, rfl⟩ := dataKind_inv hb
    obtain ⟨xs, rfl⟩ := isT d hd
    obtain ⟨ys, rfl⟩ := isT d' hd'
    rw [keyLt'_oneType]
    have al := hal _ hd _ hd'
    exact oneLt_tup ra rb (by simpa [alike] using al) (Nat.lt_of_le_of_lt (Nat.add_le_add_left (Nat.min_le_left _ _) _) (hu _ hd)) hq
/-- sorted(xs), the first item an empty tuple -/
theorem sorted_empty {l : Addr} {vs : List Value} {ds : List PyData} {R : Value → PyData → Prop} {Q : Value → Shared → Prop} (hl : s.heap.IsList l vs.toArray) (e : EachIs R vs (.tuple [] :: ds)) (er : EachIs (fun v d => ∃ as, Reads s.heap v d as) vs (.tuple [] :: ds)) (hal : AllAlike (.tuple [] :: ds)) (ht : ∀ d ∈ ds, ∃ xs, d = .tuple xs) (hL : vs.length ≤ sizeLine)
    (hu : ∀ d, d ∈ PyData.tuple [] :: ds → A.units + 2 + d.depth < cLine) (h : ∀ out, out.length = vs.length → EachIs R out ((PyData.tuple [] :: ds).mergeSort (dataLe false fun d => d)) → Q (.ref (s.heap.objs.size + 1)) { s with heap := sortedAll s.heap vs (List.toArray out) }) :
    wpAny (model prog w) A (call (.builtin "sorted") [.ref l]) Q E s := by
  have er' : EachIs (fun v d => ∃ as, Reads (sortingHeap (copyHeap s.heap vs) (s.heap.objs.size + 1) vs) v d as) vs (.tuple [] :: ds) := er.mono fun _ _ ⟨as, r⟩ => ⟨as, PyProof.Rows.Reads.keeps (fun _ _ => sorting_copy_old) r⟩
  have ed : ∀ ds : List PyData, ds.map (fun d : PyData => d) = ds := fun ds => List.map_id' ds
  have al : AllAlike ((PyData.tuple [] :: ds).map fun d => d) := by rw [ed]; exact hal
  refine sorted_vals hl (sorts_empty (s := { s with heap := sortingHeap (copyHeap s.heap vs) (s.heap.objs.size + 1) vs }) er' hal ht hu) hL (h _ (sortVals_length false rfl) ?_)
  have q := sortVals_data (enc := fun d : PyData => d) false e er' al
  rw [ed] at q
  exact q
end
end PP
namespace PP
open PySem L2 PySem.Spec PyProof.Rows
open PySem.W (EachIs)
section
variable {X : Cx} {k : Nat}
def alikes (ds : List PyData) : Bool := ds.all fun a => ds.all fun b => PySem.W.alike a b
def isTup : PyData → Bool
  | .tuple _ => true
  | _ => false
def isTup1 : PyData → Bool
  | .tuple (_ :: _) => true
  | _ => false
def isOther : PyData → Bool
  | .none => false
  | .tuple _ => false
  | _ => true
def sortsOk (ds : List PyData) : Bool := ds.all isTup1 || ds.all isOther || (match ds with
  | .tuple [] :: r => r.all isTup
  | _ => false)
def srt (ds : List PyData) : List PyData := ds.mergeSort (PySem.W.dataLe false fun d => d)
def sortP : List PyData → Option (Tg × PyData)
  | [.list ds] => if alikes ds && sortsOk ds && ds.all (fun d => decide (d.depth ≤ DEEP)) then some (.fresh, .list (srt ds)) else none
  | _ => none
theorem rps_each {K : PySem.W.Frag} {H : Hp} : ∀ {ds : List PyData} {vs : List V} {us : List Value}, Rps K H ds vs → Vals vs us → EachIs (fun u d => ∃ v, RelV v u ∧ Rp K H d v) us ds
  | [], _, _, h, r => by cases h; cases r; exact .nil
  | d :: ds, _, _, ⟨v, t, e, a, b⟩, r => by
    subst e
    cases r with
    | cons r1 r2 => exact .cons ⟨v, r1, a⟩ (rps_each b r2)
theorem each_rps {K : PySem.W.Frag} {H : Hp} : ∀ {ds : List PyData} {us : List Value}, EachIs (fun u d => ∃ v, RelV v u ∧ Rp K H d v) us ds → ∃ vs, Vals vs us ∧ Rps K H ds vs
  | _, _, .nil => ⟨[], .nil, rfl⟩
  | _, _, .cons ⟨v, r, p⟩ t => by
    obtain ⟨vs, rs, ps⟩ := each_rps t
    exact ⟨v :: vs, .cons r rs, v, vs, rfl, p, ps⟩
theorem sem_sorted (c : Ct X k) : CallSem X (.builtin "sorted") sortP := by
  intro ds xs H t d Q sh hs q
  unfold sortP at hs
  split at hs
  · rename_i ys
    split at hs
    · rename_i hc
      cases hs
      simp only [Bool.and_eq_true] at hc
      obtain ⟨⟨hal, hso⟩, hdp⟩ := hc
      obtain ⟨u, r, rfl, ⟨p, vs, rfl, r1, a1⟩, rfl⟩ := sh
      intro pins s σ us I rv
      obtain ⟨its, rvs, hl, hz⟩ := I.list r1
      rw [Vals.ref1 rv]
      have e : EachIs (fun u d => ∃ v, RelV v u ∧ Rp X.K H d v) its ys := rps_each a1 rvs
      have er : EachIs (fun v d => ∃ as, Reads s.heap v d as) its ys := e.mono fun u d ⟨v, r, p⟩ => Rp.reads I.hok I.kIn d p r
      have al : PySem.W.AllAlike ys := fun d hd d' hd' => List.all_eq_true.mp (List.all_eq_true.mp hal d hd) d' hd'
      have hu : ∀ d, d ∈ ys → X.A.units + 2 + d.depth < cLine := fun d hd => by
        have h1 : d.depth ≤ 60 := of_decide_eq_true (List.all_eq_true.mp hdp d hd)
        have h2 := c.room.un
        omega
      have fin : ∀ out : List Value, out.length = its.length → EachIs (fun u d => ∃ v, RelV v u ∧ Rp X.K H d v) out (srt ys) → EP X pins σ Q (.ref (s.heap.objs.size + 1)) { s with heap := sortedAll s.heap its out.toArray } := fun out hl' eo => by
        obtain ⟨ws, rw', pw⟩ := each_rps eo
        obtain ⟨ep, he⟩ := PyProof.Rows.sortedAll_at s.heap its out.toArray
        have hn : H (s.heap.objs.size + 1) = none := I.hok.fresh (Nat.le_succ _)
        have ex : Ext H (upd H (s.heap.objs.size + 1) (.lst ws)) := Ext.new hn
        have lw := rw'.length
        have lv := rvs.length
        have nw : ObjOk X.prog X.w (upd H (s.heap.objs.size + 1) (.lst ws)) (PyProof.Rows.sortedAll s.heap its out.toArray) (s.heap.objs.size + 1) (.lst ws) := ⟨by omega, out, ep, rw', he⟩
        refine ⟨.ref (s.heap.objs.size + 1), _, I.laid (t' := s.toks) (fun _ _ => PyProof.Rows.sortedAll_old) (Nat.le_succ _) nw, rfl, q _ _ ex ⟨_, rfl, ⟨ws, upd_same, pw.mono ex.fz⟩, hn⟩⟩
      have ed : ∀ ds : List PyData, ds.map (fun d : PyData => d) = ds := fun ds => List.map_id' ds
      have lz : ys.length ≤ sizeLine := by rw [← a1.len]; exact hz
      have lv := rvs.length
      unfold sortsOk at hso
      rw [Bool.or_eq_true, Bool.or_eq_true] at hso
      rcases hso with (h1 | h1) | h1
      · refine PySem.W.sorted_data (enc := fun d : PyData => d) hl.isList e er (by rw [ed]; exact al) (.inl ?_) lz hu fun out h1 h2 => fin out (by rw [h1, ← a1.len, lv]) h2
        intro d hd
        rw [ed] at hd
        have := List.all_eq_true.mp h1 d hd
        match d, this with
        | .tuple (x :: r), _ => exact ⟨x, r, rfl⟩
      · refine PySem.W.sorted_data (enc := fun d : PyData => d) hl.isList e er (by rw [ed]; exact al) (.inr ?_) lz hu fun out h1 h2 => fin out (by rw [h1, ← a1.len, lv]) h2
        intro d hd
        rw [ed] at hd
        have := List.all_eq_true.mp h1 d hd
        exact ⟨fun z => by (subst z; cases this), fun xs z => by (subst z; cases this)⟩
      · split at h1
        · rename_i r
          refine sorted_empty hl.isList e er al (fun d hd => ?_) (by omega) hu fun out h1 h2 => fin out h1 h2
          have := List.all_eq_true.mp h1 d hd
          match d, this with
          | .tuple xs, _ => exact ⟨xs, rfl⟩
        · cases h1
    · cases hs
  · cases hs
end
end PP
set_option Elab.async false
set_option linter.all false
set_option maxRecDepth 100000
set_option maxHeartbeats 4000000
namespace PP
open PySem L2 PySem.Spec PyProof.Rows
/-! ## a, b = x, y; chained comparisons -/
section
variable {X : Cx} {a b c : Expr} {fa fb fc : FE} {pos px py pt pt2 : Pos} {x y : Str} {i j k kt k2 : Nat}
theorem RV.putAt {K : PySem.W.Frag} {mg : Str → Option Value} {H0 H : Hp} {φ : List Addr} {σ : L2.St} {sl : Sl} {t t1 : Tg} {v v1 : Vl} {u u1 : V} {s : Slot} (r : RV K mg H0 H φ σ sl t v u) (hs : slotOf t1 v1 = some s) (r1 : RV K mg H0 H φ σ sl t1 v1 u1) (ne : t = .fresh → t1 = .fresh → u ≠ u1) (i : Nat) (hl : i < sl.length) (hl2 : i < σ.length) :
    RV K mg H0 H φ (σ.set i (some u1)) (sl.set i s) t v u := by
  cases t with
  | pure => exact r
  | mine =>
    cases v with
    | py d => exact r
    | _ => exact r.elim
  | fresh =>
    cases v with
    | py d =>
      obtain ⟨p, rfl, o, h0, n, z⟩ := r
      refine ⟨p, rfl, o, h0, n, fun j d' hj g => ?_⟩
      by_cases e : i = j
      · subst e
        rw [List.getElem?_set_self hl] at hj
        rw [List.getElem?_set_self hl2] at g
        cases hj
        cases g
        cases t1 with
        | pure => cases hs
        | mine => cases hs
        | fresh => exact ne rfl rfl rfl
      · rw [List.getElem?_set_ne e] at hj g
        exact z j d' hj g
    | _ => exact r.elim
def fPar (i j : Nat) (fa fb : FE) : FS := fun sl S => bindS (fa sl S) sl fun t1 v1 S1 => bindS (fb sl S1) sl fun t2 v2 S2 => match slotOf t1 v1, slotOf t2 v2 with
  | some s1, some s2 => if i < sl.length ∧ j < sl.length then some (.nx ((sl.set i s1).set j s2) S2) else none
  | _, _ => none
theorem denS_par (ct : Ct X k) (hi : X.N[i]? = some x) (hj : X.N[j]? = some y) (hij : i ≠ j) (hx : X.env.scope.names.lookup x = some .local) (hy : X.env.scope.names.lookup y = some .local) (ha : Den X a fa) (hb : Den X b fb)
    (h1 : starEach [a, b] X.env = (false, eval a X.env) :: starEach [b] X.env) (h2 : starEach [b] X.env = (false, eval b X.env) :: starEach [] X.env)
    (hw : swappedStores [.Tuple [.Name x px, .Name y py] kt pt] (.Tuple [a, b] k2 pt2) X.env = pure (some [x, y])) (hs : swapsWithSole [.Tuple [.Name x px, .Name y py] kt pt] (.Tuple [a, b] k2 pt2) pos.line X.env = pure false) :
    DenS1 X (.Assign [.Tuple [.Name x px, .Name y py] kt pt] (.Tuple [a, b] k2 pt2) pos) (fPar i j fa fb) := by
  refine .mk ?_; intro H0 φ0 φ σ H sl S r R hf D W tk post
  refine wS1.of (ps_par ct.calm ct.nd hi hj hij hx hy (pa_cons wE.pe (pa_cons wE.pe pa_nil h2) h1) hw hs) ?_
  refine den_thenS ha R tk hf post fun t1 v1 S1 u1 H1 φ1 hk R1 l1 rv1 fr1 => ?_
  refine den_thenS hb R1 tk hk (post.fz l1.fz) fun t2 v2 S2 u2 H2 φ2 hk2 R2 l2 rv2 fr2 => ?_
  split at hk2
  · rename_i s1 s2 e1 e2
    split at hk2
    · rename_i hl
      cases hk2
      have rv1' := rv1.le l2
      refine ⟨u1, u2, rfl, post _ H2 φ2 ((R2.put rv1' e1 i).put (rv2.putAt e1 rv1' (fun z2 z1 e => ?_) i hl.1 (by rw [R.len]; exact hl.1)) e2 j) (l1.fz.trans l2.fz)⟩
      subst z1 z2
      cases v2 with
      | py d2 =>
        obtain ⟨p2, e3, _⟩ := rv2
        have n2 := fr2 rfl p2 e3
        cases v1 with
        | py d1 =>
          obtain ⟨p1, e4, o1, _⟩ := rv1
          obtain ⟨o, eo, _⟩ := o1.mu
          rw [e3, e4] at e
          cases e
          rw [n2] at eo
          cases eo
        | _ => exact rv1.elim
      | _ => exact rv2.elim
    · cases hk2
  · cases hk2
/-- a o b o' c -/
def fChain (s1 s2 : PyData → PyData → Option (Tg × PyData)) (fa fb fc : FE) : FE := fun sl S => bindE (fa sl S) fun _ v1 S1 => bindE (fb sl S1) fun t2 v2 S2 =>
  match t2, cont S2 v1, cont S2 v2 with
  | .pure, some d1, some d2 => match s1 d1 d2 with
    | some (_, .bool true) => bindE (fc sl S2) fun _ v3 S3 => match cont S3 v2, cont S3 v3 with
      | some d2', some d3 => match s2 d2' d3 with
        | some (_, .bool e) => some (.val .pure (.py (.bool e)) S3)
        | _ => none
      | _, _ => none
    | some (_, .bool false) => some (.val .pure (.py (.bool false)) S2)
    | _ => none
  | _, _, _ => none
theorem RO.bl {K : PySem.W.Frag} {H H' : Hp} {t : Tg} {e : Bool} {u : V} (r : RO K H H' t (.bool e) u) : u = .bl e := by
  cases t with
  | pure => exact r
  | fresh => obtain ⟨_, _, o, _⟩ := r; exact o.elim
  | mine => exact r.elim
theorem chain_go {o1 o2 : Value → Value → Sem Value} {s1 s2 : PyData → PyData → Option (Tg × PyData)} (hop1 : BinSem X o1 s1) (hop2 : BinSem X o2 s2) (ha : Den X a fa) (hb : Den X b fb) (hc : Den X c fc)
    {H0 : Hp} {φ0 φ : List Addr} {σ : L2.St} {H : Hp} {sl : Sl} {S : SS} {r : ER} {Q : VK} {W : WX} (R : Rel X.K X.mg H0 φ0 φ σ H sl S) (tk : Takes X W) (hf : fChain s1 s2 fa fb fc sl S = some r) (post : Post X H0 φ0 φ σ H sl Q W r) :
    tChain (OpRun X o1) (OpRun X o2) (wE X a) (wE X b) (wE X c) σ H Q := by
  refine den_then ha R tk hf post fun t1 v1 S1 u1 H1 φ1 hk R1 l1 rv1 post1 => ?_
  refine den_then hb R1 tk hk post1 fun t2 v2 S2 u2 H2 φ2 hk2 R2 l2 rv2 post2 => ?_
  split at hk2
  · rename_i d1 d2 c1 c2
    split at hk2
    · rename_i tt e1
      refine hop1 d1 d2 u1 u2 H2 _ _ _ ((rv1.le l2).sh R2 c1) (rv2.sh R2 c2) e1 fun u H' ex ro => ?_
      have := ro.bl
      subst this
      refine ⟨true, rfl, ?_⟩
      have R3 := R2.ext ex
      rw [if_pos rfl]
      refine den_then hc R3 tk hk2 (Post.le ex.le R3 post2) fun t3 v3 S3 u3 H3 φ3 hk3 R4 l3 rv3 post3 => ?_
      split at hk3
      · rename_i d2' d3 c3 c4
        split at hk3
        · rename_i tt' e e2
          cases hk3
          have rv2' := (rv2.le ex.le).le l3
          exact hop2 d2' d3 u2 u3 H3 _ _ _ (rv2'.sh R4 c3) (rv3.sh R4 c4) e2 fun u' H'' ex' ro' => post3 u' H'' φ3 (R4.ext ex') ex'.le (by obtain rfl := ro'.bl; rfl) (fun z => nomatch z)
        · cases hk3
      · cases hk3
    · rename_i tt e1
      cases hk2
      refine hop1 d1 d2 u1 u2 H2 _ _ _ ((rv1.le l2).sh R2 c1) (rv2.sh R2 c2) e1 fun u H' ex ro => ?_
      have := ro.bl
      subst this
      refine ⟨false, rfl, ?_⟩
      rw [if_neg Bool.false_ne_true]
      exact post2 _ H' φ2 (R2.ext ex) ex.le rfl (fun z => nomatch z)
    · cases hk2
  · cases hk2
theorem den_chain {op op' : CmpOp} {s1 s2 : PyData → PyData → Option (Tg × PyData)} (hop1 : BinSem X (compareOp op) s1) (hop2 : BinSem X (compareOp op') s2) (ha : Den X a fa) (hb : Den X b fb) (hc : Den X c fc) (hm : lastMarks [op, op'] [b, c] = false) :
    Den X (.Compare a [op, op'] [b, c] pos) (fChain s1 s2 fa fb fc) := by
  refine .mk ?_; intro H0 φ0 φ σ H sl S r R hf Q W tk post
  exact wE.of (pe_chain OpRun.op OpRun.op wE.pe wE.pe wE.pe hm) (chain_go hop1 hop2 ha hb hc R tk hf post)
theorem denT_chain {op op' : CmpOp} {s1 s2 : PyData → PyData → Option (Tg × PyData)} (hop1 : BinSem X (compareOp op) s1) (hop2 : BinSem X (compareOp op') s2) (ha : Den X a fa) (hb : Den X b fb) (hc : Den X c fc) (hm : lastMarks [op, op'] [b, c] = false) :
    DenT X (.Compare a [op, op'] [b, c] pos) (fTb (fChain s1 s2 fa fb fc)) := by
  refine .mk ?_; intro H0 φ0 φ σ H sl S r R hf Q W tk post
  obtain ⟨r', h1, p⟩ := post_bool hf post
  exact wT.of (pt_chain OpRun.op OpRun.op wE.pe wE.pe wE.pe hm) (chain_go hop1 hop2 ha hb hc R tk h1 p)
end
end PP
set_option Elab.async false
set_option linter.all false
set_option maxRecDepth 100000
set_option maxHeartbeats 4000000
namespace PP
open PySem L2 PySem.Spec PyProof.Rows
/-! ## short forms for derivations that a program prints -/
section
variable {X : Cx} {x T : Str} {pos p p2 apos : Pos} {e f a : Expr} {es : List Expr} {fe ff : FE} {g : FA} {k n : Nat} {F : FF}
theorem den_gstr {s : Str} (hg : Gl X x) (h : ∃ t, X.mg x = some (.str s t)) (hd : (x == ("__debug__" : Str)) = false) : Den X (.Name x pos) (fC (.str s)) := by
  obtain ⟨t, h⟩ := h
  exact den_glob hg h (v := .str s) ⟨t, rfl⟩ (fun _ => rfl) hd
theorem den_gint {i : Int} (hg : Gl X x) (h : ∃ t, X.mg x = some (.int i t)) (hd : (x == ("__debug__" : Str)) = false) : Den X (.Name x pos) (fC (.int i)) := by
  obtain ⟨t, h⟩ := h
  exact den_glob hg h (v := .int i) ⟨t, rfl⟩ (fun _ => rfl) hd
abbrev TabAt (K : PySem.W.Frag) (w : World) (mg : Str → Option Value) (T : Str) (kvs : List (Str × PyData)) : Prop := ∃ p, mg T = some (.ref p) ∧ TabOk K w p kvs
theorem den_tIn {kvs : List (Str × PyData)} (hg : Gl X T) (h : TabAt X.K X.w X.mg T kvs) (he : Den X e fe) (hdb : (T == ("__debug__" : Str)) = false) (hmk : behindInMarks .In (.Name T p2) = false) : Den X (.Compare e [.In] [.Name T p2] pos) (fTabIn false kvs fe) :=
  let ⟨_, hm, tb⟩ := h; den_tabIn hg hm tb he hdb hmk
theorem denT_tIn {kvs : List (Str × PyData)} (hg : Gl X T) (h : TabAt X.K X.w X.mg T kvs) (he : Den X e fe) (hdb : (T == ("__debug__" : Str)) = false) (hmk : behindInMarks .In (.Name T p2) = false) : DenT X (.Compare e [.In] [.Name T p2] pos) (fTb (fTabIn false kvs fe)) :=
  let ⟨_, hm, tb⟩ := h; denT_tabIn hg hm tb he hdb hmk
def fTabNotIn (kvs : List (Str × PyData)) (f : FE) : FE := fTabIn true kvs f
theorem den_tNotIn {kvs : List (Str × PyData)} (hg : Gl X T) (h : TabAt X.K X.w X.mg T kvs) (he : Den X e fe) (hdb : (T == ("__debug__" : Str)) = false) (hmk : behindInMarks .NotIn (.Name T p2) = false) : Den X (.Compare e [.NotIn] [.Name T p2] pos) (fTabIn true kvs fe) :=
  let ⟨_, hm, tb⟩ := h; .mk fun H0 φ0 φ σ H sl S r R hf Q W tk post => wE.of (pe_cmpR OpRun.op wE.pe wE.pe hmk) (tabIn_go hg hm tb he hdb (fun es n kd => op_notInT kd) R tk hf post)
theorem denT_tNotIn {kvs : List (Str × PyData)} (hg : Gl X T) (h : TabAt X.K X.w X.mg T kvs) (he : Den X e fe) (hdb : (T == ("__debug__" : Str)) = false) (hmk : behindInMarks .NotIn (.Name T p2) = false) : DenT X (.Compare e [.NotIn] [.Name T p2] pos) (fTb (fTabIn true kvs fe)) :=
  let ⟨_, hm, tb⟩ := h; .mk fun H0 φ0 φ σ H sl S r R hf Q W tk post => by
    obtain ⟨r', h1, q⟩ := post_bool hf post
    exact wT.of (pt_cmpR OpRun.op wE.pe wE.pe hmk) (tabIn_go hg hm tb he hdb (fun es n kd => op_notInT kd) R tk h1 q)
theorem den_tIx {kvs : List (Str × PyData)} (hg : Gl X T) (h : TabAt X.K X.w X.mg T kvs) (he : Den X e fe) (hdb : (T == ("__debug__" : Str)) = false) (hs : PlainIx e) : Den X (.Subscript (.Name T p2) e pos) (fTabIx kvs fe) :=
  let ⟨_, hm, tb⟩ := h; den_tabIx hg hm tb he hdb hs
theorem den_tGet {kvs : List (Str × PyData)} (hg : Gl X T) (h : TabAt X.K X.w X.mg T kvs) (he : Den X e fe) (hff : Den X f ff) (hdb : (T == ("__debug__" : Str)) = false) (m : M2 X (.Name T p2) "get" apos e f pos) :
    Den X (.Call (.Attribute (.Name T p2) "get" apos) [e, f] [] pos) (fTabGet kvs fe ff) :=
  let ⟨_, hm, tb⟩ := h; den_tabGet hg hm tb he hff hdb m
/-- -e -/
def fNeg (f : FE) : FE := fun sl S => bindE (f sl S) fun _ v S1 => match v with
  | .py (.int i) => some (.val .pure (.py (.int (-i))) S1)
  | _ => none
theorem den_neg (he : Den X e fe) : Den X (.UnaryOp .USub e pos) (fNeg fe) := by
  refine .mk ?_; intro H0 φ0 φ σ H sl S r R hf Q W tk post
  refine wE.of (pe_un un_neg wE.pe) (den_then he R tk hf post fun t v S1 u H1 φ1 hk R1 l1 rv post1 => ?_)
  split at hk
  · rename_i i
    cases hk
    obtain rfl := rv.int
    exact ⟨i, rfl, post1 _ H1 φ1 R1 (Le.refl _ _) rfl (fun z => nomatch z)⟩
  · cases hk
/-- what is known of a def, at a level -/
def CK (P : Program) (w : World) (K : PySem.W.Frag) (mg : Str → Option Value) (base : Heap) (k : Nat) (f : Str) (n : Nat) (F : FF) : Prop :=
  ∃ (fa : Addr) (fd : FuncData) (ps : List Str), ps.length = n ∧ mg f = some (.ref fa) ∧ PySem.W.keepIn K (.ref fa) = true ∧ Binds K fd ps [] ∧ FnG P w K mg base k fa fd ps (spF K mg F ps.length)
theorem CK.ok (h : CK X.prog X.w X.K X.mg X.base k x n F) : CallOk X k x n F := ⟨h⟩
def CKK (P : Program) (w : World) (K : PySem.W.Frag) (mg : Str → Option Value) (base : Heap) (k : Nat) (f : Str) (ks : List Str) (perm : List Nat) (n : Nat) (F : FF) : Prop :=
  ∃ (fa : Addr) (fd : FuncData) (ps : List Str), ps.length = n ∧ mg f = some (.ref fa) ∧ PySem.W.keepIn K (.ref fa) = true ∧
    (∀ (s : Shared) (ws : List Value), ws.length = ks.length → (pick perm ws).length = n → BindsTo s fd ⟨[], ks.zip ws⟩ (ps.zip (pick perm ws))) ∧ FnG P w K mg base k fa fd ps (spF K mg F ps.length)
theorem CKK.ok {ks : List Str} {perm : List Nat} (h : CKK X.prog X.w X.K X.mg X.base k x ks perm n F) : CallKOk X k x ks perm n F := ⟨h⟩
/-- a context of the same def -/
theorem Ct.blk {scope : Scope} {s : Shared} {H : Hp} {C : Addr} {cl : List (Str × Addr)} {fp : List Addr} (c : Ct X k) : Ct (Bk X scope s H C cl fp) k := ⟨c.room, c.gd, c.calm, c.nd⟩
theorem Ct.tr {pn : List (Addr × Obj)} {xe : Value → Shared → Prop} (c : Ct X k) : Ct (X.tr pn xe) k := ⟨c.room, c.gd, c.calm, c.nd⟩
/-- what is known of the error classes -/
def ErrsOk (P : Program) (K : PySem.W.Frag) (mg : Str → Option Value) (R fI : Addr) (cs : List Str) : Prop :=
  ∀ c, cs.contains c = true → ∃ C, mg c = some (.ref C) ∧ ErrTxt P K C R fI ∧ ErrCls K C ∧ PySem.W.exmOne K (.ref C) (.ref R) = some true
theorem ErrsOk.at {R fI : Addr} {cs : List Str} {c : Str} (h : ErrsOk X.prog X.K X.mg R fI cs) (hc : cs.contains c = true) : ErrOk X R fI c := ⟨h c hc⟩
theorem den_fnE (hg : Gl X x) (h : ∃ a, X.mg x = some (.ref a)) (hd : (x == ("__debug__" : Str)) = false) : Den X (.Name x pos) (fFn x) :=
  let ⟨_, hm⟩ := h; den_fn hg hm hd
/-- isinstance(e, T), T an own error class, or a built-in one -/
abbrev IsiAt (K : PySem.W.Frag) (mg : Str → Option Value) (tab : List (Str × Bool)) (u : Value) : Prop :=
  (∀ c b, tab.lookup c = some b → ∃ C, mg c = some (.ref C) ∧ ErrCls K C ∧ PySem.W.kitOne K (.ref C) u = some b) ∧ PySem.W.kitOne K (.type "NoneType") u = some false
theorem den_isiG {q : Pos} {tab : List (Str × Bool)} (h : Den X e fe) (hi : Gl X "isinstance") (mi : X.mg "isinstance" = none) (hg : Gl X T) (hd : (T == ("__debug__" : Str)) = false) (hT : ∃ CT, X.mg T = some (.ref CT) ∧ IsiAt X.K X.mg tab (.ref CT))
    (h1 : starEach [e, .Name T q] X.env = (false, eval e X.env) :: starEach [.Name T q] X.env) (h2 : starEach [.Name T q] X.env = (false, eval (.Name T q) X.env) :: starEach [] X.env) (hpl : (backTo pos (starEach [.Name T q] X.env)).any (·.1) = false) :
    Den X (.Call (.Name "isinstance" p) [e, .Name T q] [] pos) (fIsiC tab fe) :=
  let ⟨CT, hm, t1, t2⟩ := hT; den_isiC h hi mi (pe_glob (v := .ref CT) hg hm rfl hd) (.own CT) t1 t2 h1 h2 hpl
theorem den_isiB {q : Pos} {tab : List (Str × Bool)} {n : String} (h : Den X e fe) (hi : Gl X "isinstance") (mi : X.mg "isinstance" = none) (hg : Gl X T) (hm : X.mg T = none) (hv : bootBuiltins T = some (.type n)) (hn : T ≠ "__name__") (hd : (T == ("__debug__" : Str)) = false) (hT : IsiAt X.K X.mg tab (.type n))
    (h1 : starEach [e, .Name T q] X.env = (false, eval e X.env) :: starEach [.Name T q] X.env) (h2 : starEach [.Name T q] X.env = (false, eval (.Name T q) X.env) :: starEach [] X.env) (hpl : (backTo pos (starEach [.Name T q] X.env)).any (·.1) = false) :
    Den X (.Call (.Name "isinstance" p) [e, .Name T q] [] pos) (fIsiC tab fe) :=
  den_isiC h hi mi (pe_bltn (v := .ty n) hg hm hv rfl hn hd) (.ty n) hT.1 hT.2 h1 h2 hpl
/-- (a, ..) = e -/
def fAsg (f : FE) (g : PyData → Sl → Option Sl) : FS := fun sl S => bindS (f sl S) sl fun t v S1 => match t, v with
  | .pure, .py d => match g d sl with
    | some sl' => some (.nx sl' S1)
    | none => none
  | _, _ => none
theorem denS_asg {tg : Expr} {is : List Nat} {gg : PyData → Sl → Option Sl} (h : Den X e fe) (hg : DenG X tg is gg) (hs : swapsWithSole [tg] e pos.line X.env = pure false) (hw : swappedStores [tg] e X.env = pure none)
    (h1 : (assignEach [tg] X.env).map (·.2) = [assign tg X.env]) : DenS1 X (.Assign [tg] e pos) (fAsg fe gg) := by
  refine .mk ?_; intro H0 φ0 φ σ H sl S r R hf D W tk post
  refine wS1.of (ps_asg wE.pe wG.pg hs hw h1) (den_thenS h R tk hf post fun t v S1 u H1 φ1 hk R1 l1 rv fr => ?_)
  split at hk
  · rename_i d
    split at hk
    · rename_i sl' e1
      cases hk
      exact hg H0 φ0 φ1 σ H1 sl sl' S1 d u R1 rv e1 _ fun σ' R' _ => post σ' H1 φ1 R' l1.fz
    · cases hk
  · cases hk
end
end PP
set_option Elab.async false
set_option linter.all false
set_option maxRecDepth 100000
set_option maxHeartbeats 4000000
namespace PP
open PySem L2 PySem.Spec PyProof.Rows
/-! ## written data -/
mutual
def litE : Nat → Expr → Option (Tg × PyData)
  | 0, _ => none
  | n + 1, e => match e with
    | .Constant c _ _ => match c with
      | .int i => some (.pure, .int i)
      | .bool b => some (.pure, .bool b)
      | .str s => some (.pure, .str s)
      | .none => some (.pure, .none)
      | _ => none
    | .UnaryOp op a _ => match op, litE n a with
      | .USub, some (.pure, .int i) => some (.pure, .int (-i))
      | _, _ => none
    | .Tuple es _ _ => match litEs n es with
      | some ds => if ds.length ≤ LIM then some (.pure, .tuple ds) else none
      | none => none
    | .List es _ => match litEs n es with
      | some ds => if ds.length ≤ LIM then some (.fresh, .list ds) else none
      | none => none
    | .Dict ks vs _ => match ks, vs with
      | [], [] => some (.fresh, .dict [])
      | _, _ => none
    | _ => none
def litEs : Nat → List Expr → Option (List PyData)
  | 0, _ => none
  | n + 1, es => match es with
    | [] => some []
    | e :: r => match litE n e, litEs n r with
      | some (_, d), some ds => some (d :: ds)
      | _, _ => none
end
def fLit (t : Tg) (d : PyData) : FE := fun _ S => some (.val t (.py d) S)
def faLit (ds : List PyData) : FA := fun _ S => some (.vals (ds.map fun d => (.pure, .py d)) S)
theorem pys_lit : ∀ ds : List PyData, pys (ds.map fun d => (Tg.pure, Vl.py d)) = some ds
  | [] => rfl
  | d :: ds => by
    show (match pys (ds.map fun d => (Tg.pure, Vl.py d)) with
      | some ds => some (d :: ds)
      | none => none) = some (d :: ds)
    rw [pys_lit ds]
theorem Den.same {X : Cx} {e : Expr} {f g : FE} (h : Den X e f) (q : ∀ sl S r, g sl S = some r → f sl S = some r) : Den X e g := .mk fun H0 φ0 φ σ H sl S r R hg => h H0 φ0 φ σ H sl S r R (q sl S r hg)
theorem DenA.same {X : Cx} {es : List Expr} {f g : FA} (h : DenA X es f) (q : ∀ sl S r, g sl S = some r → f sl S = some r) : DenA X es g := .mk fun H0 φ0 φ σ H sl S r R hg => h H0 φ0 φ σ H sl S r R (q sl S r hg)
theorem lit_star {n : Nat} {e : Expr} {es : List Expr} {env : Env} {t : Tg} {d : PyData} (h : litE n e = some (t, d)) : starEach (e :: es) env = (false, eval e env) :: starEach es env := by
  cases n with
  | zero => cases h
  | succ n => cases e <;> first | rfl | cases h
section
variable {X : Cx}
mutual
theorem den_lit : ∀ (n : Nat) {e : Expr} {t : Tg} {d : PyData}, litE n e = some (t, d) → Den X e (fLit t d)
  | 0, _, _, _, h => by cases h
  | n + 1, e, t, d, h => by
    unfold litE at h
    split at h
    · split at h
      · cases h; exact den_int
      · cases h; exact den_bl
      · cases h; exact den_str
      · cases h; exact den_non
      · cases h
    · split at h
      · rename_i a _ _ i e1
        cases h
        refine (den_neg (den_lit n e1)).same fun sl S r q => ?_
        exact q
      · cases h
    · split at h
      · rename_i ds e1
        split at h
        · rename_i hl
          cases h
          refine (den_tup (denA_lit n e1)).same fun sl S r q => ?_
          show (match pys (ds.map fun d => (Tg.pure, Vl.py d)) with
            | some ds => if ds.length ≤ LIM then some (.val .pure (.py (.tuple ds)) S) else none
            | none => none) = some r
          rw [pys_lit]
          dsimp only
          rw [if_pos hl]
          exact q
        · cases h
      · cases h
    · split at h
      · rename_i ds e1
        split at h
        · rename_i hl
          cases h
          refine (den_lst (denA_lit n e1)).same fun sl S r q => ?_
          show (match pys (ds.map fun d => (Tg.pure, Vl.py d)) with
            | some ds => if ds.length ≤ LIM then some (.val .fresh (.py (.list ds)) S) else none
            | none => none) = some r
          rw [pys_lit]
          dsimp only
          rw [if_pos hl]
          exact q
        · cases h
      · cases h
    · split at h
      · cases h
        exact den_dnew
      · cases h
    · cases h
theorem denA_lit : ∀ (n : Nat) {es : List Expr} {ds : List PyData}, litEs n es = some ds → DenA X es (faLit ds)
  | 0, _, _, h => by cases h
  | n + 1, es, ds, h => by
    unfold litEs at h
    split at h
    · cases h
      exact denA_nil
    · split at h
      · rename_i t d ds' e1 e2
        cases h
        refine (denA_cons (den_fz (den_lit n e1)) (denA_lit n e2) (lit_star e1)).same fun sl S r q => ?_
        cases t with
        | pure => exact q
        | fresh => exact q
        | mine =>
          exfalso
          clear q
          cases n with
          | zero => cases e1
          | succ m =>
            unfold litE at e1
            repeat (first | cases e1 | split at e1)
      · cases h
end
end
end PP
set_option Elab.async false
set_option linter.all false
set_option maxRecDepth 100000
set_option maxHeartbeats 4000000
namespace PP
open PySem L2 PySem.Spec PyProof.Rows He
/-! ## the head: what is known behind the top, read off by a hook -/
/-- the goal that the head leaves; what is known is told by a hook -/
theorem walk_ofGE {l : PySem.W.OpenLaw} {n k : Nat} {q : Program} {loose : List Str} {XP : (Str → Option Value) → Heap → Prop} {YP : World → Heap → Prop} {d : DefRec} {x : Str}
    (hn : l.most = some n) (hn2 : n ≤ sizeLine) (hdf : d.params.defaults = []) (hr : Room k callerA) (gd : callerA.guards = some [])
    (hF : ∀ (w : World) (mg : Str → Option Value) (fa : Addr) (h : Heap), YP w h → h.Ns mainGlobals mg → mg d.name = some (.ref fa) →
      ∃ (K : PySem.W.Frag) (fd : FuncData) (F : FF), K.In h ∧ (∀ (s : Shared) (u : Value), BindsTo s fd ⟨[u], []⟩ [(x, u)]) ∧ (∀ base : Heap, K.In base → base.Ns mainGlobals mg → FnG l.prog w K mg base k fa fd [x] (spF K mg F 1)) ∧
        ∀ ns : List Int, ns.length ≤ n → ∃ t S, F [.py (.list (ns.map PyData.int))] [] = some (.val t (.py (.bool true)) S)) :
    PySem.W.WalkO q loose XP YP l.row.toRowW d [] (fun f vs => PySem.call f vs) := by
  refine Att.attach_call hn hdf fun w s₀ s₁ mg mb fa o pm cd doc a vs ns G Y ho hd hcd hmg hobj hints hlen hg => ?_
  obtain ⟨K, fd, F, KX, hb, hG, hsp⟩ := hF w mg fa _ Y G.T.g hmg
  refine law_callG KX G.T.g G.T.b G.T.builtins G.T.nolimit hg hobj hints (Nat.le_trans hlen hn2) hr gd hG hb fun H fz => ?_
  obtain ⟨t, S, e⟩ := hsp ns hlen
  have rp : Rps K H (ns.map PyData.int) (ns.map V.int) := by
    clear fz hlen hints e
    induction ns with
    | nil => rfl
    | cons i ns ih => exact ⟨.int i, _, rfl, rfl, ih⟩
  refine ⟨[], [], [.py (.list (ns.map PyData.int))], _, rfl, ⟨.ref a, [], rfl, ⟨a, _, rfl, fz, rp⟩, rfl⟩, ⟨rfl, List.nodup_nil, fun k a d h => nomatch h⟩, e, fun u H' φ' l b rf => ?_⟩
  cases t with
  | pure => exact rf
  | fresh => obtain ⟨_, _, o, _⟩ := rf; exact o.elim
  | mine => obtain ⟨_, _, o, _⟩ := rf; exact o.elim
/-! ### a def -/
section
variable {P : Program} {w : World} {K : PySem.W.Frag} {mg : Str → Option Value} {base : Heap} {x qual : Str} {params : Arguments} {body : List Stmt} {scope : Scope} {f : Addr} {fd : FuncData} {N ps : List Str} {k : Nat} {fb : FS}
theorem fnG_D (F : FunD K x qual params body scope [] [] f fd) (S : FnScope N ps scope)
    (hbody : ∀ (cdv : Value) (A : Around) (outer : List Env) (s : Shared) (H : Hp) (E : XK), Room (k + 1) A → A.guards = some [] → DenS (BX P w K mg base N qual scope f cdv A outer s H E) body fb) :
    FnG P w K mg base (k + 1) f fd ps (spF K mg (funF N.length ps.length fb) ps.length) := by
  obtain ⟨oc, od, dV, kV, doc, pm, an, cdv, ct, osl, rfl, lk, hcd, hD, _⟩ := F.ex
  rcases hD with ⟨_, rfl⟩ | ⟨e, _⟩
  · exact fnG_of lk hcd S (hbody cdv)
  · exact absurd rfl e
theorem fnG_zero {sp : Sp} (h : ∀ vs H Q E, sp vs H Q E → False) : FnG P w K mg base 0 f fd ps sp := ⟨fun vs H Q E z => (h vs H Q E z).elim, fun A outer s H args us vs Q E _ _ _ _ _ z => (h vs H Q E z).elim⟩
theorem spF_none {n : Nat} (vs : List V) (H : Hp) (Q : VK) (E : XK) : spF K mg (fun _ _ => none) n vs H Q E → False := fun ⟨_, _, _, _, _, _, _, e, _⟩ => by cases e
theorem ck_of {F : FF} (D : FunD K x qual params body scope [] [] f fd) (hm : mg x = some (.ref f)) (hb : ∀ (kV doc pm : Value) (an : Option Addr) (cdv ct : Value) (us : List Value), us.length = ps.length → bindArgs (PySem.W.fnOf x qual params body scope .none kV doc pm an cdv ct) ⟨us, []⟩ = pure (ps.zip us))
    (G : FnG P w K mg base k f fd ps (spF K mg F ps.length)) : CK P w K mg base k x ps.length F := ⟨f, fd, ps, rfl, hm, D.kp, D.bindsN hb, G⟩
theorem ckk_of {F : FF} {ks : List Str} {perm : List Nat} (D : FunD K x qual params body scope [] [] f fd) (hm : mg x = some (.ref f))
    (hb : ∀ (kV doc pm : Value) (an : Option Addr) (cdv ct : Value) (us : List Value), us.length = ks.length → bindArgs (PySem.W.fnOf x qual params body scope .none kV doc pm an cdv ct) ⟨[], ks.zip us⟩ = pure (ps.zip (pick perm us)))
    (G : FnG P w K mg base k f fd ps (spF K mg F ps.length)) : CKK P w K mg base k x ks perm ps.length F := by
  have kp := D.kp
  obtain ⟨oc, od, dV, kV, doc, pm, an, cdv, ct, osl, rfl, lk, hcd, hD, _⟩ := D.ex
  rcases hD with ⟨_, rfl⟩ | ⟨e, _⟩
  · exact ⟨f, _, ps, rfl, hm, kp, fun s ws h _ => .of_eq (hb kV doc pm an cdv ct ws h), G⟩
  · exact absurd rfl e
end
/-! ### data that stand behind the top -/
mutual
def rpB (K : PySem.W.Frag) : PyData → Value → Bool
  | .none, .none => true
  | .bool b, .bool c => b == c
  | .int i, .int j _ => decide (i = j)
  | .str x, .str y _ => decide (x = y)
  | .tuple ds, .ref a => (match K.lookup a with
    | some ⟨.type c, _, .seq its _, _⟩ => decide (c = "tuple") && (decide (its.size ≤ sizeLine) && rpsB K ds its.toList)
    | _ => false)
  | .list ds, .ref a => (match K.lookup a with
    | some ⟨.type c, none, .seq its _, _⟩ => decide (c = "list") && (decide (its.size ≤ sizeLine) && rpsB K ds its.toList)
    | _ => false)
  | _, _ => false
def rpsB (K : PySem.W.Frag) : List PyData → List Value → Bool
  | [], [] => true
  | d :: ds, u :: us => rpB K d u && rpsB K ds us
  | _, _ => false
end
mutual
theorem rpB_ok {K : PySem.W.Frag} : ∀ {d : PyData} {u : Value}, rpB K d u = true → ∃ v, RelV v u ∧ ∀ H, Rp K H d v
  | .none, u, h => by
    cases u with
    | none => exact ⟨.non, rfl, fun _ => rfl⟩
    | _ => simp [rpB] at h
  | .bool b, u, h => by
    cases u with
    | bool c =>
      simp only [rpB, beq_iff_eq] at h
      subst h
      exact ⟨.bl b, rfl, fun _ => rfl⟩
    | _ => simp [rpB] at h
  | .int i, u, h => by
    cases u with
    | int j t =>
      simp only [rpB, decide_eq_true_eq] at h
      subst h
      exact ⟨.int i, ⟨t, rfl⟩, fun _ => rfl⟩
    | _ => simp [rpB] at h
  | .str x, u, h => by
    cases u with
    | str y t =>
      simp only [rpB, decide_eq_true_eq] at h
      subst h
      exact ⟨.str x, ⟨t, rfl⟩, fun _ => rfl⟩
    | _ => simp [rpB] at h
  | .dict kvs, u, h => by cases u <;> simp [rpB] at h
  | .tuple ds, u, h => by
    cases u with
    | ref a =>
      simp only [rpB] at h
      split at h
      · rename_i c dd its n sl lk
        obtain ⟨h1, h2⟩ := ba h
        obtain ⟨h3, h4⟩ := ba h2
        obtain ⟨vs, rv, rp⟩ := rpsB_ok h4
        exact ⟨.ref a, rfl, fun H => ⟨a, vs, rfl, .inr ⟨_, its, n, lk, congrArg Value.type (of_decide_eq_true h1), rfl, of_decide_eq_true h3, rv⟩, rp H⟩⟩
      · cases h
    | _ => simp [rpB] at h
  | .list ds, u, h => by
    cases u with
    | ref a =>
      simp only [rpB] at h
      split at h
      · rename_i c its n sl lk
        obtain ⟨h1, h2⟩ := ba h
        obtain ⟨h3, h4⟩ := ba h2
        obtain ⟨vs, rv, rp⟩ := rpsB_ok h4
        exact ⟨.ref a, rfl, fun H => ⟨a, vs, rfl, .inr ⟨_, its, n, lk, congrArg Value.type (of_decide_eq_true h1), rfl, rfl, of_decide_eq_true h3, rv⟩, rp H⟩⟩
      · cases h
    | _ => simp [rpB] at h
theorem rpsB_ok {K : PySem.W.Frag} : ∀ {ds : List PyData} {us : List Value}, rpsB K ds us = true → ∃ vs, Vals vs us ∧ ∀ H, Rps K H ds vs
  | [], us, h => by
    cases us with
    | nil => exact ⟨[], .nil, fun _ => rfl⟩
    | cons u us => simp [rpsB] at h
  | d :: ds, us, h => by
    cases us with
    | nil => simp [rpsB] at h
    | cons u us =>
      simp only [rpsB] at h
      obtain ⟨h1, h2⟩ := ba h
      obtain ⟨v, r1, p1⟩ := rpB_ok h1
      obtain ⟨vs, r2, p2⟩ := rpsB_ok h2
      exact ⟨v :: vs, .cons r1 r2, fun H => ⟨v, vs, rfl, p1 H, p2 H⟩⟩
end
def entB (K : PySem.W.Frag) : List DictEntry → List (Str × PyData) → Bool
  | [], [] => true
  | e :: es, (k, d) :: r => (match e.key with
    | .str x _ => decide (x = k)
    | _ => false) && (rpB K d e.val && entB K es r)
  | _, _ => false
def tabB (K : PySem.W.Frag) (x : Str) (kvs : List (Str × PyData)) : Bool := match K.lookup (ga K x) with
  | some ⟨_, _, .dict es _, _⟩ => entB K es.toList kvs
  | _ => false
theorem entB_ok {K : PySem.W.Frag} : ∀ {es : List DictEntry} {kvs : List (Str × PyData)}, entB K es kvs = true → (es.any (·.refKey)) = false ∧ ∀ z : Str,
    (es.find? (·.key.isStr z) = none ∧ kvs.lookup z = none) ∨ ∃ e d v, es.find? (·.key.isStr z) = some e ∧ kvs.lookup z = some d ∧ RelV v e.val ∧ ∀ H, Rp K H d v
  | [], [], _ => ⟨rfl, fun z => .inl ⟨rfl, rfl⟩⟩
  | [], _ :: _, h => by simp [entB] at h
  | _ :: _, [], h => by simp [entB] at h
  | e :: es, (k, d) :: r, h => by
    simp only [entB] at h
    obtain ⟨h1, h2⟩ := ba h
    obtain ⟨h3, h4⟩ := ba h2
    obtain ⟨ih1, ih2⟩ := entB_ok h4
    have hk : ∃ t, e.key = .str k t := by
      cases q : e.key with
      | str x t =>
        rw [q] at h1
        have : x = k := of_decide_eq_true h1
        exact ⟨t, by rw [this]⟩
      | _ => rw [q] at h1; cases h1
    obtain ⟨t, hk⟩ := hk
    refine ⟨?_, fun z => ?_⟩
    · rw [List.any_cons, ih1, Bool.or_false]
      unfold DictEntry.refKey
      rw [hk]
    · have e1 : e.key.isStr z = (z == k) := by
        rw [hk]
        by_cases hz : z = k
        · subst hz
          simp [Value.isStr]
        · have h1 : (z == k) = false := beq_false_of_ne hz
          have h2 : (k == z) = false := beq_false_of_ne (Ne.symm hz)
          rw [h1]
          simp [Value.isStr, h2, hz, Ne.symm hz]
      rw [List.find?_cons, List.lookup_cons, e1]
      cases q : (z == k) with
      | true =>
        obtain ⟨v, rv, rp⟩ := rpB_ok h3
        exact .inr ⟨e, d, v, rfl, rfl, rv, rp⟩
      | false => exact ih2 z
theorem tabB_ok {K : PySem.W.Frag} {w : World} {mg : Str → Option Value} {x : Str} {kvs : List (Str × PyData)} (hm : mg x = some (.ref (ga K x))) (kd : ∃ es n, KDict K w (ga K x) es n) (h : tabB K x kvs = true) : TabAt K w mg x kvs := by
  refine ⟨ga K x, hm, kd, fun z => ?_⟩
  obtain ⟨es, n, kd⟩ := kd
  have lk := kd.at_
  unfold tabB at h
  rw [lk] at h
  obtain ⟨h1, h2⟩ := entB_ok h
  unfold PySem.W.nsIn
  rw [lk]
  dsimp only
  rcases h2 z with ⟨a, b⟩ | ⟨e, d, v, a, b, rv, rp⟩
  · rw [a]
    dsimp only
    rw [h1]
    exact ⟨none, rfl, .inl ⟨b, rfl⟩⟩
  · rw [a]
    exact ⟨some e.val, rfl, .inr ⟨d, e.val, v, b, rfl, rv, rp⟩⟩
/-! ### the house's own errors -/
def clsB1 (C : Addr) : List Value → List (Option Value) → Bool
  | .ref C' :: bm, [_, _, _, _, some (.builtin n), _] => decide (C' = C) && (decide (n = "ValueError.__new__") && HandSPX.refsVE bm)
  | _, _ => false
theorem clsB1_ok {C : Addr} {mro : List Value} {sl : List (Option Value)} (h : clsB1 C mro sl = true) : ∃ bm k0 k1 k2 k3 k5, mro = .ref C :: bm ∧ sl = [k0, k1, k2, k3, some (.builtin "ValueError.__new__"), k5] ∧ HandSPX.refsVE bm = true := by
  unfold clsB1 at h
  split at h
  · rename_i C' bm k0 k1 k2 k3 n k5
    have h1 := (ba h).1
    have h2 := (ba (ba h).2).1
    have h3 := (ba (ba h).2).2
    have h1 := of_decide_eq_true h1
    have h2 := of_decide_eq_true h2
    subst h1 h2
    exact ⟨bm, k0, k1, k2, k3, k5, rfl, rfl, h3⟩
  · cases h
def clsB (K : PySem.W.Frag) (C : Addr) : Bool := match K.lookup C with
  | some ⟨.type t, _, .cls cd, sl⟩ => decide (t = "type") && (clsB1 C cd.mro sl.toList && (!cd.hasDel && cd.hasDict))
  | _ => false
theorem clsB_ok {K : PySem.W.Frag} {C : Addr} (h : clsB K C = true) : ∃ nm q N bs bm sn sub ab col dd k0 k1 k2 k3 k5, K.lookup C = some (excClassObj nm q C N bs bm true sn sub ab col dd k0 k1 k2 k3 k5 "ValueError.__new__") ∧ HandSPX.refsVE bm = true := by
  unfold clsB at h
  cases lk : K.lookup C with
  | none => rw [lk] at h; cases h
  | some o =>
    rw [lk] at h
    obtain ⟨oc, dd, dt, sl⟩ := o
    cases oc with
    | type t =>
      cases dt with
      | cls cd =>
        have h' : (decide (t = "type") && (clsB1 C cd.mro sl.toList && (!cd.hasDel && cd.hasDict))) = true := h
        clear h
        have ht := of_decide_eq_true (ba h').1
        obtain ⟨bm, k0, k1, k2, k3, k5, hm, hs, hv⟩ := clsB1_ok (ba (ba h').2).1
        have h3 := (ba (ba (ba h').2).2).1
        have h4 := (ba (ba (ba h').2).2).2
        clear h'
        subst ht
        obtain ⟨nm, bs, mro, ns, qn, hd, sn, sub, ab, col, del⟩ := cd
        dsimp only at hm h3 h4
        have h3 : del = false := by cases del <;> first | rfl | cases h3
        subst hm h3 h4
        have hsl : sl = #[k0, k1, k2, k3, some (.builtin "ValueError.__new__"), k5] := by
          obtain ⟨l⟩ := sl
          simp only at hs
          rw [hs]
        subst hsl
        exact ⟨nm, qn, ns, bs, bm, sn, sub, ab, col, dd, k0, k1, k2, k3, k5, rfl, hv⟩
      | _ => cases h
    | _ => cases dt <;> cases h
abbrev IniW : Type := Option (Str × Str × Arguments × FuncBody × Scope × Addr × List Str × Addr)
def iniW (K : PySem.W.Frag) (fI : Addr) : IniW := match K.lookup fI with
  | some ⟨_, _, .func fd, _⟩ => some (fd.name, fd.qualname, fd.params, fd.body, fd.scope, fd.globals, fd.closure.map (·.1), fd.builtins)
  | _ => none
def iniV (params : Arguments) (body : List Stmt) (scope : Scope) : IniW := some ("__init__", "ReasonError.__init__", params, .stmts body, scope, mainGlobals, ["__class__"], builtinsNs)
def codeB (P : Program) (K : PySem.W.Frag) : Value → Bool
  | .ref cda => PySem.W.codeIn K (.ref cda) "ReasonError.__init__" && (match K.lookup cda with
    | some ⟨_, _, .fields vs, _⟩ => (match (vs[2]? : Option Value) with
      | some (.str file _) => ((P.main.file : Str) == file)
      | _ => false)
    | _ => false)
  | _ => false
def cloB (K : PySem.W.Frag) (D : Addr) : List (Str × Addr) → Bool
  | [(_, cc)] => (match K.lookup cc with
    | some ⟨_, _, .cell (some (.ref D')), _⟩ => decide (D' = D)
    | _ => false)
  | _ => false
def fnB (P : Program) (K : PySem.W.Frag) (fI D : Addr) : Bool := match K.lookup fI with
  | some ⟨_, _, .func fd, _⟩ => decide (fd.defaults = .none) && (decide (fd.kwdefaults = .none) && (codeB P K fd.code && cloB K D fd.closure))
  | _ => false
structure IniOk (P : Program) (params : Arguments) (body : List Stmt) (scope : Scope) : Prop where
  txt : ∃ q1 q2 p1 p2 p3 p4 p5 p6 p7 p8 p9 p10 p11, params = iniArgs q1 q2 ∧ body = iniBody p1 p2 p3 p4 p5 p6 p7 p8 p9 p10 p11 ∧ ∃ pl : Sem Bool, ∀ env : Env, eval (iniCall p1 p2 p3 p4 p5) env = (do
        let ov ← attributeBase (.Call (.Name "super" p1) [] [] p2) "__init__" env (eval (.Call (.Name "super" p1) [] [] p2) env)
        standAt p3.atName
        let (f, first) ← holding [ov] (getMethod ov "__init__" pl)
        callWith p5 f first (backTo p5 (starEach [.Name "value" p4] env)) [])
  kind : scope.kind = .function
  co : scope.isCoroutine = false
  gen : scope.isGenerator = false
  su : scope.names.lookup ("super" : Str) = some .globalImplicit
  cl : scope.names.lookup ("__class__" : Str) = some .free
  se : scope.names.lookup ("self" : Str) = some .local
  va : scope.names.lookup ("value" : Str) = some .local
  nc : ∀ y ∈ scope.names, y.2 ≠ .cell
  top : (P.main.scope.names.lookup ("super" : Str)).isSome = false
def errB (P : Program) (K : PySem.W.Frag) (D fI C : Addr) : Bool :=
  clsB K C && (eqO (PySem.W.findIn K (.ref C) "__setattr__") (some (some (.builtin "object.__setattr__"))) && (eqO (PySem.W.findIn K (.ref C) "__getattribute__") (some (some (.builtin "BaseException.__getattribute__"))) &&
  (eqO (PySem.W.findIn K (.ref C) "__getattr__") (some none) && (eqO (PySem.W.findIn K (.ref C) "value") (some none) && (eqO (PySem.W.findIn K (.ref C) "__init__") (some (some (.ref fI))) && (decide (PySem.W.typeIn K (.ref fI) = some (.type "function")) &&
  (PySem.W.keepIn K (.ref C) && (decide (PySem.W.subIn K (.ref C) (.type "BaseException") = some true) && (decide (PySem.W.subIn K (.ref C) (.type "ValueError") = some true) && (decide (PySem.W.typeIn K (.ref C) = some (.type "type")) && (PySem.W.hasDictIn K C &&
  (PySem.W.excInitIn K C veBase "ValueError.__new__" && (eqO (PySem.W.ks_superIn K C D "__init__") (some (some (.builtin "ValueError.__init__"))) && (decide (PySem.W.mroIn K C (.ref D) = some true) && ((PySem.W.clsIn K D).isSome && (eqO (PySem.W.nsIn K cStatics "thirdparty.any") (some none) &&
  (eqO (PySem.W.nsIn K mainGlobals "super") (some none) && fnB P K fI D)))))))))))))))))
theorem errB_ok {P : Program} {K : PySem.W.Frag} {D fI C : Addr} {params : Arguments} {body : List Stmt} {scope : Scope} (I : IniOk P params body scope) (hw : iniW K fI = iniV params body scope) (h : errB P K D fI C = true) : ErrTxt P K C D fI := by
  unfold errB at h
  obtain ⟨c1, h⟩ := ba h
  obtain ⟨c2, h⟩ := ba h
  obtain ⟨c3, h⟩ := ba h
  obtain ⟨c4, h⟩ := ba h
  obtain ⟨c5, h⟩ := ba h
  obtain ⟨c6, h⟩ := ba h
  obtain ⟨c7, h⟩ := ba h
  obtain ⟨c8, h⟩ := ba h
  obtain ⟨c9, h⟩ := ba h
  obtain ⟨c10, h⟩ := ba h
  obtain ⟨c11, h⟩ := ba h
  obtain ⟨c12, h⟩ := ba h
  obtain ⟨c13, h⟩ := ba h
  obtain ⟨c14, h⟩ := ba h
  obtain ⟨c15, h⟩ := ba h
  obtain ⟨c16, h⟩ := ba h
  obtain ⟨c17, h⟩ := ba h
  obtain ⟨c18, c19⟩ := ba h
  refine ⟨clsB_ok c1, eqO_ok c2, eqO_ok c3, eqO_ok c4, eqO_ok c5, eqO_ok c6, of_decide_eq_true c7, c8, of_decide_eq_true c9, of_decide_eq_true c10, of_decide_eq_true c11, c12, c13, eqO_ok c14, of_decide_eq_true c15, c16, eqO_ok c17, eqO_ok c18, I.top, ?_⟩
  obtain ⟨q1, q2, p1, p2, p3, p4, p5, p6, p7, p8, p9, p10, p11, e1, e2, pl, hpl⟩ := I.txt
  subst e1 e2
  unfold fnB at c19
  unfold iniW iniV at hw
  split at c19
  · rename_i oc od fd osl lk
    rw [lk] at hw
    obtain ⟨n1, n2, n3, n4, n5, n6, n7, n8, n9, n10, n11, n12, n13, n14, n15⟩ := fd
    dsimp only at hw c19
    simp only [Option.some.injEq, Prod.mk.injEq] at hw
    obtain ⟨h1, h2, h3, h4, h5, h6, h7, h8⟩ := hw
    obtain ⟨d1, d⟩ := ba c19
    obtain ⟨d2, d⟩ := ba d
    obtain ⟨d3, d4⟩ := ba d
    have g1 : n8 = .none := of_decide_eq_true d1
    have g2 : n9 = .none := of_decide_eq_true d2
    subst h1 h2 h3 h4 h5 h6 h8 g1 g2
    cases n7 with
    | nil => cases d4
    | cons y r =>
      cases r with
      | cons _ _ => cases d4
      | nil =>
        obtain ⟨yn, cc⟩ := y
        simp only [List.map_cons, List.map_nil, List.cons.injEq, and_true] at h7
        subst h7
        clear d c19
        cases n13 with
        | ref cda =>
          obtain ⟨k1, k2⟩ := ba (show (PySem.W.codeIn K (.ref cda) "ReasonError.__init__" && (match K.lookup cda with
            | some ⟨_, _, .fields vs, _⟩ => (match (vs[2]? : Option Value) with
              | some (.str file _) => ((P.main.file : Str) == file)
              | _ => false)
            | _ => false)) = true from d3)
          split at k2
          · rename_i o1 dd1 vs sl1 lk1
            split at k2
            · rename_i file tf hv
              have d5 : (match K.lookup cc with
                | some ⟨_, _, .cell (some (.ref D')), _⟩ => decide (D' = D)
                | _ => false) = true := d4
              split at d5
              · rename_i o2 dd2 D' sl2 lk2
                have g4 : D' = D := of_decide_eq_true d5
                subst g4
                exact ⟨oc, _, _, _, od, _, osl, cda, cc, q1, q2, p1, p2, p3, p4, p5, p6, p7, p8, p9, p10, p11, _, vs, file, tf, o1, o2, dd1, dd2, sl1, sl2, lk, k1, lk1, hv, k2, lk2, I.kind, I.co, I.gen, I.su, I.cl, I.se, I.va, I.nc, pl, hpl⟩
              · cases d5
            · cases k2
          · cases k2
        | _ => cases d3
  · cases c19
def errClsB (K : PySem.W.Frag) (D : Addr) : Bool :=
  eqO (PySem.W.findIn K (.ref D) "__getattribute__") (some (some (.builtin "BaseException.__getattribute__"))) && (eqO (PySem.W.findIn K (.ref D) "__getattr__") (some none) && (decide (PySem.W.subIn K (.ref D) (.type "BaseException") = some true) && (PySem.W.hasDictIn K D &&
  (eqO (PySem.W.findIn K (.ref D) "__class__") (some (some (.builtin "object.__class__"))) && (eqO (PySem.W.specialIn K (.builtin "object.__class__") "__get__") (some (some (.builtin "getset_descriptor.__get__"))) && (decide (PySem.W.takesIn K (.builtin "object.__class__") = some true) && decide (PySem.W.mroIn K D (.type "object") = some true)))))))
theorem errClsB_ok {K : PySem.W.Frag} {D : Addr} (h : errClsB K D = true) : ErrCls K D := by
  unfold errClsB at h
  obtain ⟨c1, h⟩ := ba h
  obtain ⟨c2, h⟩ := ba h
  obtain ⟨c3, h⟩ := ba h
  obtain ⟨c4, h⟩ := ba h
  obtain ⟨c5, h⟩ := ba h
  obtain ⟨c6, h⟩ := ba h
  obtain ⟨c7, c8⟩ := ba h
  exact ⟨eqO_ok c1, eqO_ok c2, of_decide_eq_true c3, c4, eqO_ok c5, eqO_ok c6, of_decide_eq_true c7, of_decide_eq_true c8⟩
/-- one error class of the law's -/
def oneErrB (P : Program) (K : PySem.W.Frag) (D fI : Addr) (c : Str) : Bool := eqO (PySem.W.nsIn K mainGlobals c) (some (some (.ref (ga K c)))) && (errB P K D fI (ga K c) && (errClsB K (ga K c) && decide (PySem.W.exmOne K (.ref (ga K c)) (.ref D) = some true)))
def errsB (P : Program) (K : PySem.W.Frag) (cs : List Str) : Bool := cs.all fun c => oneErrB P K (ga K "ReasonError") (ma K (ga K "ReasonError") "__init__") c
theorem errsB_ok {P : Program} {K : PySem.W.Frag} {h : Heap} {mg : Str → Option Value} {cs : List Str} {params : Arguments} {body : List Stmt} {scope : Scope} (X : K.In h) (G : h.Ns mainGlobals mg) (I : IniOk P params body scope) (hw : iniW K (ma K (ga K "ReasonError") "__init__") = iniV params body scope) (q : errsB P K cs = true) :
    ErrsOk P K mg (ga K "ReasonError") (ma K (ga K "ReasonError") "__init__") cs := fun c hc => by
  have q1 := List.all_eq_true.mp q c (List.contains_iff_mem.mp hc)
  obtain ⟨c1, q2⟩ := ba q1
  obtain ⟨c2, q3⟩ := ba q2
  obtain ⟨c3, c4⟩ := ba q3
  exact ⟨ga K c, PySem.W.mg_of X G (eqO_ok c1), errB_ok I hw c2, errClsB_ok c3, of_decide_eq_true c4⟩
/-- isinstance against the class x (none: a built-in one of that name) -/
def isiB (K : PySem.W.Frag) (tab : List (Str × Bool)) (u : Value) : Bool := (tab.all fun q => eqO (PySem.W.nsIn K mainGlobals q.1) (some (some (.ref (ga K q.1)))) && (errClsB K (ga K q.1) && decide (PySem.W.kitOne K (.ref (ga K q.1)) u = some q.2))) && decide (PySem.W.kitOne K (.type "NoneType") u = some false)
theorem lookup_in {α : Type} {tab : List (Str × α)} {c : Str} {b : α} (h : tab.lookup c = some b) : (c, b) ∈ tab := by
  induction tab with
  | nil => cases h
  | cons y r ih =>
    obtain ⟨k, v⟩ := y
    rw [List.lookup_cons] at h
    cases e : (c == k) with
    | true =>
      rw [e] at h
      cases h
      rw [eq_of_beq e]
      exact List.mem_cons_self
    | false =>
      rw [e] at h
      exact List.mem_cons_of_mem _ (ih h)
theorem isiB_ok {K : PySem.W.Frag} {h : Heap} {mg : Str → Option Value} {tab : List (Str × Bool)} {u : Value} (X : K.In h) (G : h.Ns mainGlobals mg) (q : isiB K tab u = true) : IsiAt K mg tab u := by
  obtain ⟨q1, q2⟩ := ba q
  refine ⟨fun c b hb => ?_, of_decide_eq_true q2⟩
  have q3 := List.all_eq_true.mp q1 (c, b) (lookup_in hb)
  obtain ⟨c1, q4⟩ := ba q3
  obtain ⟨c2, c3⟩ := ba q4
  exact ⟨ga K c, PySem.W.mg_of X G (eqO_ok c1), errClsB_ok c2, of_decide_eq_true c3⟩
/-! ### the hook -/
abbrev AlP : Type := AlT × (Bool × IniW)
def obsP (P : Program) (fa : List Fa) (fn : List DefD) (ts : List Tab) (ex : PySem.W.Frag → Bool) (K : PySem.W.Frag) : AlP := (obsT fa fn ts K, (ex K, iniW K (ma K (ga K "ReasonError") "__init__")))
def valP (fn : List DefD) (ts : List Tab) (iv : IniW) (w : World) : AlP := (valT fn ts w, (true, iv))
def obsPG (P : Program) (n : Nat) (fa : List Fa) (fn : List DefD) (ts : List Tab) (ex : PySem.W.Frag → Bool) (g : Addr → Option Obj) : AlP := obsP P fa fn ts ex (frG g (cStatics :: asD g n))
structure SaysP (P : Program) (fa : List Fa) (fn : List DefD) (ts : List Tab) (ex : PySem.W.Frag → Bool) (iv : IniW) (w : World) (K : PySem.W.Frag) : Prop where
  t : SaysT fa fn ts w K
  more : ex K = true
  ini : iniW K (ma K (ga K "ReasonError") "__init__") = iv
theorem saysP_of {P : Program} {fa : List Fa} {fn : List DefD} {ts : List Tab} {ex : PySem.W.Frag → Bool} {iv : IniW} {w : World} {K : PySem.W.Frag} (e : obsP P fa fn ts ex K = valP fn ts iv w) : SaysP P fa fn ts ex iv w K :=
  ⟨congrArg (fun z : AlP => z.1) e, congrArg (fun z : AlP => z.2.1) e, congrArg (fun z : AlP => z.2.2) e⟩
def hookP (P : Program) (n : Nat) (fa : List Fa) (fn : List DefD) (ts : List Tab) (ex : PySem.W.Frag → Bool) (iv : IniW) : PySem.W.Hook where
  α := AlP
  obs := fun s => obsPG P n fa fn ts ex s.heap.get?
  val := fun w => valP fn ts iv w
  says := fun w h => ∃ K : PySem.W.Frag, K.In h ∧ SaysP P fa fn ts ex iv w K
  of := fun _ _ e => ⟨_, frG_in, saysP_of e⟩
  keeps := fun _ _ _ ⟨K, hK, c⟩ k => ⟨K, PySem.W.Frag.In.keeps hK k, c⟩
theorem obsPG_eq {P : Program} {n : Nat} {fa : List Fa} {fn : List DefD} {ts : List Tab} {ex : PySem.W.Frag → Bool} {iv : IniW} {g : Addr → Option Obj} {s : Shared} (h : ∀ a, g a = s.heap.get? a) : obsPG P n fa fn ts ex g = (hookP P n fa fn ts ex iv).obs s := by
  have e : g = s.heap.get? := funext h
  rw [e] <;> rfl
end PP
set_option Elab.async false
set_option linter.all false
set_option maxRecDepth 100000
set_option maxHeartbeats 4000000
namespace PP
open PySem L2 PySem.Spec PyProof.Rows
section
variable {X : Cx} {a b e : Expr} {fa fb f : FE} {pos : Pos} {k : Nat}
/-! ### i // j, j of any sign -/
def fdivZP : PyData → PyData → Option (Tg × PyData)
  | .int i, .int j => if j ≠ 0 ∧ j.natAbs.log2 < 9000 then some (.pure, .int (i.fdiv j)) else none
  | _, _ => none
theorem op_fdivZ : OpR X (binaryOp .FloorDiv) (rI (fun _ j => j ≠ 0 ∧ j.natAbs.log2 < 9000) fun i j => .int (i.fdiv j)) := opI fun i j _ _ _ _ _ hc q =>
  floordiv_int hc.1 q (.inl (PyProof.noPylong_of_log2 hc.2))
theorem sem_fdivZ : BinSem X (binaryOp .FloorDiv) fdivZP := sem_int op_fdivZ fun a b t d h => by
  unfold fdivZP at h
  split at h
  · split at h
    · rename_i hc
      cases h
      exact ⟨_, _, rfl, rfl, hc, rfl, fun _ => rfl⟩
    · cases h
  · cases h
/-! ### text * int -/
def repS (x : Str) (n : Nat) : Str := ⟨(List.replicate n x.cps).foldl (· ++ ·) #[]⟩
def mulSP : PyData → PyData → Option (Tg × PyData)
  | .str x, .int n => if 1 < n ∧ n ≤ 1000 ∧ x.length ≤ 100 ∧ 0 < x.length then some (.pure, .str (repS x n.toNat)) else none
  | _, _ => none
theorem repS_len (x : Str) : ∀ n : Nat, (repS x n).length = n * x.length := by
  intro n
  have h : ∀ (n : Nat) (acc : Array Nat), ((List.replicate n x.cps).foldl (· ++ ·) acc).size = acc.size + n * x.cps.size := by
    intro n
    induction n with
    | zero => intro acc; simp
    | succ n ih =>
      intro acc
      rw [List.replicate_succ, List.foldl_cons, ih, Array.size_append, Nat.succ_mul]
      omega
  have q := h n #[]
  simpa [repS, Str.length] using q
theorem sem_mulS : BinSem X (binaryOp .Mult) mulSP := by
  intro dx dy x y H t d Q sx sy hs q
  unfold mulSP at hs
  split at hs
  · rename_i z n
    split at hs
    · rename_i hc
      cases hs
      obtain ⟨c1, c2, c3, c4⟩ := hc
      obtain rfl : x = .str z := sx
      obtain rfl : y = .int n := sy
      intro pins s σ v u I rx ry
      obtain ⟨t1, rfl⟩ := rx
      obtain ⟨t2, rfl⟩ := ry
      have e0 : ((n == 1) || (z.length == 0)) = false := by
        rw [Bool.or_eq_false_iff]
        exact ⟨beq_eq_false_iff_ne.mpr (by omega), beq_eq_false_iff_ne.mpr (by omega)⟩
      have hsz : (repS z n.toNat).length ≤ sizeLine := by
        rw [repS_len]
        have h1 : n.toNat ≤ 1000 := by omega
        have := Nat.mul_le_mul h1 c3
        exact Nat.le_trans this (by decide)
      have hmul : (n.toNat * z.length : Nat) ≤ 100000 := Nat.le_trans (Nat.mul_le_mul (show n.toNat ≤ 1000 by omega) c3) (by decide)
      refine P.mul_str (by
          have h1 : ¬ n < -(2 ^ 63) := by omega
          have h2 : ¬ n ≥ 2 ^ 63 := by omega
          rw [decide_eq_false h1, decide_eq_false h2]; rfl) (fun _ _ => ?_) (fun _ _ => ?_) ?_
      · have h1 : (100 : Int) ≤ (2 ^ 63 - 1) / n := by
          refine (Int.le_ediv_iff_mul_le (by omega)).mpr ?_
          have : (100 : Int) * n ≤ 100 * 1000 := by omega
          omega
        omega
      · have := hmul
        have e : z.length * n.toNat ≤ 100000 := by rw [Nat.mul_comm]; exact this
        unfold Builtin.Str.tooLong
        exact decide_eq_false (by have : (100000 : Nat) ≤ 16777216 := by decide
                                  have := sizeLine_eq
                                  omega)
      · rw [if_neg (by omega), if_neg (by rw [e0]; exact Bool.false_ne_true)]
        exact ⟨hsz, .str _, H, I.tok _, ⟨_, rfl⟩, q _ H (Ext.refl H) rfl⟩
    · cases hs
  · cases hs
/-! ### [..] * int, the list new -/
def fRep (fa fb : FE) : FE := fun sl S => bindE (fa sl S) fun t v S1 => bindE (fb sl S1) fun _ v2 S2 => match t, v, v2 with
  | .fresh, .py (.list xs), .py (.int n) => if n ≤ 10000 ∧ -10000 ≤ n ∧ xs.length ≤ 9 then some (.val .fresh (.py (.list (List.replicate n.toNat xs).flatten)) S2) else none
  | _, _, _ => none
theorem rps_rep {K : PySem.W.Frag} {H : Hp} {ds : List PyData} {vs : List V} (r : Rps K H ds vs) : ∀ n : Nat, Rps K H (List.replicate n ds).flatten (List.replicate n vs).flatten
  | 0 => rfl
  | n + 1 => by
    rw [List.replicate_succ, List.replicate_succ, List.flatten_cons, List.flatten_cons]
    exact r.app (rps_rep r n)
theorem den_rep (ha : Den X a fa) (hb : Den X b fb) : Den X (.BinOp a .Mult b pos) (fRep fa fb) := by
  refine .mk ?_; intro H0 φ0 φ σ H sl S r R hf Q W tk post
  refine wE.of (pe_op op_rep wE.pe wE.pe) ?_
  refine den_then ha R tk hf post fun t1 v1 S1 u1 H1 φ1 hk R1 l1 rv1 post1 => ?_
  refine den_then hb R1 tk hk post1 fun t2 v2 S2 u2 H2 φ2 hk2 R2 l2 rv2 post2 => ?_
  split at hk2
  · rename_i xs n
    split at hk2
    · rename_i hc
      cases hk2
      obtain ⟨p, rfl, o, _⟩ := rv1.le l2
      obtain ⟨vs, hp, rs⟩ := o
      obtain rfl := rv2.int
      refine ⟨p, n, vs, rfl, rfl, hp, by omega, by omega, ?_, fun p' hn => ?_⟩
      · rw [rs.len]
        refine Nat.le_trans (Nat.mul_le_mul hc.2.2 (show n.toNat ≤ 10000 by omega)) (by decide)
      · have ex : Ext H2 (upd H2 p' (.lst (List.replicate n.toNat vs).flatten)) := Ext.new hn
        have ro : RO X.K H2 (upd H2 p' (.lst (List.replicate n.toNat vs).flatten)) .fresh (.list (List.replicate n.toNat xs).flatten) (.ref p') := ⟨p', rfl, ⟨_, upd_same, (rps_rep rs _).mono ex.fz⟩, hn⟩
        exact post2 _ _ φ2 (R2.ext ex) ex.le (ro.rv R2) ro.new
    · cases hk2
  · cases hk2
/-! ### is True, is False -/
def isBl (b : Bool) : Vl → Bool
  | .py (.bool c) => c == b
  | _ => false
def fIsB (neg b : Bool) (f : FE) : FE := fun sl S => bindE (f sl S) fun _ v S1 => some (.val .pure (.py (.bool (neg ^^ isBl b v))) S1)
theorem RV.isBl {K : PySem.W.Frag} {mg : Str → Option Value} {H0 H : Hp} {φ : List Addr} {σ : L2.St} {sl : Sl} {t : Tg} {v : Vl} {u : V} {b : Bool} (r : RV K mg H0 H φ σ sl t v u) : decide (u = .bl b) = PP.isBl b v := by
  have ref : ∀ {p : Addr}, decide (V.ref p = V.bl b) = false := fun {p} => decide_eq_false (fun z => nomatch z)
  cases t with
  | fresh =>
    cases v with
    | py d =>
      obtain ⟨p, rfl, o, _⟩ := r
      rw [ref]
      cases d <;> first | rfl | exact o.elim
    | _ => exact r.elim
  | mine =>
    cases v with
    | py d =>
      obtain ⟨p, rfl, o, _⟩ := r
      rw [ref]
      cases d <;> first | rfl | exact o.elim
    | _ => exact r.elim
  | pure =>
    cases v with
    | py d =>
      cases d with
      | none => obtain rfl : u = .non := r; exact decide_eq_false (fun z => nomatch z)
      | bool c =>
        obtain rfl : u = .bl c := r
        show _ = (c == b)
        cases c <;> cases b <;> rfl
      | int b => obtain rfl : u = .int b := r; exact decide_eq_false (fun z => nomatch z)
      | str b => obtain rfl : u = .str b := r; exact decide_eq_false (fun z => nomatch z)
      | list b => obtain ⟨p, _, rfl, _⟩ := r; exact ref
      | tuple b => obtain ⟨p, _, rfl, _⟩ := r; exact ref
      | dict b => obtain ⟨p, _, _, rfl, _⟩ := r; exact ref
    | fn f => obtain ⟨p, rfl, _⟩ := r; exact ref
    | err c d => obtain ⟨p, _, _, _, _, _, rfl, _⟩ := r; exact ref
    | box k => obtain ⟨p, _, rfl⟩ := r; exact ref
theorem relV_bl {x : V} {u : Value} {b : Bool} (r : RelV x u) : u = Value.bool b ↔ x = .bl b := by
  constructor
  · intro e
    subst e
    cases x with
    | bl c => cases (show Value.bool b = Value.bool c from r); rfl
    | non => cases (show Value.bool b = Value.none from r)
    | int i => obtain ⟨t, e⟩ := r; cases e
    | str i => obtain ⟨t, e⟩ := r; cases e
    | byt i => obtain ⟨t, e⟩ := r; cases e
    | flt i => obtain ⟨t, e⟩ := r; cases e
    | ref i => cases (show Value.bool b = Value.ref i from r)
    | ty i => cases (show Value.bool b = Value.type i from r)
  · intro e
    subst e
    exact r
theorem plain_bl {u : Value} {b : Bool} {x : V} (r : RelV x u) : plainIs u (.bool b) = true := by
  cases x with
  | bl c => cases (show u = Value.bool c from r); rfl
  | non => cases (show u = Value.none from r); rfl
  | int i => obtain ⟨t, e⟩ := r; subst e; rfl
  | str i => obtain ⟨t, e⟩ := r; subst e; rfl
  | byt i => obtain ⟨t, e⟩ := r; subst e; rfl
  | flt i => obtain ⟨t, e⟩ := r; subst e; rfl
  | ref i => cases (show u = Value.ref i from r); rfl
  | ty i => cases (show u = Value.type i from r); rfl
def rIsB : R2 := fun x y H Q => ∃ b, y = .bl b ∧ Q (.bl (decide (x = .bl b))) H
def rNotB : R2 := fun x y H Q => ∃ b, y = .bl b ∧ Q (.bl (!decide (x = .bl b))) H
theorem op_isB : OpR X (compareOp .Is) PP.rIsB := by
  intro pins s σ H x y v u Q I rx ry h
  obtain ⟨b, rfl, q⟩ := h
  cases (show u = Value.bool b from ry)
  by_cases e : v = Value.bool b
  · have e2 := (relV_bl rx).mp e
    subst e
    exact wpAny_is_self rfl ⟨.bl true, H, I, rfl, by rw [decide_eq_true e2] at q; exact q⟩
  · have e2 : ¬ x = .bl b := fun z => e ((relV_bl rx).mpr z)
    exact wpAny_is_other (plain_bl rx) e ⟨.bl false, H, I, rfl, by rw [decide_eq_false e2] at q; exact q⟩
theorem op_notB : OpR X (compareOp .IsNot) PP.rNotB := by
  intro pins s σ H x y v u Q I rx ry h
  obtain ⟨b, rfl, q⟩ := h
  cases (show u = Value.bool b from ry)
  by_cases e : v = Value.bool b
  · have e2 := (relV_bl rx).mp e
    subst e
    exact wpAny_isNot_self rfl ⟨.bl false, H, I, rfl, by rw [decide_eq_true e2] at q; exact q⟩
  · have e2 : ¬ x = .bl b := fun z => e ((relV_bl rx).mpr z)
    exact wpAny_isNot_other (plain_bl rx) e ⟨.bl true, H, I, rfl, by rw [decide_eq_false e2] at q; exact q⟩
theorem isB_op {b : Bool} {j : Nat} {p2 : Pos} (ha : Den X a fa)
    {H0 : Hp} {φ0 φ : List Addr} {σ : L2.St} {H : Hp} {sl : Sl} {S : SS} {r : ER} {Q : VK} {W : WX} (R : Rel X.K X.mg H0 φ0 φ σ H sl S) (tk : Takes X W) (hf : fIsB false b fa sl S = some r) (post : Post X H0 φ0 φ σ H sl Q W r) :
    tOp PP.rIsB (wE X a) (tC (.bl b)) σ H Q := by
  refine den_then ha R tk hf post fun t1 v1 S1 u1 H1 φ1 hk R1 l1 rv1 post1 => ?_
  cases hk
  refine ⟨b, rfl, ?_⟩
  rw [rv1.isBl, ← Bool.false_xor (PP.isBl b v1)]
  exact post1 _ H1 φ1 R1 (Le.refl _ _) rfl (fun z => nomatch z)
theorem notB_op {b : Bool} {j : Nat} {p2 : Pos} (ha : Den X a fa)
    {H0 : Hp} {φ0 φ : List Addr} {σ : L2.St} {H : Hp} {sl : Sl} {S : SS} {r : ER} {Q : VK} {W : WX} (R : Rel X.K X.mg H0 φ0 φ σ H sl S) (tk : Takes X W) (hf : fIsB true b fa sl S = some r) (post : Post X H0 φ0 φ σ H sl Q W r) :
    tOp PP.rNotB (wE X a) (tC (.bl b)) σ H Q := by
  refine den_then ha R tk hf post fun t1 v1 S1 u1 H1 φ1 hk R1 l1 rv1 post1 => ?_
  cases hk
  refine ⟨b, rfl, ?_⟩
  rw [rv1.isBl, ← Bool.true_xor (PP.isBl b v1)]
  exact post1 _ H1 φ1 R1 (Le.refl _ _) rfl (fun z => nomatch z)
theorem den_isB {b : Bool} {j : Nat} {p2 : Pos} (ha : Den X a fa) : Den X (.Compare a [.Is] [.Constant (.bool b) j p2] pos) (fIsB false b fa) := .mk fun H0 φ0 φ σ H sl S r R hf Q W tk post =>
  wE.of (pe_cmpR op_isB wE.pe pe_bl rfl) (isB_op (j := j) (p2 := p2) ha R tk hf post)
theorem den_notB {b : Bool} {j : Nat} {p2 : Pos} (ha : Den X a fa) : Den X (.Compare a [.IsNot] [.Constant (.bool b) j p2] pos) (fIsB true b fa) := .mk fun H0 φ0 φ σ H sl S r R hf Q W tk post =>
  wE.of (pe_cmpR op_notB wE.pe pe_bl rfl) (notB_op (j := j) (p2 := p2) ha R tk hf post)
theorem denT_isB {b : Bool} {j : Nat} {p2 : Pos} (ha : Den X a fa) : DenT X (.Compare a [.Is] [.Constant (.bool b) j p2] pos) (fTb (fIsB false b fa)) := .mk fun H0 φ0 φ σ H sl S r R hf Q W tk post => by
  obtain ⟨r', h1, p⟩ := post_bool hf post
  exact wT.of (pt_cmpR op_isB wE.pe pe_bl rfl) (isB_op (j := j) (p2 := p2) ha R tk h1 p)
theorem denT_notB {b : Bool} {j : Nat} {p2 : Pos} (ha : Den X a fa) : DenT X (.Compare a [.IsNot] [.Constant (.bool b) j p2] pos) (fTb (fIsB true b fa)) := .mk fun H0 φ0 φ σ H sl S r R hf Q W tk post => by
  obtain ⟨r', h1, p⟩ := post_bool hf post
  exact wT.of (pt_cmpR op_notB wE.pe pe_bl rfl) (notB_op (j := j) (p2 := p2) ha R tk h1 p)
end
end PP
set_option Elab.async false
set_option linter.all false
set_option maxRecDepth 100000
set_option maxHeartbeats 4000000
namespace PP
open PySem L2 PySem.Spec PyProof.Rows
section
variable {X : Cx} {a b e o : Expr} {fa fb f g : FE} {pos apos : Pos} {k : Nat}
/-! ### s.join(list) -/
def strsOf : List PyData → Option (List Str)
  | [] => some []
  | .str x :: r => match strsOf r with
    | some ys => some (x :: ys)
    | none => none
  | _ :: _ => none
theorem rps_strs {K : PySem.W.Frag} {H : Hp} : ∀ {ds : List PyData} {vs : List V} {ys : List Str}, strsOf ds = some ys → Rps K H ds vs → vs = ys.map V.str
  | [], _, _, h, r => by cases h; cases r; rfl
  | .str x :: ds, _, _, h, ⟨v, t, e, a, b⟩ => by
    unfold strsOf at h
    split at h
    · rename_i ys h1
      cases h
      obtain rfl : v = .str x := a
      rw [e, rps_strs h1 b]
      rfl
    · cases h
  | .none :: _, _, _, h, _ => by cases h
  | .bool _ :: _, _, _, h, _ => by cases h
  | .int _ :: _, _, _, h, _ => by cases h
  | .list _ :: _, _, _, h, _ => by cases h
  | .tuple _ :: _, _, _, h, _ => by cases h
  | .dict _ :: _, _, _, h, _ => by cases h
def fJoin (fa fb : FE) : FE := fun sl S => bindE (fa sl S) fun _ v S1 => match v with
  | .py (.str z) => bindE (fb sl S1) fun _ v2 S2 => match v2 with
    | .py (.list ds) => match strsOf ds with
      | some ys => if (ys.map (·.length)).sum + ys.length * z.length ≤ LIM then some (.val .pure (.py (.str (Txt.join z ys))) S2) else none
      | none => none
    | _ => none
  | _ => none
theorem den_join (ha : Den X o fa) (hb : Den X e fb) (hs : starEach [e] X.env = [(false, eval e X.env)]) (hbase : attributeBase o "join" X.env (eval o X.env) = eval o X.env) (hline : (apos.endLine == pos.line) = true) :
    Den X (.Call (.Attribute o "join" apos) [e] [] pos) (fJoin fa fb) := by
  refine .mk ?_; intro H0 φ0 φ σ H sl S r R hf Q W tk post
  refine wE.of (pe_join wE.pe wE.pe hs hbase hline) ?_
  refine den_then ha R tk hf post fun t1 v1 S1 u1 H1 φ1 hk R1 l1 rv1 post1 => ?_
  split at hk
  · rename_i z
    have e1 := rv1.str
    refine ⟨⟨z, e1⟩, den_then hb R1 tk hk post1 fun t2 v2 S2 u2 H2 φ2 hk2 R2 l2 rv2 post2 => ?_⟩
    split at hk2
    · rename_i ds2
      split at hk2
      · rename_i ys hy
        split at hk2
        · rename_i hc
          cases hk2
          obtain ⟨p, vs, rfl, r1, a1⟩ := rv2.sh R2 rfl
          have ev := rps_strs hy a1
          subst ev
          exact ⟨z, p, ys, e1, rfl, .inl r1, Nat.le_trans hc (by decide), post2 _ H2 φ2 R2 (Le.refl _ _) rfl (fun z => nomatch z)⟩
        · cases hk2
      · cases hk2
    · cases hk2
  · cases hk
/-! ### list of a text -/
theorem vals_chars : ∀ {cs : List Nat} {us : List Value}, us.length = cs.length → (∀ (j : Nat) (v : Value), us[j]? = some v → ∃ c u, cs[j]? = some c ∧ v = .str ⟨#[c]⟩ u) → Vals (cs.map fun c => V.str ⟨#[c]⟩) us
  | [], [], _, _ => .nil
  | [], _ :: _, h, _ => by cases h
  | _ :: _, [], h, _ => by cases h
  | c :: cs, v :: us, h, g => by
    obtain ⟨c', u, e1, e2⟩ := g 0 v rfl
    cases e1
    refine .cons ⟨u, e2⟩ (vals_chars (by simpa using h) fun j w hw => ?_)
    obtain ⟨c2, u2, e3, e4⟩ := g (j + 1) w (by simpa using hw)
    exact ⟨c2, u2, by simpa using e3, e4⟩
def listSP : List PyData → Option (Tg × PyData)
  | [.str z] => if z.length ≤ LIM then some (.fresh, .list (chars z)) else none
  | _ => none
theorem sem_listS (c : Ct X k) : CallSem X (.type "list") listSP := by
  intro ds xs H t d Q sh hs q
  unfold listSP at hs
  split at hs
  · rename_i z
    split at hs
    · rename_i hz
      cases hs
      obtain ⟨u, r, rfl, h1, rfl⟩ := sh
      obtain rfl : u = .str z := h1
      intro pins s σ us I rs
      obtain ⟨u2, rfl, r1⟩ := vals1 rs
      obtain ⟨t1, rfl⟩ := r1
      refine call_list_str c.room.hd z t1 (hn := lim_line hz) fun h' tk acc' c' hk hS' hacc => ?_
      have hn := I.hok.fresh (Nat.le_refl s.heap.objs.size)
      have rel : Vals (z.cps.toList.map fun c => V.str ⟨#[c]⟩) acc'.toList := by
        have hl : acc'.toList.length = z.cps.toList.length := by simpa using hacc.1
        have hg : ∀ (j : Nat) (v : Value), acc'.toList[j]? = some v → ∃ c u, z.cps.toList[j]? = some c ∧ v = .str ⟨#[c]⟩ u := fun j v hv => by
          obtain ⟨c, u, e1, e2⟩ := hacc.2 j v (by simpa using hv)
          exact ⟨c, u, by simpa using e1, e2⟩
        exact vals_chars hl hg
      have ex : Ext H (upd H s.heap.objs.size (.lst (z.cps.toList.map fun c => V.str ⟨#[c]⟩))) := Ext.new hn
      refine ⟨.ref _, _, I.laid (t' := tk) (o := .lst (z.cps.toList.map fun c => V.str ⟨#[c]⟩)) hk (Nat.le_refl _) ⟨by rw [List.length_map]; exact lim_line hz, acc'.toList, c', rel, by simpa using hS'⟩, rfl, q _ _ ex ⟨_, rfl, ⟨_, upd_same, ?_⟩, hn⟩⟩
      have : ∀ l : List Nat, Rps X.K (upd H s.heap.objs.size (.lst (z.cps.toList.map fun c => V.str ⟨#[c]⟩))) (l.map fun c => PyData.str ⟨#[c]⟩) (l.map fun c => V.str ⟨#[c]⟩) := by
        intro l
        induction l with
        | nil => rfl
        | cons c l ih => exact ⟨_, _, rfl, rfl, ih⟩
      exact this _
    · cases hs
  · cases hs
/-! ### xs[::-1] -/
def fRev (fa : FE) : FE := fun sl S => bindE (fa sl S) fun _ v S1 => match cont S1 v with
  | some (.list ds) => some (.val .fresh (.py (.list ds.reverse)) S1)
  | _ => none
theorem rps_rev {K : PySem.W.Frag} {H : Hp} : ∀ {ds : List PyData} {vs : List V}, Rps K H ds vs → Rps K H ds.reverse vs.reverse
  | [], _, h => by cases h; rfl
  | d :: ds, _, ⟨v, t, e, a, b⟩ => by
    subst e
    rw [List.reverse_cons, List.reverse_cons]
    exact (rps_rev b).app ⟨v, [], rfl, a, rfl⟩
theorem den_rev {j : Nat} {p1 p2 p3 : Pos} (ha : Den X a fa) : Den X (.Subscript a (.Slice none none (some (.UnaryOp .USub (.Constant (.int 1) j p1) p2)) p3) pos) (fRev fa) := by
  refine .mk ?_; intro H0 φ0 φ σ H sl S r R hf Q W tk post
  refine wE.of (pe_revL wE.pe) ?_
  refine den_then ha R tk hf post fun t1 v1 S1 u1 H1 φ1 hk R1 l1 rv1 post1 => ?_
  split at hk
  · rename_i ds hc
    cases hk
    obtain ⟨p, vs, rfl, r1, a1⟩ := rv1.sh R1 hc
    refine ⟨p, vs, rfl, r1, fun l hl => ?_⟩
    have ex : Ext H1 (upd H1 l (.lst vs.reverse)) := Ext.new hl
    have ro : RO X.K H1 (upd H1 l (.lst vs.reverse)) .fresh (.list ds.reverse) (.ref l) := ⟨l, rfl, ⟨_, upd_same, (rps_rev a1).mono ex.fz⟩, hl⟩
    exact post1 _ _ φ1 (R1.ext ex) ex.le (ro.rv R1) ro.new
  · cases hk
/-! ### >= of texts too -/
def geP : PyData → PyData → Option (Tg × PyData)
  | .int i, .int j => some (.pure, .bool (decide (j ≤ i)))
  | .str x, .str y => some (.pure, .bool (!decide (x.cps.toList < y.cps.toList)))
  | _, _ => none
theorem sem_geS : BinSem X (compareOp .GtE) geP := by
  intro dx dy x y H t d Q sx sy hs q
  unfold geP at hs
  split at hs
  · rename_i i j
    cases hs
    obtain rfl : x = .int i := sx
    obtain rfl : y = .int j := sy
    exact OpRun.of op_ge ⟨i, j, rfl, rfl, q _ H (Ext.refl H) rfl⟩
  · rename_i i j
    cases hs
    obtain rfl : x = .str i := sx
    obtain rfl : y = .str j := sy
    exact OpRun.of op_ge_str ⟨i, j, rfl, rfl, q _ H (Ext.refl H) rfl⟩
  · cases hs
/-! ### str(n), n great -/
def nodB (K : PySem.W.Frag) : Bool := match K.lookup cStatics with
  | some ⟨_, _, .dict es _, _⟩ => es.all (fun e => match e.key with | .str _ _ => true | _ => false) && (nsFind es "sys.int_max_str_digits").isNone
  | _ => false
def NoDig (K : PySem.W.Frag) : Prop := ∀ h : Heap, K.In h → h.NoDigits
theorem nodB_ok {K : PySem.W.Frag} (q : nodB K = true) : NoDig K := fun h kin => by
  unfold nodB at q
  split at q
  · rename_i c d es ep sl e
    obtain ⟨q1, q2⟩ := Bool.and_eq_true_iff.mp q
    have g := kin _ _ e
    refine Heap.noDigits_of_ok ?_
    unfold Heap.noDigitsOk Heap.isNs Heap.nsMap
    rw [g]
    exact Bool.and_eq_true_iff.mpr ⟨q1, q2⟩
  · cases q
def strZP : List PyData → Option (Tg × PyData)
  | [.int i] => if i.natAbs.log2 < 14000 then some (.pure, .str (toString i)) else none
  | _ => none
theorem sem_strZ (c : Ct X k) (nd : NoDig X.K) : CallSem X (.type "str") strZP := by
  intro ds xs H t d Q sh hs q
  unfold strZP at hs
  split at hs
  · rename_i i
    split at hs
    · rename_i hz
      cases hs
      obtain ⟨u, r, rfl, h1, rfl⟩ := sh
      obtain rfl : u = .int i := h1
      intro pins s σ us I rs
      obtain ⟨u2, rfl, r1⟩ := vals1 rs
      obtain ⟨t1, rfl⟩ := r1
      have big : i.natAbs < 10 ^ 4300 := by
        have h1 : i.natAbs < 2 ^ 14000 := by
          by_cases h0 : i.natAbs = 0
          · rw [h0]; exact Nat.pow_pos (by decide)
          · exact (Nat.log2_lt h0).mp hz
        exact Nat.lt_of_lt_of_le h1 (by decide +kernel)
      exact str_of_int_or c.room.hd (nd _ I.kIn) (fun _ => ⟨.str _, H, I.tok _, ⟨_, rfl⟩, q _ H (Ext.refl H) rfl⟩) (fun h => absurd big (Nat.not_lt.mpr h))
    · cases hs
  · cases hs
end
end PP
set_option Elab.async false
set_option linter.all false
set_option maxRecDepth 100000
set_option maxHeartbeats 4000000
namespace PP
open PySem L2 PySem.Spec PyProof.Rows
/-! ### keys: texts and ints -/
def keyOf : PyData → Option Key
  | .int i => some (.inl i)
  | .str s => some (.inr s)
  | _ => none
def kD : Key → PyData
  | .inl i => .int i
  | .inr s => .str s
def keysOf : List PyData → Option (List Key)
  | [] => some []
  | d :: r => match keyOf d, keysOf r with
    | some k, some ks => some (k :: ks)
    | _, _ => none
section
variable {K : PySem.W.Frag} {H : Hp}
theorem key_rp {a : PyData} {v : V} {k : Key} (h : keyOf a = some k) (r : Rp K H a v) : v = kV k := by
  cases a with
  | int i => cases h; exact r
  | str i => cases h; exact r
  | _ => cases h
theorem rp_key {a : PyData} {k : Key} (r : Rp K H a (kV k)) : keyOf a = some k := by
  cases a with
  | int i =>
    cases k with
    | inl j => cases (show V.int j = V.int i from r); rfl
    | inr j => exact nomatch (show V.str j = V.int i from r)
  | str i =>
    cases k with
    | inl j => exact nomatch (show V.int j = V.str i from r)
    | inr j => cases (show V.str j = V.str i from r); rfl
  | none => cases k <;> exact nomatch (show _ = V.non from r)
  | bool b => cases k <;> exact nomatch (show _ = V.bl b from r)
  | list b => obtain ⟨p, _, e, _⟩ := r; cases k <;> exact nomatch e
  | tuple b => obtain ⟨p, _, e, _⟩ := r; cases k <;> exact nomatch e
  | dict b => obtain ⟨p, _, _, e, _⟩ := r; cases k <;> exact nomatch e
theorem rp_kD {k : Key} : Rp K H (kD k) (kV k) := by cases k <;> rfl
def lookK (kvs : List (PyData × PyData)) (k : Key) : Option PyData := (kvs.find? fun p => decide (keyOf p.1 = some k)).map (·.2)
theorem rpk_look {k : Key} : ∀ {kvs : List (PyData × PyData)} {ks : List (Key × V)}, Rpk K H kvs ks → (lookK kvs k = none ∧ valV ks k = none) ∨ ∃ d v, lookK kvs k = some d ∧ valV ks k = some v ∧ Rp K H d v
  | [], _, h => by cases h; exact .inl ⟨rfl, rfl⟩
  | (a, b) :: r, _, ⟨k', v, t, e, h1, h2, h3⟩ => by
    subst e
    have e1 := rp_key h1
    by_cases q : k' = k
    · subst q
      refine .inr ⟨b, v, ?_, valV_pos rfl, h2⟩
      unfold lookK
      rw [List.find?_cons_of_pos (by simp [e1])]
      rfl
    · have n1 : lookK ((a, b) :: r) k = lookK r k := by
        unfold lookK
        rw [List.find?_cons_of_neg (by
          have : ¬ (some k' = some k) := fun z => q (Option.some.inj z)
          simp [e1, q])]
      rw [n1, valV_neg (p := (k', v)) q]
      exact rpk_look h3
theorem valV_no {kvs : List (Key × V)} {k : Key} (h : ¬ k ∈ kvs.map (·.1)) : valV kvs k = none := by
  cases e : valV kvs k with
  | none => rfl
  | some v => exact absurd (valV_in e) h
theorem mergeK_nd : ∀ (more acc : List (Key × V)), ((acc ++ more).map (·.1)).Nodup → mergeK acc more = acc ++ more
  | [], acc, _ => by rw [List.append_nil]; rfl
  | p :: r, acc, h => by
    have hn : ¬ p.1 ∈ acc.map (·.1) := by
      rw [List.map_append, List.map_cons, List.nodup_append] at h
      intro m
      exact h.2.2 _ m _ List.mem_cons_self rfl
    have e : putK acc p.1 p.2 = acc ++ [p] := putK_new p.2 (valV_no hn)
    show mergeK (putK acc p.1 p.2) r = _
    rw [e]
    have q := mergeK_nd r (acc ++ [p]) (by simpa using h)
    rw [q]
    simp
end
/-! ### {"k": v, ..} -/
def trsOf (X : Cx) : List Expr → List Expr → List (TE × TE)
  | k :: ks, v :: vs => (wE X k, wE X v) :: trsOf X ks vs
  | _, _ => []
def PostP (X : Cx) (H0 : Hp) (φ0 φ : List Addr) (σ : L2.St) (H : Hp) (sl : Sl) (ks : List Str) (Q : List (V × V) → Hp → Prop) (W : WX) : AR → Prop
  | .vals xs S' => ∀ us H' φ', Rel X.K X.mg H0 φ0 φ' σ H' sl S' → Le φ H φ' H' → RVs X.K X.mg H0 H' φ' σ sl xs us → xs.length = ks.length → Q ((ks.map V.str).zip us) H'
  | .exn c d S' => ∀ C dx H' φ', Rel X.K X.mg H0 φ0 φ' σ H' sl S' → Le φ H φ' H' → ExAt X.K X.mg H' c d C dx → W (.ref C) (some dx) σ H'
structure DenP (X : Cx) (ks : List Str) (kes vs : List Expr) (g : FA) : Prop where
  pps : ∀ pos, PPs X pos (kes.map some) vs (trsOf X kes vs)
  klen : kes.length = ks.length
  vlen : vs.length = ks.length
  run : ∀ (H0 : Hp) (φ0 φ : List Addr) (σ : L2.St) (H : Hp) (sl : Sl) (S : SS) (r : AR), Rel X.K X.mg H0 φ0 φ σ H sl S → g sl S = some r →
    ∀ (Q : List (V × V) → Hp → Prop) (W : WX), Takes X W → PostP X H0 φ0 φ σ H sl ks Q W r → tPairs (trsOf X kes vs) σ H Q
section
variable {X : Cx} {a b e o v : Expr} {kes vs : List Expr} {fa fb f : FE} {g : FA} {pos p : Pos} {k j : Nat}
theorem denP_nil : DenP X [] [] [] faNil := ⟨fun pos => pps_nil, rfl, rfl, by
  intro H0 φ0 φ σ H sl S r R hf Q W tk post
  cases hf
  exact post [] H φ R (Le.refl _ _) rfl rfl⟩
theorem denP_cons {z : Str} {ks : List Str} (h : Den X v f) (hs : DenP X ks kes vs g) : DenP X (z :: ks) (.Constant (.str z) j p :: kes) (v :: vs) (faCons f g) := by
  refine ⟨fun pos => pps_cons wE.pe wE.pe (hs.pps pos), congrArg (· + 1) hs.klen, congrArg (· + 1) hs.vlen, ?_⟩
  intro H0 φ0 φ σ H sl S r R hf Q W tk post
  show wE X (.Constant (.str z) j p) σ H _
  refine wE.of pe_str ?_
  unfold faCons at hf
  split at hf
  · rename_i t v1 S1 h1
    refine h H0 φ0 φ σ H sl S _ R h1 _ W tk fun u H1 φ1 R1 l1 rv _ => ?_
    split at hf
    · rename_i xs S2 h2
      cases hf
      exact hs.run H0 φ0 φ1 σ H1 sl S1 _ R1 h2 _ W tk fun us H2 φ2 R2 l2 rvs hl => post (u :: us) H2 φ2 R2 (l1.trans l2) ⟨u, us, rfl, rv.le l2, rvs⟩ (congrArg (· + 1) hl)
    · rename_i c d S2 h2
      cases hf
      exact hs.run H0 φ0 φ1 σ H1 sl S1 _ R1 h2 _ W tk (fun C dx H' φ' R' l' => post C dx H' φ' R' (l1.trans l'))
    · cases hf
  · rename_i c d S1 h1
    cases hf
    exact h H0 φ0 φ σ H sl S _ R h1 _ W tk post
  · cases hf
def fDisp (ks : List Str) (g : FA) : FE := fun sl S => match g sl S with
  | some (.vals xs S1) => match pys xs with
    | some ds => if ks.Nodup ∧ ds.length = ks.length then some (.val .fresh (.py (.dict ((ks.map PyData.str).zip ds))) S1) else none
    | none => none
  | some (.exn c d S1) => some (.exn c d S1)
  | none => none
theorem rps_rpk {K : PySem.W.Frag} {H : Hp} : ∀ {ks : List Str} {ds : List PyData} {us : List V}, Rps K H ds us → ds.length = ks.length → Rpk K H ((ks.map PyData.str).zip ds) ((ks.map Sum.inr).zip us)
  | [], [], _, h, _ => by cases h; rfl
  | z :: ks, d :: ds, _, ⟨u, t, e, a, b⟩, hl => by
    subst e
    exact ⟨.inr z, u, _, rfl, rfl, a, rps_rpk b (by simpa using hl)⟩
  | [], _ :: _, _, _, hl => by cases hl
  | _ :: _, [], _, _, hl => by cases hl
theorem zip_kv : ∀ {ks : List Str} {us : List V}, us.length = ks.length → (ks.map V.str).zip us = (((ks.map Sum.inr).zip us : List (Key × V))).map fun kv => (kV kv.1, kv.2)
  | [], [], _ => rfl
  | z :: ks, u :: us, h => by
    rw [List.map_cons, List.map_cons, List.zip_cons_cons, List.zip_cons_cons, List.map_cons, zip_kv (by simpa using h)]
    rfl
  | [], _ :: _, h => by cases h
  | _ :: _, [], h => by cases h
theorem zip_keys : ∀ {ks : List Str} {us : List V}, us.length = ks.length → (((ks.map Sum.inr).zip us : List (Key × V))).map (·.1) = ks.map Sum.inr
  | [], [], _ => rfl
  | z :: ks, u :: us, h => by
    rw [List.map_cons, List.zip_cons_cons, List.map_cons, zip_keys (by simpa using h)]
  | [], _ :: _, h => by cases h
  | _ :: _, [], h => by cases h
theorem den_disp {ks : List Str} {keys : List (Option Expr)} (h : DenP X ks kes vs g) (hk : keys = kes.map some) (h0 : ks ≠ []) (h15 : ks.length ≤ 15) : Den X (.Dict keys vs pos) (fDisp ks g) := by
  subst hk
  refine .mk ?_; intro H0 φ0 φ σ H sl S r R hf Q W tk post
  have hlen := h.klen
  have hall : (kes.map some).all (·.isSome) = true := by
    rw [List.all_map]
    exact List.all_eq_true.mpr fun _ _ => rfl
  refine wE.of (pe_disp (h.pps pos) hall (by rw [List.length_map, hlen, h.vlen]) (fun z => h0 (by
      have : kes = [] := by simpa using z
      rw [this] at hlen
      exact List.length_eq_zero_iff.mp hlen.symm)) (by rw [List.length_map, hlen]; exact h15)) ?_
  intro p hp
  have ex : Ext H (upd H p (.dK [])) := Ext.new hp
  have np : p ∉ φ := R.notBox hp
  have n0 : H0 p = none := R.fresh0 hp
  have ns := own_ref R hp
  have l0 : Le φ H φ (upd H p (.dK [])) := ex.le
  unfold fDisp at hf
  split at hf
  · rename_i xs S1 h1
    split at hf
    · rename_i ds h2
      split at hf
      · rename_i hc
        cases hf
        refine h.run H0 φ0 φ σ _ sl S _ (R.ext ex) h1 _ W tk fun us H1 φ1 R1 l1 rvs hl => ?_
        have e1 : H1 p = some (.dK []) := l1.keep p _ upd_same np
        have rs := rvs.pys h2
        have hu : us.length = ks.length := by rw [rs.len]; exact hc.2
        have nk : (((ks.map Sum.inr).zip us : List (Key × V)).map (·.1)).Nodup := by
          rw [zip_keys hu]
          exact List.Pairwise.map Sum.inr (fun _ _ n e => n (Sum.inr.inj e)) hc.1
        refine ⟨e1, ((ks.map Sum.inr).zip us : List (Key × V)), zip_kv hu, by simp [hu, h15], ?_⟩
        rw [mergeK_nd _ [] (by simpa using nk), List.nil_append]
        have n1 : p ∉ φ1 := fun z => by
          have := l1.new p z np
          rw [upd_same] at this
          cases this
        have zz : Fz H1 (upd H1 p (.dK ((ks.map Sum.inr).zip us))) := fz_upd e1 rfl
        have l2 : Le φ H φ1 (upd H1 p (.dK ((ks.map Sum.inr).zip us))) := by
          have l := l0.trans l1
          refine ⟨fun x q hx nx => ?_, l.pre, l.new, l.fz.trans zz⟩
          rw [upd_ne (fun z => by subst z; rw [hp] at hx; cases hx)]
          exact l.keep x q hx nx
        exact post _ _ φ1 (R1.write e1 rfl n1 n0 ns) l2 ⟨p, rfl, ⟨_, upd_same, (rps_rpk rs hc.2).mono zz⟩, n0, n1, ns⟩ (fun _ q e => by cases e; exact hp)
      · cases hf
    · cases hf
  · rename_i c d S1 h1
    cases hf
    exact h.run H0 φ0 φ σ _ sl S _ (R.ext ex) h1 _ W tk fun C dx H' φ' R' l' => post C dx H' φ' R' (l0.trans l')
  · cases hf
/-! ### d[k], k in d -/
def fDget (fa fb : FE) : FE := fun sl S => bindE (fa sl S) fun _ v1 S1 => bindE (fb sl S1) fun _ v2 S2 =>
  match cont S2 v1, v2 with
  | some (.dict kvs), .py y => match keyOf y with
    | some k => match lookK kvs k with
      | some d => some (.val .pure (.py d) S2)
      | none => none
    | none => none
  | _, _ => none
theorem RV.key {K : PySem.W.Frag} {mg : Str → Option Value} {H0 H : Hp} {φ : List Addr} {σ : L2.St} {sl : Sl} {t : Tg} {y : PyData} {u : V} {k : Key} (r : RV K mg H0 H φ σ sl t (.py y) u) (h : keyOf y = some k) : u = kV k := by
  cases t with
  | pure => exact key_rp h r
  | fresh => obtain ⟨_, _, o, _⟩ := r; cases y <;> first | exact o.elim | cases h
  | mine => obtain ⟨_, _, o, _⟩ := r; cases y <;> first | exact o.elim | cases h
theorem den_dget (c : Ct X k) (ha : Den X a fa) (hb : Den X b fb) (hs : NoSl b) : Den X (.Subscript a b pos) (fDget fa fb) := by
  refine .mk ?_; intro H0 φ0 φ σ H sl S r R hf Q W tk post
  refine wE.of (pe_dget (by have := c.room.units; omega) wE.pe wE.pe hs) ?_
  refine den_then ha R tk hf post fun t1 v1 S1 u1 H1 φ1 hk R1 l1 rv1 post1 => ?_
  refine den_then hb R1 tk hk post1 fun t2 v2 S2 u2 H2 φ2 hk2 R2 l2 rv2 post2 => ?_
  split at hk2
  · rename_i kvs y c1
    split at hk2
    · rename_i ky hy
      split at hk2
      · rename_i d hd
        cases hk2
        obtain ⟨q, ks, rfl, rd, rk⟩ := (rv1.le l2).sh R2 c1
        have ey := rv2.key hy
        rcases rpk_look (k := ky) rk with ⟨e1, _⟩ | ⟨d', v, e1, e2, rp⟩
        · rw [e1] at hd; cases hd
        · rw [e1] at hd
          cases hd
          exact ⟨q, v, rfl, .inl ⟨ks, ky, rd, ey, e2.symm⟩, post2 _ H2 φ2 R2 (Le.refl _ _) rp (fun z => nomatch z)⟩
      · cases hk2
    · cases hk2
  · cases hk2
def fDin (neg : Bool) (fa fb : FE) : FE := fun sl S => bindE (fa sl S) fun _ v1 S1 => bindE (fb sl S1) fun _ v2 S2 =>
  match v1, cont S2 v2 with
  | .py y, some (.dict kvs) => match keyOf y with
    | some k => some (.val .pure (.py (.bool (neg ^^ (lookK kvs k).isSome))) S2)
    | none => none
  | _, _ => none
theorem din_go {neg : Bool} {t : TE} (ha : Den X a fa) (hb : Den X b fb) (ht : ∀ σ H Q, wE X a σ H (fun y H1 => wE X b σ H1 fun x H2 => ∃ q o, x = .ref q ∧ DGet H2 q y o ∧ Q (.bl (neg ^^ o.isSome)) H2) → t σ H Q)
    {H0 : Hp} {φ0 φ : List Addr} {σ : L2.St} {H : Hp} {sl : Sl} {S : SS} {r : ER} {Q : VK} {W : WX} (R : Rel X.K X.mg H0 φ0 φ σ H sl S) (tk : Takes X W) (hf : fDin neg fa fb sl S = some r) (post : Post X H0 φ0 φ σ H sl Q W r) : t σ H Q := by
  refine ht σ H Q (den_then ha R tk hf post fun t1 v1 S1 u1 H1 φ1 hk R1 l1 rv1 post1 => ?_)
  refine den_then hb R1 tk hk post1 fun t2 v2 S2 u2 H2 φ2 hk2 R2 l2 rv2 post2 => ?_
  split at hk2
  · rename_i y kvs c1
    split at hk2
    · rename_i ky hy
      cases hk2
      obtain ⟨q, ks, rfl, rd, rk⟩ := rv2.sh R2 c1
      have ey := rv1.key hy
      have e : (valV ks ky).isSome = (lookK kvs ky).isSome := by
        rcases rpk_look (k := ky) rk with ⟨e1, e2⟩ | ⟨d', v, e1, e2, rp⟩ <;> rw [e1, e2] <;> rfl
      refine ⟨q, _, rfl, .inl ⟨ks, ky, rd, ey, rfl⟩, ?_⟩
      rw [e]
      exact post2 _ H2 φ2 R2 (Le.refl _ _) rfl (fun z => nomatch z)
    · cases hk2
  · cases hk2
theorem den_din (c : Ct X k) (ha : Den X a fa) (hb : Den X b fb) (hm : behindInMarks .In b = false) : Den X (.Compare a [.In] [b] pos) (fDin false fa fb) := .mk fun H0 φ0 φ σ H sl S r R hf Q W tk post =>
  wE.of (pe_cmp (pc_din (by have := c.room.units; omega) wE.pe wE.pe) hm) (din_go (t := tDIn (wE X a) (wE X b)) ha hb (fun σ H Q h => wE.imp h fun u H' q => wE.imp q fun u2 H2 ⟨q, o, e1, e2, e3⟩ => ⟨q, o, e1, e2, by rw [Bool.false_xor] at e3; exact e3⟩) R tk hf post)
theorem den_dnotin (c : Ct X k) (ha : Den X a fa) (hb : Den X b fb) (hm : behindInMarks .NotIn b = false) : Den X (.Compare a [.NotIn] [b] pos) (fDin true fa fb) := .mk fun H0 φ0 φ σ H sl S r R hf Q W tk post =>
  wE.of (pe_cmp (pc_dnotin (by have := c.room.units; omega) wE.pe wE.pe) hm) (din_go (t := tDNotIn (wE X a) (wE X b)) ha hb (fun σ H Q h => wE.imp h fun u H' q => wE.imp q fun u2 H2 ⟨q, o, e1, e2, e3⟩ => ⟨q, o, e1, e2, by rw [Bool.true_xor] at e3; exact e3⟩) R tk hf post)
theorem denT_din (c : Ct X k) (ha : Den X a fa) (hb : Den X b fb) (hm : behindInMarks .In b = false) : DenT X (.Compare a [.In] [b] pos) (fTb (fDin false fa fb)) := .mk fun H0 φ0 φ σ H sl S r R hf Q W tk post => by
  obtain ⟨r', h1, p⟩ := post_bool hf post
  exact wT.of (pt_cmp (pc_din (by have := c.room.units; omega) wE.pe wE.pe) hm) (din_go (t := tDIn (wE X a) (wE X b)) ha hb (fun σ H Q h => wE.imp h fun u H' q => wE.imp q fun u2 H2 ⟨q, o, e1, e2, e3⟩ => ⟨q, o, e1, e2, by rw [Bool.false_xor] at e3; exact e3⟩) R tk h1 p)
theorem denT_dnotin (c : Ct X k) (ha : Den X a fa) (hb : Den X b fb) (hm : behindInMarks .NotIn b = false) : DenT X (.Compare a [.NotIn] [b] pos) (fTb (fDin true fa fb)) := .mk fun H0 φ0 φ σ H sl S r R hf Q W tk post => by
  obtain ⟨r', h1, p⟩ := post_bool hf post
  exact wT.of (pt_cmp (pc_dnotin (by have := c.room.units; omega) wE.pe wE.pe) hm) (din_go (t := tDNotIn (wE X a) (wE X b)) ha hb (fun σ H Q h => wE.imp h fun u H' q => wE.imp q fun u2 H2 ⟨q, o, e1, e2, e3⟩ => ⟨q, o, e1, e2, by rw [Bool.true_xor] at e3; exact e3⟩) R tk h1 p)
end
end PP
set_option Elab.async false
set_option linter.all false
set_option maxRecDepth 100000
set_option maxHeartbeats 4000000
namespace PP
open PySem L2 PySem.Spec PyProof.Rows
/-! ### dict(list of pairs) -/
def pairsP : List PyData → Option (List (PyData × PyData))
  | [] => some []
  | .tuple [a, b] :: r => match pairsP r with
    | some kvs => some ((a, b) :: kvs)
    | none => none
  | _ :: _ => none
def dictP : List PyData → Option (Tg × PyData)
  | [.list ds] => match pairsP ds with
    | some kvs => match keysOf (kvs.map (·.1)) with
      | some ks => if ks.Nodup then some (.fresh, .dict kvs) else none
      | none => none
    | none => none
  | _ => none
theorem rps_pairs {K : PySem.W.Frag} {H : Hp} : ∀ {ds : List PyData} {vs : List V} {kvs : List (PyData × PyData)} {ks : List Key}, Rps K H ds vs → pairsP ds = some kvs → keysOf (kvs.map (·.1)) = some ks →
    ∃ (ps : List Addr) (kv : List (Key × V)), vs = ps.map V.ref ∧ Paired (fun p kv => SqT K H p [kV kv.1, kv.2]) ps kv ∧ kv.map (·.1) = ks ∧ Rpk K H kvs kv
  | [], _, _, _, h, e, e2 => by
    cases h; cases e; cases e2
    exact ⟨[], [], rfl, .nil, rfl, rfl⟩
  | d :: ds, _, kvs, ks, ⟨v, t, e0, a1, b1⟩, e, e2 => by
    subst e0
    unfold pairsP at e
    split at e
    · rename_i heq; cases heq
    · rename_i a b r heq
      cases heq
      split at e
      · rename_i kvs' h1
        cases e
        rw [List.map_cons] at e2
        unfold keysOf at e2
        split at e2
        · rename_i k ks' hk hks
          cases e2
          obtain ⟨ps, kv, e3, pr, e4, rk⟩ := rps_pairs b1 h1 hks
          obtain ⟨p, us, rfl, sq, u1, t1, e5, ra, u2, t2, e6, rb, e7⟩ := a1
          subst e7
          subst e6
          subst e5
          have ek : u1 = kV k := key_rp hk ra
          subst ek
          exact ⟨p :: ps, (k, u2) :: kv, by rw [e3]; rfl, .cons sq pr, by rw [List.map_cons, e4], k, u2, kv, rfl, ra, rb, rk⟩
        · cases e2
      · cases e
    · cases e
section
variable {X : Cx} {k : Nat}
theorem sem_dict (c : Ct X k) : CallSem X (.type "dict") dictP := by
  intro ds xs H t d Q sh hs q
  unfold dictP at hs
  split at hs
  · rename_i ys
    split at hs
    · rename_i kvs h1
      split at hs
      · rename_i ks h2
        split at hs
        · rename_i hn
          cases hs
          obtain ⟨u, r, rfl, ⟨p, vs, rfl, r1, a1⟩, rfl⟩ := sh
          obtain ⟨ps, kv, rfl, pr, e4, rk⟩ := rps_pairs a1 h1 h2
          refine CallRun.of (call_dictP c.calm) ⟨p, ps, kv, rfl, r1, pr, fun l hl => ?_⟩
          rw [mergeK_nd _ [] (by rw [List.nil_append, e4]; exact hn), List.nil_append]
          have ex : Ext H (upd H l (.dK kv)) := Ext.new hl
          exact q _ _ ex ⟨l, rfl, ⟨kv, upd_same, Rpk.mono ex.fz _ rk⟩, hl⟩
        · cases hs
      · cases hs
    · cases hs
  · cases hs
/-! ### repr of a dict of texts, ints, .. -/
def isAtom : PyData → Bool
  | .none => true
  | .bool _ => true
  | .int _ => true
  | .str _ => true
  | _ => false
def isAD : PyData → Bool
  | .dict kvs => kvs.all fun p => isAtom p.1 && isAtom p.2
  | _ => false
def reprOk2 (d : PyData) : Bool := d.showable && decide (d.depth ≤ DEEP) && decide (d.shown.length ≤ LIM) && (!d.hasDict || isAD d)
def repr2P : List PyData → Option (Tg × PyData)
  | [d] => if reprOk2 d then some (.pure, .str d.shown) else none
  | _ => none
theorem ra_atoms {h : Heap} : ∀ {ds : List PyData} {vs : List Value} {as : List Addr}, ReadsAll h vs ds as → ds.all isAtom = true → as = []
  | [], _, _, .nil, _ => rfl
  | d :: ds, _, _, .cons a b, e => by
    rw [List.all_cons, Bool.and_eq_true] at e
    have e2 := ra_atoms b e.2
    subst e2
    cases a with
    | none => rfl
    | bool b => rfl
    | int i t => rfl
    | str s t => rfl
    | _ => exact absurd e.1 (by simp [isAtom])
theorem sem_repr2 (c : Ct X k) : CallSem X (.builtin "repr") repr2P := by
  intro ds xs H t d Q sh hs q
  unfold repr2P at hs
  split at hs
  · rename_i y
    split at hs
    · rename_i hb
      cases hs
      by_cases ad : y.hasDict = false
      · refine sem_repr c [y] xs H _ _ Q sh ?_ q
        unfold reprP
        dsimp only
        have : reprOk y = true := by
          unfold reprOk2 at hb
          unfold reprOk
          rw [ad] at hb ⊢
          simpa using hb
        rw [if_pos this]
      · unfold reprOk2 at hb
        simp only [Bool.and_eq_true, decide_eq_true_eq] at hb
        obtain ⟨⟨⟨h1, h2⟩, h3⟩, h4⟩ := hb
        have ad' : y.hasDict = true := by simpa using ad
        rw [ad'] at h4
        have h4 : isAD y = true := by simpa using h4
        have h2 : y.depth ≤ 60 := h2
        obtain ⟨u, r, rfl, sh1, rfl⟩ := sh
        intro pins s σ us I rs
        obtain ⟨u2, rfl, r1⟩ := vals1 rs
        have hsz := lim_line h3
        have fin : ∀ {h' : Heap} {tk : Nat} {t : Tok}, (∀ b o, s.heap.get? b = some o → h'.get? b = some o) → EP X pins σ Q (.str y.shown t) { s with heap := h', toks := tk } := fun {h' tk t} hk => ⟨.str _, H, I.kept (t' := tk) hk, ⟨t, rfl⟩, q _ H (Ext.refl H) rfl⟩
        have un := c.room.units
        obtain ⟨as, ra⟩ := Sh.reads I.hok I.kIn y sh1 r1
        cases y with
        | dict kvs =>
          obtain ⟨p, ks, rfl, rd, _⟩ := sh1
          cases r1
          have hne := (dk_rd I.hok rd).2.1
          have hat : (kvs.map (·.1)).all isAtom = true ∧ (kvs.map (·.2)).all isAtom = true := by
            have h4 : (kvs.all fun p => isAtom p.1 && isAtom p.2) = true := h4
            rw [List.all_eq_true] at h4
            refine ⟨List.all_eq_true.mpr fun x hx => ?_, List.all_eq_true.mpr fun x hx => ?_⟩
            · obtain ⟨p, hp, rfl⟩ := List.mem_map.mp hx
              exact (Bool.and_eq_true_iff.mp (h4 p hp)).1
            · obtain ⟨p, hp, rfl⟩ := List.mem_map.mp hx
              exact (Bool.and_eq_true_iff.mp (h4 p hp)).2
          refine repr_of_reads' ra h1 (fun _ hm => ?_) c.gd (by omega) (fun _ _ z => z) (fun h' u tk hk => fin hk) hsz
          cases ra with
          | dict e1 e2 e3 e4 e5 =>
            rw [ra_atoms e4 hat.1, ra_atoms e5 hat.2] at hm
            rw [List.mem_singleton.mp hm] at hne
            exact absurd hne (by simp)
        | _ => cases h4
    · cases hs
  · cases hs
end
end PP
set_option Elab.async false
set_option linter.all false
set_option maxRecDepth 100000
set_option maxHeartbeats 4000000
namespace PP
open PySem L2 PySem.Spec PyProof.Rows
/-! ### for x in [f, ..], the items any values -/
def forLoopV (i : Nat) (body : FS) : List Vl → FS
  | [], sl, S => some (.nx sl S)
  | v :: vs, sl, S => match body (sl.set i (.p v)) S with
    | some (.nx sl2 S2) => forLoopV i body vs sl2 S2
    | some (.ct sl2 S2) => forLoopV i body vs sl2 S2
    | some (.bk sl2 S2) => some (.nx sl2 S2)
    | r => r
def noBox : Vl → Bool
  | .box _ => false
  | _ => true
theorem RpV.nb {K : PySem.W.Frag} {mg : Str → Option Value} {H H' : Hp} {φ φ' : List Addr} (z : Fz H H') {v : Vl} {u : V} (n : noBox v = true) (h : RpV K mg H φ v u) : RpV K mg H' φ' v u := by
  cases v with
  | py d => exact Rp.mono z d h
  | fn f => exact h
  | err c d => exact ErrAt.mono z h
  | box k => cases n
def fForV (i : Nat) (g : FA) (body : FS) : FS := fun sl S => match g sl S with
  | some (.vals xs S1) => match argsOf xs with
    | some vs => if xs.length ≤ LIM ∧ vs.all noBox = true then forLoopV i body vs sl S1 else none
    | none => none
  | _ => none
section
variable {X : Cx} {pos p1 p2 : Pos} {x : Str} {i k : Nat} {es : List Expr} {body : List Stmt} {g : FA} {fb : FS}
theorem forLoopV_cons {v : Vl} {vs : List Vl} {sl : Sl} {S : SS} : forLoopV i fb (v :: vs) sl S = match fb (sl.set i (.p v)) S with
    | some (.nx sl2 S2) => forLoopV i fb vs sl2 S2
    | some (.ct sl2 S2) => forLoopV i fb vs sl2 S2
    | some (.bk sl2 S2) => some (.nx sl2 S2)
    | r => r := rfl
theorem RpVs.mono {K : PySem.W.Frag} {mg : Str → Option Value} {H H' : Hp} {φ φ' : List Addr} (z : Fz H H') (e : ∃ ψ, φ' = φ ++ ψ) : ∀ {vs : List Vl} {us : List V}, RpVs K mg H φ vs us → RpVs K mg H' φ' vs us
  | [], _, h => h
  | v :: vs, _, ⟨u, t, q, a, b⟩ => ⟨u, t, q, a.mono z e, RpVs.mono z e b⟩
theorem denS_forV (ct : Ct X k) (hp : PassesOwn (model X.prog X.w) X.A X.env X.xe) (hN : X.N[i]? = some x) (hx : Loc X.env.scope x) (hxf : X.fn x = true ∨ X.env.scope.names.lookup x = some .local) (h : DenA X es g) (hb : DenS X body fb)
    (hs : ∀ v, foldedSetIterable (.List es p2) X.env v = pure v) : DenS1 X (.For (.Name x p1) (.List es p2) body [] pos) (fForV i g fb) := by
  refine .mk ?_; intro H0 φ0 φ σ H sl S r R hf D W tk post
  refine wS1.of (ps_for hp ct.calm wI.pi wG.pg wSs.pss hs) ?_
  unfold fForV at hf
  split at hf
  · rename_i xs S1 h1
    split at hf
    · rename_i vs h2
      split at hf
      · rename_i hlim
        refine wI.of (pi_list wE.pe) (wE.shut (wE.of (pe_lst wA.pa) (h H0 φ0 φ σ H sl S _ R h1 _ W tk fun us H1 φ1 R1 l1 rvs => ?_)))
        have rp1 := rvs.args h2
        have hlen : us.length = xs.length := RVs.len rvs
        refine ⟨by rw [hlen]; exact lim_line hlim.1, fun p hpn => .inr ⟨p, .lst us, upd_same, trivial, fun od => ?_⟩⟩
        rw [upd_upd]
        have ex : Ext H1 (upd H1 p (.frz od (.lst us))) := Ext.new hpn
        have R2 := R1.ext ex
        have l2 := l1.trans ex.le
        have fz0 : FzK X.K (upd H1 p (.frz od (.lst us))) p us := .inl ⟨od, upd_same⟩
        have rp2 : RpVs X.K X.mg (upd H1 p (.frz od (.lst us))) φ1 vs us := rp1.mono ex.fz ⟨[], by simp⟩
        generalize hH2 : upd H1 p (.frz od (.lst us)) = H2 at ex R2 l2 fz0 rp2
        have vl : vs.length = us.length := (RpVs.len rp2).symm
        refine ⟨p, rfl, ⟨us, fz0.sq⟩, ?_⟩
        have sq : ∀ {H'}, Fz H2 H' → SqL X.K H' p us := fun {H'} z => (fz0.mono z).sq
        let Pv : Nat → L2.St → Hp → Prop := fun j σ' H' => ∃ φ' sl' S', Rel X.K X.mg H0 φ0 φ' σ' H' sl' S' ∧ Fz H2 H' ∧ forLoopV i fb (vs.drop j) sl' S' = some r
        refine ⟨fun j m σ' H' => m = us.length - j ∧ j ≤ us.length ∧ Pv j σ' H', ⟨us.length, by simp, Nat.zero_le _, φ1, sl, S1, R2, Fz.refl _, hf⟩, ?_⟩
        rintro j m σ' H' ⟨rfl, hle, φ', sl', S', R', z', hl⟩
        by_cases hlt : j < us.length
        · refine .inr ⟨⟨us, us[j], sq z', by simp [hlt]⟩, Pv (j + 1), fun σ2 H2' q => ⟨us.length - (j + 1), by omega, rfl, hlt, q⟩, fun y H2' yy => ?_⟩
          obtain ⟨rfl, yy⟩ := yy
          have ey := yy us (sq z')
          have hvj : j < vs.length := by rw [vl]; exact hlt
          have hd : vs.drop j = vs[j] :: vs.drop (j + 1) := List.drop_eq_getElem_cons hvj
          obtain ⟨u, eu, ru⟩ := RpVs.get rp2 (List.getElem?_eq_getElem hvj)
          rw [ey] at eu
          cases eu
          have ru' : RpV X.K X.mg H2' φ' vs[j] y := RpV.nb z' (List.all_eq_true.mp hlim.2 _ (List.getElem_mem hvj)) ru
          rw [hd, forLoopV_cons] at hl
          refine wG.of (pg_name ct.nd hN hx hxf) ?_
          have R3 := R'.put (t := .pure) (v := vs[j]) ru' rfl i
          split at hl
          · rename_i sl2 S2 eb
            exact hb H0 φ0 φ' _ H2' _ S' _ R3 eb _ W tk fun σ4 H4 φ4 R4 z4 => ⟨φ4, sl2, S2, R4, z'.trans z4, hl⟩
          · rename_i sl2 S2 eb
            exact hb H0 φ0 φ' _ H2' _ S' _ R3 eb _ W tk fun σ4 H4 φ4 R4 z4 => ⟨φ4, sl2, S2, R4, z'.trans z4, hl⟩
          · rename_i sl2 S2 eb
            cases hl
            exact hb H0 φ0 φ' _ H2' _ S' _ R3 eb _ W tk fun σ4 H4 φ4 R4 z4 => post σ4 H4 φ4 R4 ((l2.fz.trans z').trans z4)
          · rename_i n1 n2 n3
            refine hb H0 φ0 φ' _ H2' _ S' r R3 hl _ W tk ?_
            have post' := post.fz (l2.fz.trans z')
            cases r with
            | nx a b => exact absurd hl (n1 a b)
            | ct a b => exact absurd hl (n2 a b)
            | bk a b => exact absurd hl (n3 a b)
            | rt t v S => exact post'
            | exn c d sl S => exact post'
        · have e : j = us.length := by omega
          subst e
          rw [← vl, List.drop_length] at hl
          cases hl
          exact .inl ⟨⟨us, sq z', Nat.le_refl _⟩, post σ' H' φ' R' (l2.fz.trans z')⟩
      · cases hf
    · cases hf
  · cases hf
end
end PP
namespace PP
open PySem L2 PySem.Spec PyProof.Rows
section
variable {X : Cx} {a b c : Expr} {g : FA} {pos px py pz pt pt2 : Pos} {x y z : Str} {i j l k kt k2 : Nat}
/-! ### a, b, c = x, y, z -/
def fPar3 (i j l : Nat) (g : FA) : FS := fun sl S => match g sl S with
  | some (.vals xs S1) => match argsOf xs with
    | some [v1, v2, v3] => some (.nx (((sl.set i (.p v1)).set j (.p v2)).set l (.p v3)) S1)
    | _ => none
  | _ => none
theorem denS_par3 (ct : Ct X k) (hi : X.N[i]? = some x) (hj : X.N[j]? = some y) (hl : X.N[l]? = some z) (hij : i ≠ j) (hil : i ≠ l) (hjl : j ≠ l) (hx : X.env.scope.names.lookup x = some .local) (hy : X.env.scope.names.lookup y = some .local) (hz : X.env.scope.names.lookup z = some .local)
    (h : DenA X [a, b, c] g) (hw : swappedStores [.Tuple [.Name x px, .Name y py, .Name z pz] kt pt] (.Tuple [a, b, c] k2 pt2) X.env = pure (some [x, y, z])) (hs : swapsWithSole [.Tuple [.Name x px, .Name y py, .Name z pz] kt pt] (.Tuple [a, b, c] k2 pt2) pos.line X.env = pure false) :
    DenS1 X (.Assign [.Tuple [.Name x px, .Name y py, .Name z pz] kt pt] (.Tuple [a, b, c] k2 pt2) pos) (fPar3 i j l g) := by
  refine .mk ?_; intro H0 φ0 φ σ H sl S r R hf D W tk post
  refine wS1.of (ps_par3 ct.calm ct.nd hi hj hl hij hil hjl hx hy hz wA.pa hw hs) ?_
  unfold fPar3 at hf
  split at hf
  · rename_i xs S1 h1
    split at hf
    · rename_i v1 v2 v3 h2
      cases hf
      refine h H0 φ0 φ σ H sl S _ R h1 _ W tk fun us H1 φ1 R1 l1 rvs => ?_
      obtain ⟨u1, t1, rfl, r1, u2, t2, rfl, r2, u3, t3, rfl, r3, rfl⟩ := rvs.args h2
      have A1 := R1.put (t := .pure) (v := v1) (show RV X.K X.mg H0 H1 φ1 σ sl .pure v1 u1 from r1) rfl i
      have A2 := A1.put (t := .pure) (v := v2) (show RV X.K X.mg H0 H1 φ1 _ _ .pure v2 u2 from r2) rfl j
      have A3 := A2.put (t := .pure) (v := v3) (show RV X.K X.mg H0 H1 φ1 _ _ .pure v3 u3 from r3) rfl l
      exact ⟨u1, u2, u3, rfl, post _ H1 φ1 A3 l1.fz⟩
    · cases hf
  · cases hf
end
end PP
set_option Elab.async false
set_option linter.all false
set_option maxRecDepth 100000
set_option maxHeartbeats 4000000
namespace K02
open PySem L2 PySem.Spec PyProof.Rows PP
def tp (i : Nat) : Stmt := PySem.Challenge.pw_reasonhouse_k02_names_fractions_and_refu.main.body.getD i (.Pass ⟨0, 0, 0, 0⟩)

def errCs : List Str := ["InvalidNumber", "InvalidFraction", "InvalidList"]
def isi_InvalidNumber : List (Str × Bool) := [("InvalidNumber", true), ("InvalidFraction", false), ("InvalidList", false)]
def isi_InvalidList : List (Str × Bool) := [("InvalidNumber", false), ("InvalidFraction", false), ("InvalidList", true)]
def isi_InvalidFraction : List (Str × Bool) := [("InvalidNumber", false), ("InvalidFraction", true), ("InvalidList", false)]
def fs__law_alone (L : Nat → FF) : List (Str × Nat × FF) := [("sum_of", 1, L 15), ("product_of", 1, L 16)]
def b_is_whole (L : Nat → FF) : FS :=
    (fThen (fRet (fAnd (fIsi .int (fVar 0)) (fNot (fIsi .bool (fVar 0)))))
    fNil)
def b_is_signs (L : Nat → FF) : FS :=
    (fThen (fRet (fAnd (fIsi .str (fVar 0)) (fBin eqP (fLc (fiSeq (fVar 0)) (gNm 2) (fTb (fBin (inP true) (fVar 2) (fVar 1))) (fVar 2) [2]) (fLit .fresh (.list [])))))
    fNil)
def b_is_name (L : Nat → FF) : FS :=
    (fThen (fRet (fAnd (fCallF 2 (L 1) (faCons (fVar 0) (faCons (fFz (fBin addP (fC (.str "abcdefghijklmnopqrstuvwxyz")) (fC (.str "0123456789")))) faNil))) (fAnd (fChain (ltP fun i j => decide (i < j)) (ltP fun i j => decide (i ≤ j)) (fC (.int (0))) (fCall lenP (faCons (fVar 0) faNil)) (fC (.int (12)))) (fBin (inP false) (fIx (fVar 0) (fC (.int (0)))) (fC (.str "abcdefghijklmnopqrstuvwxyz"))))))
    fNil)
def b_ascends (L : Nat → FF) : FS :=
    (fThen (fRet (fBin eqP (fLc (fiRg2 (faCons (fC (.int (1))) (faCons (fCall lenP (faCons (fVar 0) faNil)) faNil))) (gNm 1) (fTb (fBin geP (fIx (fVar 0) (fBin subP (fVar 1) (fC (.int (1))))) (fIx (fVar 0) (fVar 1)))) (fVar 1) [1]) (fLit .fresh (.list []))))
    fNil)
def b_is_names (L : Nat → FF) : FS :=
    (fThen (fIfS (fOrT (fNotT (fTb (fIsi .list (fVar 0)))) (fTb (fBin neP (fLc (fiSeq (fVar 0)) (gNm 1) (fNotT (fTb (fCallF 1 (L 2) (faCons (fVar 1) faNil)))) (fVar 1) [1]) (fLit .fresh (.list []))))) (fThen (fRet (fC (.bool false)))
    fNil) fNil)
    (fThen (fRet (fCallF 1 (L 3) (faCons (fVar 0) faNil)))
    fNil))
def b_check_list (L : Nat → FF) : FS :=
    (fThen (fIfS (fNotT (fTb (fIsi .list (fVar 0)))) (fThen (fRaise "InvalidList" (faCons (fVar 0) faNil))
    fNil) fNil)
    fNil)
def b_common_of (L : Nat → FF) : FS :=
    (fThen (fPar 0 1 (fCall absP (faCons (fVar 0) faNil)) (fCall absP (faCons (fVar 1) faNil)))
    (fThen (whileLoop (fTb (fBin (ltP fun i j => decide (j < i)) (fVar 1) (fC (.int (0))))) (fThen (fPar 0 1 (fVar 1) (fBin modP (fVar 0) (fVar 1)))
    fNil) 20000)
    (fThen (fRet (fVar 0))
    fNil)))
def b_is_fraction (L : Nat → FF) : FS :=
    (fThen (fIfS (fOrT (fNotT (fTb (fIsi .tuple (fVar 0)))) (fOrT (fTb (fBin neP (fCall lenP (faCons (fVar 0) faNil)) (fC (.int (2))))) (fOrT (fNotT (fTb (fCallF 1 (L 0) (faCons (fIx (fVar 0) (fC (.int (0)))) faNil)))) (fNotT (fTb (fCallF 1 (L 0) (faCons (fIx (fVar 0) (fC (.int (1)))) faNil))))))) (fThen (fRet (fC (.bool false)))
    fNil) fNil)
    (fThen (fRet (fAnd (fBin (ltP fun i j => decide (j ≤ i)) (fIx (fVar 0) (fC (.int (1)))) (fC (.int (1)))) (fBin eqP (fCallF 2 (L 6) (faCons (fIx (fVar 0) (fC (.int (0)))) (faCons (fIx (fVar 0) (fC (.int (1)))) faNil))) (fC (.int (1))))))
    fNil))
def b_check_fraction (L : Nat → FF) : FS :=
    (fThen (fIfS (fNotT (fTb (fCallF 1 (L 7) (faCons (fVar 0) faNil)))) (fThen (fRaise "InvalidFraction" (faCons (fVar 0) faNil))
    fNil) fNil)
    fNil)
def b_lowest_of (L : Nat → FF) : FS :=
    (fThen (fSet 2 (fCallF 2 (L 6) (faCons (fVar 0) (faCons (fVar 1) faNil))))
    (fThen (fIfS (fTb (fBin (ltP fun i j => decide (i < j)) (fVar 1) (fC (.int (0))))) (fThen (fSet 2 (fBin subP (fC (.int (0))) (fVar 2)))
    fNil) fNil)
    (fThen (fRet (fSeq .tuple .pure (faCons (fBin fdivZP (fVar 0) (fVar 2)) (faCons (fBin fdivZP (fVar 1) (fVar 2)) faNil))))
    fNil)))
def b_fraction_of (L : Nat → FF) : FS :=
    (fThen (fIfS (fNotT (fTb (fCallF 1 (L 0) (faCons (fVar 0) faNil)))) (fThen (fRaise "InvalidNumber" (faCons (fVar 0) faNil))
    fNil) fNil)
    (fThen (fIfS (fOrT (fNotT (fTb (fCallF 1 (L 0) (faCons (fVar 1) faNil)))) (fTb (fBin eqP (fVar 1) (fC (.int (0)))))) (fThen (fRaise "InvalidNumber" (faCons (fVar 1) faNil))
    fNil) fNil)
    (fThen (fRet (fCallF 2 (L 9) (faCons (fVar 0) (faCons (fVar 1) faNil))))
    fNil)))
def b_plus_of (L : Nat → FF) : FS :=
    (fThen (fRet (fCallF 2 (L 9) (faCons (fFz (fBin addP (fBin mulP (fIx (fVar 0) (fC (.int (0)))) (fIx (fVar 1) (fC (.int (1))))) (fBin mulP (fIx (fVar 1) (fC (.int (0)))) (fIx (fVar 0) (fC (.int (1))))))) (faCons (fBin mulP (fIx (fVar 0) (fC (.int (1)))) (fIx (fVar 1) (fC (.int (1))))) faNil))))
    fNil)
def b_times_of (L : Nat → FF) : FS :=
    (fThen (fRet (fCallF 2 (L 9) (faCons (fBin mulP (fIx (fVar 0) (fC (.int (0)))) (fIx (fVar 1) (fC (.int (0))))) (faCons (fBin mulP (fIx (fVar 0) (fC (.int (1)))) (fIx (fVar 1) (fC (.int (1))))) faNil))))
    fNil)
def b_less_than (L : Nat → FF) : FS :=
    (fThen (fRet (fBin (ltP fun i j => decide (i < j)) (fBin mulP (fIx (fVar 0) (fC (.int (0)))) (fIx (fVar 1) (fC (.int (1))))) (fBin mulP (fIx (fVar 1) (fC (.int (0)))) (fIx (fVar 0) (fC (.int (1)))))))
    fNil)
def b_check_fractions (L : Nat → FF) : FS :=
    (fThen (fDrop (fCallF 1 (L 5) (faCons (fVar 0) faNil)))
    (fThen (fFor (fiSeq (fVar 0)) (gNm 1) (fThen (fDrop (fCallF 1 (L 8) (faCons (fVar 1) faNil)))
    fNil))
    fNil))
def b_sum_of (L : Nat → FF) : FS :=
    (fThen (fDrop (fCallF 1 (L 14) (faCons (fVar 0) faNil)))
    (fThen (fSet 1 (fLit .pure (.tuple [.int (0), .int (1)])))
    (fThen (fFor (fiSeq (fVar 0)) (gNm 2) (fThen (fSet 1 (fCallF 2 (L 11) (faCons (fVar 1) (faCons (fVar 2) faNil))))
    fNil))
    (fThen (fRet (fVar 1))
    fNil))))
def b_product_of (L : Nat → FF) : FS :=
    (fThen (fDrop (fCallF 1 (L 14) (faCons (fVar 0) faNil)))
    (fThen (fSet 1 (fLit .pure (.tuple [.int (1), .int (1)])))
    (fThen (fFor (fiSeq (fVar 0)) (gNm 2) (fThen (fSet 1 (fCallF 2 (L 12) (faCons (fVar 1) (faCons (fVar 2) faNil))))
    fNil))
    (fThen (fRet (fVar 1))
    fNil))))
def b_is_less (L : Nat → FF) : FS :=
    (fThen (fDrop (fCallF 1 (L 8) (faCons (fVar 0) faNil)))
    (fThen (fDrop (fCallF 1 (L 8) (faCons (fVar 1) faNil)))
    (fThen (fRet (fCallF 2 (L 13) (faCons (fVar 0) (faCons (fVar 1) faNil))))
    fNil)))
def b__law_hash (L : Nat → FF) : FS :=
    (fThen (fSet 2 (fBin modP (fCall intP (faCons (fBin addP (fBin addP (fBin addP (fBin mulP (fVar 0) (fC (.int (1140671)))) (fBin mulP (fBin mulP (fC (.int (27644437))) (fVar 1)) (fVar 1))) (fBin mulP (fC (.int (131))) (fVar 1))) (fC (.int (19)))) faNil)) (fC (.int (2147483629)))))
    (fThen (fSet 2 (fBin modP (fCall intP (faCons (fBin addP (fBin addP (fBin mulP (fVar 2) (fVar 2)) (fBin mulP (fC (.int (62089))) (fVar 1))) (fC (.int (32416187)))) faNil)) (fC (.int (2147483587)))))
    (fThen (fRet (fBin modP (fCall intP (faCons (fBin mulP (fVar 2) (fC (.int (48271)))) faNil)) (fC (.int (2147483647)))))
    fNil)))
def b__law_cell (L : Nat → FF) : FS :=
    (fThen (fIfS (fTb (fBin (ltP fun i j => decide (i < j)) (fVar 1) (fCall lenP (faCons (fVar 0) faNil)))) (fThen (fRet (fIx (fVar 0) (fVar 1)))
    fNil) fNil)
    (fThen (fRet (fBin modP (fCall sumP (faCons (fSl (fVar 0) foNone (foSome (fC (.int (1))))) faNil)) (fC (.int (1000003)))))
    fNil))
def b__law_generator (L : Nat → FF) : FS :=
    (fThen (fSet 2 (fCallF 2 (L 19) (faCons (fVar 0) (faCons (fVar 1) faNil))))
    (fThen (fRet (fSeq .list .fresh (faCons (fBin modP (fCall intP (faCons (fCall maxP (faCons (fBin subP (fVar 2) (fBin powP (fC (.int (10))) (fC (.int (18))))) (faCons (fC (.int (0))) faNil))) faNil)) (fBin powP (fBin powP (fC (.int (10))) (fC (.int (60)))) (fC (.int (10))))) (faCons (fBin modP (fCall intP (faCons (fVar 2) faNil)) (fC (.int (2147483647)))) (faCons (fBin mulP (fC (.int (1000))) (fVar 1)) faNil)))))
    fNil))
def b__law_random (L : Nat → FF) : FS :=
    (fThen (fIfS (fTb (fBin (ltP fun i j => decide (j < i)) (fIx (fVar 0) (fC (.int (0)))) (fC (.int (0))))) (fThen (fSet 2 (fBin modP (fCall intP (faCons (fIx (fVar 0) (fC (.int (0)))) faNil)) (fVar 1)))
    (fThen (fBoxSet 0 0 (fBin fdivP (fIx (fVar 0) (fC (.int (0)))) (fVar 1)))
    (fThen (fRet (fVar 2))
    fNil))) fNil)
    (fThen (fSet 2 (fC (.int (0))))
    (fThen (fFor (fiRg1 (faCons (fFz (fBin addP (fC (.int (1))) (fBin fdivP (fBits (fVar 1)) (fC (.int (30)))))) faNil)) (gNm 3) (fThen (fBoxSet 0 2 (fFz (fBin addP (fIx (fVar 0) (fC (.int (2)))) (fC (.int (1))))))
    (fThen (fSet 2 (fFz (fBin addP (fBin mulP (fVar 2) (fC (.int (2147483587)))) (fCallF 2 (L 18) (faCons (fIx (fVar 0) (fC (.int (1)))) (faCons (fIx (fVar 0) (fC (.int (2)))) faNil))))))
    fNil)))
    (fThen (fRet (fBin modP (fCall intP (faCons (fVar 2) faNil)) (fVar 1)))
    fNil))))
def b__law_pick (L : Nat → FF) : FS :=
    (fThen (fRet (fIx (fVar 1) (fCallF 2 (L 21) (faCons (fVar 0) (faCons (fCall lenP (faCons (fVar 1) faNil)) faNil)))))
    fNil)
def b__law_copied (L : Nat → FF) : FS :=
    (fThen (fIfS (fTb (fIsi .list (fVar 0))) (fThen (fRet (fFz (fLc (fiSeq (fVar 0)) (gNm 1) fYes (fCallF 1 (L 23) (faCons (fVar 1) faNil)) [1])))
    fNil) fNil)
    (fThen (fIfS (fTb (fIsi .tuple (fVar 0))) (fThen (fRet (fCall tupleP (faCons (fLc (fiSeq (fVar 0)) (gNm 1) fYes (fCallF 1 (L 23) (faCons (fVar 1) faNil)) [1]) faNil)))
    fNil) fNil)
    (fThen (fRet (fFz (fIf (fTb (fIsi .dict (fVar 0))) (fCall dictP (faCons (fLc (fiSeq (fVar 0)) (gNm 2) fYes (fSeq .tuple .pure (faCons (fVar 2) (faCons (fCallF 1 (L 23) (faCons (fDget (fVar 0) (fVar 2)) faNil)) faNil))) [2]) faNil)) (fVar 0))))
    fNil)))
def b__law_exact (L : Nat → FF) : FS :=
    (fThen (fIfS (fTb (fIsi .dict (fVar 1))) (fThen (fRet (fAnd (fIsi .dict (fVar 0)) (fAnd (fBin eqP (fCall lenP (faCons (fVar 0) faNil)) (fCall lenP (faCons (fVar 1) faNil))) (fBin eqP (fLc (fiSeq (fVar 1)) (gNm 2) (fOrT (fTb (fDin true (fVar 2) (fVar 0))) (fNotT (fTb (fCallF 2 (L 24) (faCons (fDget (fVar 0) (fVar 2)) (faCons (fDget (fVar 1) (fVar 2)) faNil)))))) (fVar 2) [2]) (fLit .fresh (.list []))))))
    fNil) fNil)
    (fThen (fIfS (fTb (fIsi .list (fVar 1))) (fThen (fRet (fAnd (fIsi .list (fVar 0)) (fAnd (fBin eqP (fCall lenP (faCons (fVar 0) faNil)) (fCall lenP (faCons (fVar 1) faNil))) (fBin (inP true) (fC (.bool false)) (fLc (fiZip (faCons (fVar 0) (faCons (fVar 1) faNil))) (gTp 2 (gsCons (gNm 3) (gsCons (gNm 4) gsNil))) fYes (fCallF 2 (L 24) (faCons (fVar 3) (faCons (fVar 4) faNil))) [3, 4])))))
    fNil) fNil)
    (fThen (fIfS (fTb (fIsi .tuple (fVar 1))) (fThen (fRet (fAnd (fIsi .tuple (fVar 0)) (fAnd (fBin eqP (fCall lenP (faCons (fVar 0) faNil)) (fCall lenP (faCons (fVar 1) faNil))) (fBin (inP true) (fC (.bool false)) (fLc (fiZip (faCons (fVar 0) (faCons (fVar 1) faNil))) (gTp 2 (gsCons (gNm 3) (gsCons (gNm 4) gsNil))) fYes (fCallF 2 (L 24) (faCons (fVar 3) (faCons (fVar 4) faNil))) [3, 4])))))
    fNil) fNil)
    (fThen (fIfS (fTb (fIsN false (fVar 1))) (fThen (fRet (fIsN false (fVar 0)))
    fNil) fNil)
    (fThen (fIfS (fTb (fIsB false true (fVar 1))) (fThen (fRet (fIsB false true (fVar 0)))
    fNil) fNil)
    (fThen (fIfS (fTb (fIsB false false (fVar 1))) (fThen (fRet (fIsB false false (fVar 0)))
    fNil) fNil)
    (fThen (fIfS (fTb (fIsi .int (fVar 1))) (fThen (fRet (fAnd (fIsi .int (fVar 0)) (fAnd (fNot (fIsi .bool (fVar 0))) (fBin eqP (fVar 0) (fVar 1)))))
    fNil) fNil)
    (fThen (fRet (fAnd (fIsi .str (fVar 0)) (fBin eqP (fVar 0) (fVar 1))))
    fNil))))))))
def b__law_unlike (L : Nat → FF) : FS :=
    (fThen (fSet 1 (fLit .fresh (.list [])))
    (fThen (fFor (fiSeq (fFz (fCall sortP (faCons (fVar 0) faNil)))) (gNm 2) (fThen (fIfS (fTb (fBin (inP true) (fVar 2) (fVar 1))) (fThen (fApp 1 (faCons (fVar 2) faNil))
    fNil) fNil)
    fNil))
    (fThen (fRet (fVar 1))
    fNil)))
def b__law_low (L : Nat → FF) : FS :=
    (fThen (fPar 2 3 (fCall absP (faCons (fVar 0) faNil)) (fVar 1))
    (fThen (fFor (fiRg1 (faCons (fFz (fBin addP (fBin mulP (fCall lenP (faCons (fCall strZP (faCons (fVar 1) faNil)) faNil)) (fC (.int (5)))) (fC (.int (1))))) faNil)) (gNm 4) (fThen (fAsg (fIf (fTb (fBin (ltP fun i j => decide (j < i)) (fVar 3) (fC (.int (0))))) (fSeq .tuple .pure (faCons (fVar 3) (faCons (fBin modP (fVar 2) (fVar 3)) faNil))) (fSeq .tuple .pure (faCons (fVar 2) (faCons (fC (.int (0))) faNil)))) (gTp 2 (gsCons (gNm 2) (gsCons (gNm 3) gsNil))))
    fNil))
    (fThen (fRet (fSeq .tuple .pure (faCons (fBin fdivP (fVar 0) (fVar 2)) (faCons (fBin fdivP (fVar 1) (fVar 2)) faNil))))
    fNil)))
def b__law_any (L : Nat → FF) : FS :=
    (fThen (fSet 1 (fFz (fSeq .list .fresh (faCons (fC .none) (faCons (fC (.bool true)) (faCons (fC (.bool false)) (faCons (fC (.int (0))) (faCons (fC (.int (1))) (faCons (fLit .pure (.int (-1))) (faCons (fBin powP (fC (.int (10))) (fC (.int (11)))) (faCons (fC (.str "")) (faCons (fC (.str "a")) (faCons (fC (.str "A")) (faCons (fC (.str "ab")) (faCons (fC (.str "a b")) (faCons (fC (.str "1a")) (faCons (fC (.str "a1")) (faCons (fC (.str " ")) (faCons (fC (.str "a\n")) (faCons (fBin mulSP (fC (.str "z")) (fC (.int (20)))) (faCons (fBin mulSP (fC (.str "z")) (fC (.int (21)))) (faCons (fC (.str "abcdefgh")) (faCons (fC (.str "abcdefghi")) faNil)))))))))))))))))))))))
    (fThen (fSet 1 (fFz (fBin addP (fVar 1) (fLit .fresh (.list [.list [], .tuple [], .dict [], .list [.int (0)], .list [.int (1), .int (0)], .list [.int (0), .str "a"], .list [.str "a", .int (0)], .list [.none, .int (0)], .list [.int (0), .list [.int (1)]], .list [.int (0), .tuple [.int (1)]], .list [.bool true], .list [.int (0), .int (1)], .list [.int (0), .int (0)], .tuple [.int (0), .int (1)], .list [.str "a"], .list [.list []]])))))
    (fThen (fSet 1 (fFz (fBin addP (fVar 1) (fSeq .list .fresh (faCons (fFz (fDisp ["a"] (faCons (fC (.int (1))) faNil))) (faCons (fFz (fSeq .list .fresh (faCons (fC (.int (1))) (faCons (fC (.int (2))) (faCons (fBin powP (fC (.int (10))) (fC (.int (11)))) faNil))))) (faCons (fFz (fLit .fresh (.list [.int (-1)]))) (faCons (fC (.str "a_b")) (faCons (fC (.str "aB")) (faCons (fBin mulSP (fC (.str "a")) (fC (.int (200)))) (faCons (fC (.str "e0")) (faCons (fC (.str "0")) (faCons (fC (.str "house")) (faCons (fLit .pure (.tuple [.str "house"])) faNil))))))))))))))
    (fThen (fRet (fCallF 1 (L 23) (faCons (fCallF 2 (L 22) (faCons (fVar 0) (faCons (fVar 1) faNil))) faNil)))
    fNil))))
def b__law_big (L : Nat → FF) : FS :=
    (fThen (fSet 1 (fCallF 2 (L 22) (faCons (fVar 0) (faCons (fFz (fSeq .list .fresh (faCons (fC (.int (3))) (faCons (fC (.int (12))) (faCons (fC (.int (1000))) (faCons (fBin powP (fC (.int (10))) (fC (.int (10)))) (faCons (fBin powP (fC (.int (10))) (fC (.int (10)))) faNil))))))) faNil))))
    (fThen (fRet (fBin mulP (fCallF 2 (L 21) (faCons (fVar 0) (faCons (fVar 1) faNil))) (fCallF 2 (L 22) (faCons (fVar 0) (faCons (fFz (fSeq .list .fresh (faCons (fC (.int (1))) (faCons (fC (.int (1))) (faCons (fBin subP (fC (.int (0))) (fC (.int (1)))) faNil))))) faNil)))))
    fNil))
def b__law_name (L : Nat → FF) : FS :=
    (fThen (fIfS (fOrT (fNotT (fTb (fIsi .str (fVar 0)))) (fOrT (fTb (fBin (ltP fun i j => decide (j < i)) (fCall lenP (faCons (fVar 0) faNil)) (fC (.int (12))))) (fTb (fBin (inP true) (fSl (fVar 0) foNone (foSome (fC (.int (1))))) (fCall listSP (faCons (fC (.str "abcdefghijklmnopqrstuvwxyz")) faNil)))))) (fThen (fRet (fC (.bool false)))
    fNil) fNil)
    (fThen (fRet (fBin eqP (fLc (fiSeq (fVar 0)) (gNm 1) (fTb (fBin (inP true) (fVar 1) (fC (.str "abcdefghijklmnopqrstuvwxyz0123456789")))) (fVar 1) [1]) (fLit .fresh (.list []))))
    fNil))
def b__law_rise (L : Nat → FF) : FS :=
    (fThen (fRet (fBin eqP (fLc (fiRg2 (faCons (fC (.int (1))) (faCons (fCall lenP (faCons (fVar 0) faNil)) faNil))) (gNm 1) (fTb (fBin geP (fIx (fVar 0) (fBin subP (fVar 1) (fC (.int (1))))) (fIx (fVar 0) (fVar 1)))) (fVar 1) [1]) (fLit .fresh (.list []))))
    fNil)
def b__law_string (L : Nat → FF) : FS :=
    (fThen (fSet 1 (fCallF 2 (L 22) (faCons (fVar 0) (faCons (fFz (fLit .fresh (.list [.str "ab", .str "abcdefghijklmnopqrstuvwxyz", .str "a0123456789", .str "aZ_ -~", .str "a0\n\t"]))) faNil))))
    (fThen (fRet (fJoin (fC (.str "")) (fLc (fiRg1 (faCons (fCallF 2 (L 21) (faCons (fVar 0) (faCons (fC (.int (24))) faNil))) faNil)) (gNm 2) fYes (fCallF 2 (L 22) (faCons (fVar 0) (faCons (fVar 1) faNil))) [2])))
    fNil))
def b__law_numbers (L : Nat → FF) : FS :=
    (fThen (fRet (fFz (fLc (fiRg1 (faCons (fCallF 2 (L 21) (faCons (fVar 0) (faCons (fC (.int (6))) faNil))) faNil)) (gNm 1) fYes (fBin subP (fCallF 2 (L 21) (faCons (fVar 0) (faCons (fCallF 2 (L 22) (faCons (fVar 0) (faCons (fFz (fSeq .list .fresh (faCons (fC (.int (3))) (faCons (fC (.int (9))) (faCons (fBin powP (fC (.int (10))) (fC (.int (11)))) faNil))))) faNil))) faNil))) (fCallF 2 (L 21) (faCons (fVar 0) (faCons (fC (.int (2))) faNil)))) [1])))
    fNil)
def b__law_judged (L : Nat → FF) : FS :=
    (fThen (fSet 1 (fCall repr2P (faCons (fVar 0) faNil)))
    (fThen (fSet 2 (fAnd (fIsi .list (fVar 0)) (fBin eqP (fLc (fiSeq (fVar 0)) (gNm 6) (fNotT (fTb (fCallF 1 (L 29) (faCons (fVar 6) faNil)))) (fVar 6) [6]) (fLit .fresh (.list [])))))
    (fThen (fSet 3 (fFz (fSeq .list .fresh (faCons (fCallF 1 (L 29) (faCons (fVar 0) faNil)) (faCons (fAnd (fVar 2) (fCallF 1 (L 30) (faCons (fVar 0) faNil))) faNil)))))
    (fThen (fSet 4 (fFz (fSeq .list .fresh (faCons (fCallF 1 (L 2) (faCons (fVar 0) faNil)) (faCons (fCallF 1 (L 4) (faCons (fVar 0) faNil)) faNil)))))
    (fThen (fSet 5 (fFz (fSeq .list .fresh (faCons (fCallK [0] 1 1 (L 2) (faCons (fVar 0) faNil)) (faCons (fCallK [0] 1 1 (L 4) (faCons (fVar 0) faNil)) faNil)))))
    (fThen (fRet (fAnd (fCallF 2 (L 24) (faCons (fVar 4) (faCons (fVar 3) faNil))) (fAnd (fCallF 2 (L 24) (faCons (fVar 5) (faCons (fVar 3) faNil))) (fBin eqP (fCall repr2P (faCons (fVar 0) faNil)) (fVar 1)))))
    fNil))))))
def b__law_names_right (L : Nat → FF) : FS :=
    (fThen (fFor (fiRg1 (faCons (fC (.int (3))) faNil)) (gNm 1) (fThen (fSetBox 2 (fCallF 2 (L 20) (faCons (fVar 0) (faCons (fVar 1) faNil))))
    (fThen (fFor (fiRg1 (faCons (fC (.int (12))) faNil)) (gNm 3) (fThen (fSet 4 (fCallF 1 (L 32) (faCons (fVar 2) faNil)))
    (fThen (fSet 5 (fFz (fLit .fresh (.list [.str "a", .str "b", .str "ab", .str "a1", .str "z", .str "abcdefghijkl", .str "abcdefghijklm", .str "A", .str "", .str "1a", .int (1), .none, .str "arm", .str "old", .str "a b", .str "aB", .str "a_b", .str "a\n", .str "a1b", .str "z0z0z0z0"]))))
    (fThen (fLock 6 (fSet 6 (fLc (fiRg1 (faCons (fCallF 2 (L 21) (faCons (fVar 2) (faCons (fC (.int (5))) faNil))) faNil)) (gNm 12) fYes (fCallF 2 (L 22) (faCons (fVar 2) (faCons (fVar 5) faNil))) [12])))
    (fThen (fLock 7 (fSet 7 (fLc (fiSeq (fVar 6)) (gNm 13) (fAndT (fTb (fIsi .str (fVar 13))) (fTb (fCallF 1 (L 29) (faCons (fVar 13) faNil)))) (fVar 13) [13])))
    (fThen (fSet 8 (fFz (fSeq .list .fresh (faCons (fVar 6) (faCons (fVar 7) (faCons (fFz (fCall sortP (faCons (fVar 7) faNil))) (faCons (fFz (fCallF 1 (L 25) (faCons (fVar 7) faNil))) (faCons (fCall tupleP (faCons (fCallF 1 (L 25) (faCons (fVar 7) faNil)) faNil)) (faCons (fFz (fSl (fCallF 1 (L 25) (faCons (fVar 7) faNil)) foNone (foSome (fC (.int (1)))))) (faCons (fFz (fRev (fCallF 1 (L 25) (faCons (fVar 7) faNil)))) faNil))))))))))
    (fThen (fFor (fiSeq (fFz (fBin addP (fSeq .list .fresh (faCons (fCallF 1 (L 27) (faCons (fVar 2) faNil)) (faCons (fCallF 1 (L 31) (faCons (fVar 2) faNil)) (faCons (fVar 4) (faCons (fFz (fCall sortP (faCons (fVar 4) faNil))) (faCons (fFz (fCallF 1 (L 25) (faCons (fVar 4) faNil))) (faCons (fCall tupleP (faCons (fCallF 1 (L 25) (faCons (fVar 4) faNil)) faNil)) faNil))))))) (fVar 8)))) (gNm 9) (fThen (fIfS (fNotT (fTb (fCallF 1 (L 33) (faCons (fVar 9) faNil)))) (fThen (fRet (fC (.bool false)))
    fNil) fNil)
    fNil))
    fNil)))))))
    fNil)))
    (fThen (fLock 10 (fSet 10 (fLc (fiRg1 (faCons (fC (.int (60))) faNil)) (gNm 12) fYes (fFz (fBin addP (fC (.str "n")) (fCall strZP (faCons (fBin addP (fC (.int (10))) (fVar 12)) faNil)))) [12])))
    (fThen (fLock 11 (fSet 11 (fLc (fiSeq (fFz (fSeq .list .fresh (faCons (fVar 10) (faCons (fFz (fBin addP (fSl (fVar 10) foNone (foSome (fC (.int (58))))) (fSeq .list .fresh (faCons (fIx (fVar 10) (fC (.int (59)))) (faCons (fIx (fVar 10) (fC (.int (58)))) faNil))))) (faCons (fFz (fBin addP (fSl (fVar 10) foNone (foSome (fC (.int (59))))) (fSeq .list .fresh (faCons (fIx (fVar 10) (fC (.int (58)))) faNil)))) (faCons (fFz (fBin addP (fVar 10) (fLit .fresh (.list [.str "A"])))) faNil))))))) (gNm 9) fYes (fCallF 1 (L 33) (faCons (fVar 9) faNil)) [9])))
    (fThen (fSet 11 (fFz (fBin addP (fVar 11) (fLc (fiSeq (fFz (fSeq .list .fresh (faCons (fFz (fLit .fresh (.list [.int (0), .str "a"]))) (faCons (fFz (fLit .fresh (.list [.str "a", .int (0)]))) (faCons (fFz (fLit .fresh (.list [.none, .int (0)]))) (faCons (fFz (fLit .fresh (.list [.int (0), .list [.int (1)]]))) (faCons (fC (.int (0))) (faCons (fBin powP (fC (.int (10))) (fC (.int (11)))) (faCons (fC (.bool true)) (faCons (fLit .pure (.int (-1))) (faCons (fBin mulSP (fC (.str "a")) (fC (.int (12)))) (faCons (fBin mulSP (fC (.str "a")) (fC (.int (13)))) (faCons (fC (.str "a0")) (faCons (fC (.str "0a")) (faCons (fFz (fLit .fresh (.list []))) (faCons (fFz (fLit .fresh (.list [.int (0)]))) (faCons (fFz (fSeq .list .fresh (faCons (fC (.int (0))) (faCons (fBin powP (fC (.int (10))) (fC (.int (11)))) faNil)))) (faCons (fFz (fLit .fresh (.list [.bool true]))) (faCons (fFz (fLit .fresh (.list [.int (1), .int (1)]))) (faCons (fFz (fLit .fresh (.list [.int (2), .int (1)]))) faNil))))))))))))))))))))) (gNm 9) fYes (fCallF 1 (L 33) (faCons (fVar 9) faNil)) [9]))))
    (fThen (fRet (fBin (inP true) (fC (.bool false)) (fVar 11)))
    fNil)))))
def b__law_drawn_pair (L : Nat → FF) : FS :=
    (fThen (fSet 1 (fCallF 1 (L 28) (faCons (fVar 0) faNil)))
    (fThen (fRet (fSeq .tuple .pure (faCons (fCallF 1 (L 28) (faCons (fVar 0) faNil)) (faCons (fIf (fTb (fBin eqP (fVar 1) (fC (.int (0))))) (fC (.int (1))) (fVar 1)) faNil))))
    fNil))
def b__law_fraction (L : Nat → FF) : FS :=
    (fThen (fIfS (fTb (fBin (ltP fun i j => decide (i < j)) (fVar 1) (fC (.int (0))))) (fThen (fPar 0 1 (fBin subP (fC (.int (0))) (fVar 0)) (fBin subP (fC (.int (0))) (fVar 1)))
    fNil) fNil)
    (fThen (fSet 2 (fCallF 2 (L 26) (faCons (fVar 0) (faCons (fVar 1) faNil))))
    (fThen (fRet (fIf (fTb (fBin (ltP fun i j => decide (j < i)) (fIx (fVar 2) (fC (.int (1)))) (fC (.int (0))))) (fVar 2) (fLit .pure (.tuple [.int (0), .int (1)]))))
    fNil)))
def b__law_is_fraction (L : Nat → FF) : FS :=
    (fThen (fIfS (fOrT (fNotT (fTb (fIsi .tuple (fVar 0)))) (fOrT (fTb (fBin neP (fCall lenP (faCons (fVar 0) faNil)) (fC (.int (2))))) (fTb (fBin neP (fLc (fiSeq (fVar 0)) (gNm 1) (fOrT (fTb (fIsi .bool (fVar 1))) (fNotT (fTb (fIsi .int (fVar 1))))) (fVar 1) [1]) (fLit .fresh (.list [])))))) (fThen (fRet (fC (.bool false)))
    fNil) fNil)
    (fThen (fRet (fAnd (fBin (ltP fun i j => decide (j < i)) (fIx (fVar 0) (fC (.int (1)))) (fC (.int (0)))) (fBin eqP (fCallF 2 (L 36) (faCons (fIx (fVar 0) (fC (.int (0)))) (faCons (fIx (fVar 0) (fC (.int (1)))) faNil))) (fVar 0))))
    fNil))
def b__law_made_right (L : Nat → FF) : FS :=
    (fThen (fAsg (fCallF 1 (L 35) (faCons (fVar 0) faNil)) (gTp 2 (gsCons (gNm 1) (gsCons (gNm 2) gsNil))))
    (fThen (fSet 3 (fFz (fBin addP (fC (.int (1))) (fCallF 2 (L 21) (faCons (fVar 0) (faCons (fC (.int (9))) faNil))))))
    (fThen (fSet 4 (fCallF 2 (L 36) (faCons (fVar 1) (faCons (fVar 2) faNil))))
    (fThen (fSet 5 (fFz (fSeq .list .fresh (faCons (fCallF 2 (L 10) (faCons (fVar 1) (faCons (fVar 2) faNil))) (faCons (fCallK [1, 0] 2 2 (L 10) (faCons (fBin mulP (fVar 2) (fVar 3)) (faCons (fBin mulP (fVar 1) (fVar 3)) faNil))) (faCons (fCallF 2 (L 10) (faCons (fBin subP (fC (.int (0))) (fVar 1)) (faCons (fBin subP (fC (.int (0))) (fVar 2)) faNil))) faNil))))))
    (fThen (fIfS (fNotT (fTb (fCallF 2 (L 24) (faCons (fVar 5) (faCons (fFz (fSeq .list .fresh (faCons (fVar 4) (faCons (fVar 4) (faCons (fVar 4) faNil))))) faNil))))) (fThen (fRet (fC (.bool false)))
    fNil) fNil)
    (fThen (fSet 6 (fFz (fSeq .list .fresh (faCons (fVar 4) (faCons (fFz (fCall listP (faCons (fVar 4) faNil))) (faCons (fFz (fBin addP (fVar 4) (fLit .pure (.tuple [.int (1)])))) (faCons (fFz (fSl (fVar 4) foNone (foSome (fC (.int (1)))))) (faCons (fSeq .tuple .pure (faCons (fVar 1) (faCons (fVar 2) faNil))) (faCons (fSeq .tuple .pure (faCons (fBin mulP (fVar 1) (fVar 3)) (faCons (fBin mulP (fVar 2) (fVar 3)) faNil))) (faCons (fSeq .tuple .pure (faCons (fIx (fVar 4) (fC (.int (0)))) (faCons (fBin subP (fC (.int (0))) (fIx (fVar 4) (fC (.int (1))))) faNil))) faNil))))))))))
    (fThen (fSet 6 (fFz (fBin addP (fVar 6) (fSeq .list .fresh (faCons (fSeq .tuple .pure (faCons (fIx (fVar 4) (fC (.int (0)))) (faCons (fC (.int (0))) faNil))) (faCons (fLit .pure (.tuple [.bool true, .int (2)])) (faCons (fLit .pure (.tuple [.int (1), .bool true])) (faCons (fLit .pure (.tuple [.str "1", .int (2)])) (faCons (fC .none) (faCons (fVar 1) (faCons (fLit .pure (.tuple [.int (0), .int (1)])) (faCons (fLit .pure (.tuple [.int (0), .int (2)])) (faCons (fCallF 1 (L 27) (faCons (fVar 0) faNil)) faNil)))))))))))))
    (fThen (fSet 6 (fFz (fBin addP (fVar 6) (fLit .fresh (.list [.tuple [.int (0), .bool true], .tuple [.bool false, .int (1)], .tuple [.bool false, .bool true], .tuple [.int (1), .none], .tuple [.int (1), .str "2"], .tuple [.int (1), .tuple [.int (1)]]])))))
    (fThen (fFor (fiSeq (fVar 6)) (gNm 7) (fThen (fSet 8 (fCall repr2P (faCons (fVar 7) faNil)))
    (fThen (fIfS (fOrT (fNotT (fTb (fCallF 2 (L 24) (faCons (fFz (fSeq .list .fresh (faCons (fCallF 1 (L 7) (faCons (fVar 7) faNil)) (faCons (fCallK [0] 1 1 (L 7) (faCons (fVar 7) faNil)) faNil)))) (faCons (fFz (fRep (fSeq .list .fresh (faCons (fCallF 1 (L 37) (faCons (fVar 7) faNil)) faNil)) (fC (.int (2))))) faNil))))) (fTb (fBin neP (fCall repr2P (faCons (fVar 7) faNil)) (fVar 8)))) (fThen (fRet (fC (.bool false)))
    fNil) fNil)
    fNil)))
    (fThen (fRet (fC (.bool true)))
    fNil))))))))))
def b__law_sums_right (L : Nat → FF) : FS :=
    (fThen (fLock 1 (fSet 1 (fLc (fiSeq (fFz (fLc (fiRg1 (faCons (fCallF 2 (L 21) (faCons (fVar 0) (faCons (fC (.int (6))) faNil))) faNil)) (gNm 10) fYes (fCallF 1 (L 35) (faCons (fVar 0) faNil)) [10]))) (gNm 8) fYes (fCallF 2 (L 36) (faCons (fIx (fVar 8) (fC (.int (0)))) (faCons (fIx (fVar 8) (fC (.int (1)))) faNil))) [8])))
    (fThen (fPar3 2 3 4 (faCons (fCall repr2P (faCons (fVar 1) faNil)) (faCons (fLit .pure (.tuple [.int (0), .int (1)])) (faCons (fLit .pure (.tuple [.int (1), .int (1)])) faNil))))
    (fThen (fFor (fiSeq (fVar 1)) (gNm 5) (fThen (fSet 3 (fCallF 2 (L 36) (faCons (fFz (fBin addP (fBin mulP (fIx (fVar 3) (fC (.int (0)))) (fIx (fVar 5) (fC (.int (1))))) (fBin mulP (fIx (fVar 5) (fC (.int (0)))) (fIx (fVar 3) (fC (.int (1))))))) (faCons (fBin mulP (fIx (fVar 3) (fC (.int (1)))) (fIx (fVar 5) (fC (.int (1))))) faNil))))
    (fThen (fSet 4 (fCallF 2 (L 36) (faCons (fBin mulP (fIx (fVar 4) (fC (.int (0)))) (fIx (fVar 5) (fC (.int (0))))) (faCons (fBin mulP (fIx (fVar 4) (fC (.int (1)))) (fIx (fVar 5) (fC (.int (1))))) faNil))))
    fNil)))
    (fThen (fIfS (fNotT (fTb (fCallF 2 (L 24) (faCons (fFz (fSeq .list .fresh (faCons (fCallF 1 (L 15) (faCons (fVar 1) faNil)) (faCons (fCallK [0] 1 1 (L 15) (faCons (fVar 1) faNil)) (faCons (fCallF 1 (L 16) (faCons (fVar 1) faNil)) (faCons (fCallK [0] 1 1 (L 16) (faCons (fVar 1) faNil)) faNil)))))) (faCons (fFz (fSeq .list .fresh (faCons (fVar 3) (faCons (fVar 3) (faCons (fVar 4) (faCons (fVar 4) faNil)))))) faNil))))) (fThen (fRet (fC (.bool false)))
    fNil) fNil)
    (fThen (fSet 1 (fFz (fBin addP (fVar 1) (fSeq .list .fresh (faCons (fLit .pure (.tuple [.int (1), .int (3)])) (faCons (fLit .pure (.tuple [.int (1), .int (2)])) (faCons (fSeq .tuple .pure (faCons (fBin subP (fC (.int (0))) (fC (.int (1)))) (faCons (fC (.int (2))) faNil))) (faCons (fLit .pure (.tuple [.int (0), .int (1)])) faNil))))))))
    (fThen (fPar 6 7 (fCallF 2 (L 22) (faCons (fVar 0) (faCons (fVar 1) faNil))) (fCallF 2 (L 22) (faCons (fVar 0) (faCons (fVar 1) faNil))))
    (fThen (fFor (fiSeq (fFz (fSeq .list .fresh (faCons (fSeq .tuple .pure (faCons (fVar 6) (faCons (fVar 7) faNil))) (faCons (fSeq .tuple .pure (faCons (fVar 7) (faCons (fVar 6) faNil))) (faCons (fSeq .tuple .pure (faCons (fVar 6) (faCons (fVar 6) faNil))) faNil)))))) (gNm 8) (fThen (fSet 9 (fBin (ltP fun i j => decide (i < j)) (fBin mulP (fIx (fIx (fVar 8) (fC (.int (0)))) (fC (.int (0)))) (fIx (fIx (fVar 8) (fC (.int (1)))) (fC (.int (1))))) (fBin mulP (fIx (fIx (fVar 8) (fC (.int (1)))) (fC (.int (0)))) (fIx (fIx (fVar 8) (fC (.int (0)))) (fC (.int (1)))))))
    (fThen (fIfS (fNotT (fTb (fCallF 2 (L 24) (faCons (fFz (fSeq .list .fresh (faCons (fCallF 2 (L 17) (faCons (fIx (fVar 8) (fC (.int (0)))) (faCons (fIx (fVar 8) (fC (.int (1)))) faNil))) (faCons (fCallK [1, 0] 2 2 (L 17) (faCons (fIx (fVar 8) (fC (.int (1)))) (faCons (fIx (fVar 8) (fC (.int (0)))) faNil))) faNil)))) (faCons (fFz (fSeq .list .fresh (faCons (fVar 9) (faCons (fVar 9) faNil)))) faNil))))) (fThen (fRet (fC (.bool false)))
    fNil) fNil)
    fNil)))
    (fThen (fRet (fBin eqP (fVar 2) (fCall repr2P (faCons (fSl (fVar 1) foNone (foSome (fBin subP (fC (.int (0))) (fC (.int (4)))))) faNil))))
    fNil))))))))
def b__law_long_right (L : Nat → FF) : FS :=
    (fThen (fLock 1 (fSet 1 (fLc (fiSeq (fFz (fLc (fiRg1 (faCons (fC (.int (60))) faNil)) (gNm 9) fYes (fCallF 1 (L 35) (faCons (fVar 0) faNil)) [9]))) (gNm 8) fYes (fCallF 2 (L 36) (faCons (fIx (fVar 8) (fC (.int (0)))) (faCons (fIx (fVar 8) (fC (.int (1)))) faNil))) [8])))
    (fThen (fAsg (fLit .pure (.tuple [.tuple [.int (0), .int (1)], .tuple [.int (1), .int (1)]])) (gTp 2 (gsCons (gNm 2) (gsCons (gNm 3) gsNil))))
    (fThen (fFor (fiSeq (fVar 1)) (gNm 4) (fThen (fSet 2 (fCallF 2 (L 36) (faCons (fFz (fBin addP (fBin mulP (fIx (fVar 2) (fC (.int (0)))) (fIx (fVar 4) (fC (.int (1))))) (fBin mulP (fIx (fVar 4) (fC (.int (0)))) (fIx (fVar 2) (fC (.int (1))))))) (faCons (fBin mulP (fIx (fVar 2) (fC (.int (1)))) (fIx (fVar 4) (fC (.int (1))))) faNil))))
    (fThen (fSet 3 (fCallF 2 (L 36) (faCons (fBin mulP (fIx (fVar 3) (fC (.int (0)))) (fIx (fVar 4) (fC (.int (0))))) (faCons (fBin mulP (fIx (fVar 3) (fC (.int (1)))) (fIx (fVar 4) (fC (.int (1))))) faNil))))
    fNil)))
    (fThen (fPar 5 6 (fCall repr2P (faCons (fVar 1) faNil)) (fCallF 1 (L 15) (faCons (fVar 1) faNil)))
    (fThen (fIfS (fOrT (fTb (fBin neP (fCall repr2P (faCons (fVar 1) faNil)) (fVar 5))) (fNotT (fTb (fCallF 2 (L 24) (faCons (fFz (fSeq .list .fresh (faCons (fVar 6) (faCons (fCallF 1 (L 16) (faCons (fVar 1) faNil)) (faCons (fCallF 1 (L 7) (faCons (fVar 2) faNil)) (faCons (fCallF 1 (L 7) (faCons (fVar 3) faNil)) faNil)))))) (faCons (fFz (fSeq .list .fresh (faCons (fVar 2) (faCons (fVar 3) (faCons (fC (.bool true)) (faCons (fC (.bool true)) faNil)))))) faNil)))))) (fThen (fRet (fC (.bool false)))
    fNil) fNil)
    (fThen (fIfS (fTb (fBin neP (fCall repr2P (faCons (fVar 1) faNil)) (fVar 5))) (fThen (fRet (fC (.bool false)))
    fNil) fNil)
    (fThen (fSet 7 (fCallF 2 (L 36) (faCons (fFz (fBin addP (fBin mulP (fIx (fVar 2) (fC (.int (0)))) (fIx (fVar 3) (fC (.int (1))))) (fBin mulP (fIx (fVar 3) (fC (.int (0)))) (fIx (fVar 2) (fC (.int (1))))))) (faCons (fBin mulP (fIx (fVar 2) (fC (.int (1)))) (fIx (fVar 3) (fC (.int (1))))) faNil))))
    (fThen (fRet (fCallF 2 (L 24) (faCons (fFz (fSeq .list .fresh (faCons (fCallF 2 (L 17) (faCons (fVar 2) (faCons (fVar 3) faNil))) (faCons (fCallF 1 (L 15) (faCons (fFz (fSeq .list .fresh (faCons (fVar 2) (faCons (fVar 3) faNil)))) faNil)) faNil)))) (faCons (fFz (fSeq .list .fresh (faCons (fBin (ltP fun i j => decide (i < j)) (fBin mulP (fIx (fVar 2) (fC (.int (0)))) (fIx (fVar 3) (fC (.int (1))))) (fBin mulP (fIx (fVar 3) (fC (.int (0)))) (fIx (fVar 2) (fC (.int (1)))))) (faCons (fVar 7) faNil)))) faNil))))
    fNil))))))))
def b__law_fractions_right (L : Nat → FF) : FS :=
    (fThen (fFor (fiRg1 (faCons (fC (.int (3))) faNil)) (gNm 1) (fThen (fSetBox 2 (fCallF 2 (L 20) (faCons (fVar 0) (faCons (fVar 1) faNil))))
    (fThen (fFor (fiRg1 (faCons (fC (.int (5))) faNil)) (gNm 3) (fThen (fIfS (fOrT (fNotT (fTb (fCallF 1 (L 38) (faCons (fVar 2) faNil)))) (fNotT (fTb (fCallF 1 (L 39) (faCons (fVar 2) faNil))))) (fThen (fRet (fC (.bool false)))
    fNil) fNil)
    fNil))
    (fThen (fIfS (fNotT (fTb (fCallF 1 (L 40) (faCons (fVar 2) faNil)))) (fThen (fRet (fC (.bool false)))
    fNil) fNil)
    fNil))))
    (fThen (fRet (fC (.bool true)))
    fNil))
def b__law_call (L : Nat → FF) : FS :=
    (fThen (fIfS (fTb (fBin eqP (fVar 0) (fC (.int (0))))) (fThen (fRet (fCallF 2 (L 10) (faCons (fVar 1) (faCons (fC (.int (0))) faNil))))
    fNil) fNil)
    (fThen (fIfS (fTb (fBin eqP (fVar 0) (fC (.int (1))))) (fThen (fRet (fCallF 2 (L 10) (faCons (fC (.int (3))) (faCons (fVar 1) faNil))))
    fNil) fNil)
    (fThen (fIfS (fTb (fBin eqP (fVar 0) (fC (.int (2))))) (fThen (fRet (fCallF 1 (L 15) (faCons (fVar 1) faNil)))
    fNil) fNil)
    (fThen (fIfS (fTb (fBin eqP (fVar 0) (fC (.int (3))))) (fThen (fRet (fCallF 1 (L 15) (faCons (fFz (fSeq .list .fresh (faCons (fLit .pure (.tuple [.int (1), .int (2)])) (faCons (fVar 1) (faCons (fC .none) faNil))))) faNil)))
    fNil) fNil)
    (fThen (fIfS (fTb (fBin eqP (fVar 0) (fC (.int (4))))) (fThen (fRet (fCallF 1 (L 16) (faCons (fVar 1) faNil)))
    fNil) fNil)
    (fThen (fIfS (fTb (fBin eqP (fVar 0) (fC (.int (5))))) (fThen (fRet (fCallF 1 (L 16) (faCons (fFz (fSeq .list .fresh (faCons (fLit .pure (.tuple [.int (3), .int (1)])) (faCons (fLit .pure (.tuple [.int (0), .int (1)])) (faCons (fVar 1) (faCons (fLit .pure (.tuple [.int (2), .int (4)])) faNil)))))) faNil)))
    fNil) fNil)
    (fThen (fIfS (fTb (fBin eqP (fVar 0) (fC (.int (6))))) (fThen (fRet (fCallF 2 (L 17) (faCons (fVar 1) (faCons (fC .none) faNil))))
    fNil) fNil)
    (fThen (fIfS (fTb (fBin eqP (fVar 0) (fC (.int (7))))) (fThen (fRet (fCallF 2 (L 17) (faCons (fLit .pure (.tuple [.int (1), .int (2)])) (faCons (fVar 1) faNil))))
    fNil) fNil)
    (fThen (fIfS (fTb (fBin eqP (fVar 0) (fC (.int (8))))) (fThen (fRet (fCallF 2 (L 10) (faCons (fC (.int (0))) (faCons (fVar 1) faNil))))
    fNil) fNil)
    (fThen (fSet 2 (fFz (fBin addP (fBin addP (fRep (fLit .fresh (.list [.tuple [.int (1), .int (3)]])) (fIx (fVar 1) (fC (.int (1))))) (fSeq .list .fresh (faCons (fIx (fVar 1) (fC (.int (0)))) faNil))) (fRep (fLit .fresh (.list [.tuple [.int (1), .int (3)]])) (fBin subP (fC (.int (12))) (fIx (fVar 1) (fC (.int (1)))))))))
    (fThen (fRet (fIf (fTb (fBin eqP (fVar 0) (fC (.int (9))))) (fCallF 1 (L 15) (faCons (fVar 2) faNil)) (fCallF 1 (L 16) (faCons (fVar 2) faNil))))
    fNil)))))))))))
def b__law_right_call (L : Nat → FF) : FS :=
    (fThen (fIfS (fTb (fBin eqP (fVar 0) (fC (.int (0))))) (fThen (fRet (fCallF 2 (L 10) (faCons (fVar 1) (faCons (fC (.int (2))) faNil))))
    fNil) fNil)
    (fThen (fRet (fIf (fTb (fBin eqP (fVar 0) (fC (.int (6))))) (fCallF 2 (L 17) (faCons (fVar 1) (faCons (fLit .pure (.tuple [.int (1), .int (2)])) faNil))) (fCallF 2 (L 42) (faCons (fVar 0) (faCons (fVar 1) faNil)))))
    fNil))
def b__law_caught (L : Nat → FF) : FS :=
    (fThen (fSet 2 (fLit .fresh (.list [])))
    (fThen (fFor (fiSeq (fFz (fLit .fresh (.list [.int (0), .int (1)])))) (gNm 3) (fThen (fSet 4 (fC .none))
    (fThen (fKeep errCs 5 4 (fThen (fIfS (fTb (fBin eqP (fVar 3) (fC (.int (0))))) (fThen (fDrop (fCallF 2 (L 42) (faCons (fVar 0) (faCons (fVar 1) faNil))))
    fNil) (fThen (fDrop (fCallF 2 (L 43) (faCons (fVar 0) (faCons (fVar 1) faNil))))
    fNil))
    fNil))
    (fThen (fSet 6 (fFz (fSeq .list .fresh (faCons (fIsiC (isi_InvalidNumber) (fVar 4)) (faCons (fIsiC (isi_InvalidList) (fVar 4)) (faCons (fIsiC (isi_InvalidFraction) (fVar 4)) faNil))))))
    (fThen (fApp 2 (faCons (fFz (fSeq .list .fresh (faCons (fVar 6) (faCons (fIf (fTb (fIsN false (fVar 4))) (fC .none) (fCall repr2P (faCons (fErrVal errCs (fVar 4)) faNil))) faNil)))) faNil))
    fNil)))))
    (fThen (fRet (fIf (fTb (fBin eqP (fIx (fVar 2) (fC (.int (0)))) (fIx (fVar 2) (fC (.int (1)))))) (fIx (fVar 2) (fC (.int (0)))) (fVar 2)))
    fNil)))
def b__law_alone (L : Nat → FF) : FS :=
    (fThen (fSet 2 (fC .none))
    (fThen (fKeep errCs 3 2 (fThen (fDrop (fCallL 0 (fs__law_alone L) (faCons (fFz (fSeq .list .fresh (faCons (fVar 1) faNil))) faNil)))
    fNil))
    (fThen (fRet (fAnd (fIsiC (isi_InvalidFraction) (fVar 2)) (fBin eqP (fErrVal errCs (fVar 2)) (fVar 1))))
    fNil)))
def b__law_refusals_right (L : Nat → FF) : FS :=
    (fThen (fFor (fiRg1 (faCons (fC (.int (3))) faNil)) (gNm 1) (fThen (fSetBox 2 (fCallF 2 (L 20) (faCons (fVar 0) (faCons (fVar 1) faNil))))
    (fThen (fSet 3 (fFz (fBin addP (fC (.int (1))) (fCallF 2 (L 21) (faCons (fVar 2) (faCons (fBin powP (fC (.int (10))) (fC (.int (9)))) faNil))))))
    (fThen (fSet 4 (fFz (fSeq .list .fresh (faCons (fC .none) (faCons (fC (.bool true)) (faCons (fC (.bool false)) (faCons (fC (.str "")) (faCons (fC (.str "1")) (faCons (fFz (fun _ S => some (.val .fresh (.py (.dict [])) S))) (faCons (fLit .pure (.tuple [])) (faCons (fLit .pure (.tuple [.str "a"])) (faCons (fFz (fLit .fresh (.list [.int (1), .int (2)]))) (faCons (fLit .pure (.tuple [.int (1), .int (2), .int (3)])) (faCons (fLit .pure (.tuple [.int (2), .int (4)])) (faCons (fLit .pure (.tuple [.int (1), .int (0)])) (faCons (fSeq .tuple .pure (faCons (fC (.int (1))) (faCons (fBin subP (fC (.int (0))) (fC (.int (2)))) faNil))) (faCons (fLit .pure (.tuple [.int (0), .int (2)])) (faCons (fLit .pure (.tuple [.bool true, .int (2)])) (faCons (fLit .pure (.tuple [.int (1), .bool true])) (faCons (fSeq .tuple .pure (faCons (fVar 3) (faCons (fVar 3) faNil))) (faCons (fSeq .tuple .pure (faCons (fBin mulP (fVar 3) (fC (.int (2)))) (faCons (fC (.int (2))) faNil))) faNil)))))))))))))))))))))
    (fThen (fLock 4 (fSet 4 (fLc (fiSeq (fVar 4)) (gNm 7) (fTb (fBin neP (fCall repr2P (faCons (fVar 7) faNil)) (fC (.str "(1, 1)")))) (fVar 7) [7])))
    (fThen (fFor (fiEn (faCons (fFz (fLit .fresh (.list [.int (0), .int (0), .int (1), .int (2), .int (1), .int (2), .int (2), .int (2)]))) faNil)) (gTp 2 (gsCons (gNm 5) (gsCons (gNm 6) gsNil))) (fThen (fFor (fiSeq (fFz (fBin addP (fBin addP (fVar 4) (fIf (fTb (fBin eqP (fVar 5) (fC (.int (1))))) (fLit .fresh (.list [.int (0)])) (fLit .fresh (.list [])))) (fIf (fTb (fBin (ltP fun i j => decide (j < i)) (fVar 6) (fC (.int (0))))) (fSeq .list .fresh (faCons (fVar 3) (faCons (fBin subP (fC (.int (0))) (fVar 3)) (faCons (fC (.int (0))) faNil)))) (fLit .fresh (.list [])))))) (gNm 7) (fThen (fIfS (fOrT (fTb (fBin neP (fVar 6) (fC (.int (1))))) (fNotT (fTb (fIsi .list (fVar 7))))) (fThen (fIfS (fTb (fBin neP (fCallF 2 (L 44) (faCons (fVar 5) (faCons (fVar 7) faNil))) (fSeq .list .fresh (faCons (fFz (fLc (fiRg1 (faCons (fC (.int (3))) faNil)) (gNm 10) fYes (fBin eqP (fVar 10) (fVar 6)) [10])) (faCons (fCall repr2P (faCons (fVar 7) faNil)) faNil))))) (fThen (fRet (fC (.bool false)))
    fNil) fNil)
    fNil) fNil)
    fNil))
    fNil))
    (fThen (fFor (fiSeq (fFz (fLit .fresh (.list [.int (0), .none, .bool true, .str "0", .list [.int (0)]])))) (gNm 7) (fThen (fIfS (fTb (fBin neP (fCallF 2 (L 44) (faCons (fC (.int (8))) (faCons (fVar 7) faNil))) (fSeq .list .fresh (faCons (fFz (fLit .fresh (.list [.bool true, .bool false, .bool false]))) (faCons (fCall repr2P (faCons (fVar 7) faNil)) faNil))))) (fThen (fRet (fC (.bool false)))
    fNil) fNil)
    fNil))
    (fThen (fFor (fiSeq (fFz (fBin addP (fVar 4) (fSeq .list .fresh (faCons (fVar 3) faNil))))) (gNm 7) (fThen (fFor (fiSeq (fFz (fLit .fresh (.list [.int (9), .int (10)])))) (gNm 5) (fThen (fIfS (fTb (fBin neP (fCallF 2 (L 44) (faCons (fVar 5) (faCons (fSeq .tuple .pure (faCons (fVar 7) (faCons (fCallF 2 (L 22) (faCons (fVar 2) (faCons (fFz (fSeq .list .fresh (faCons (fC (.int (0))) (faCons (fC (.int (12))) (faCons (fCallF 2 (L 21) (faCons (fVar 2) (faCons (fC (.int (13))) faNil))) faNil))))) faNil))) faNil))) faNil))) (fSeq .list .fresh (faCons (fFz (fLit .fresh (.list [.bool false, .bool false, .bool true]))) (faCons (fCall repr2P (faCons (fVar 7) faNil)) faNil))))) (fThen (fRet (fC (.bool false)))
    fNil) fNil)
    fNil))
    fNil))
    (fThen (fForV 8 (faCons (fFn "sum_of") (faCons (fFn "product_of") faNil)) (fThen (fIfS (fNotT (fTb (fCallF 2 (L 45) (faCons (fVar 8) (faCons (fLit .pure (.tuple [.int (2), .int (4)])) faNil))))) (fThen (fRet (fC (.bool false)))
    fNil) fNil)
    fNil))
    (fThen (fFor (fiSeq (fFz (fSeq .list .fresh (faCons (fSeq .tuple .pure (faCons (fC (.int (1))) (faCons (fBin subP (fC (.int (0))) (fVar 3)) faNil))) (faCons (fSeq .tuple .pure (faCons (fC (.int (2))) (faCons (fFz (fSeq .list .fresh (faCons (fSeq .tuple .pure (faCons (fVar 3) (faCons (fC (.int (1))) faNil))) faNil))) faNil))) faNil))))) (gTp 2 (gsCons (gNm 5) (gsCons (gNm 9) gsNil))) (fThen (fIfS (fTb (fBin neP (fCallF 2 (L 44) (faCons (fVar 5) (faCons (fVar 9) faNil))) (fSeq .list .fresh (faCons (fFz (fRep (fLit .fresh (.list [.bool false])) (fC (.int (3))))) (faCons (fC .none) faNil))))) (fThen (fRet (fC (.bool false)))
    fNil) fNil)
    fNil))
    (fThen (fIfS (fTb (fBin neP (fCallF 2 (L 44) (faCons (fC (.int (3))) (faCons (fSeq .tuple .pure (faCons (fVar 3) (faCons (fC (.int (1))) faNil))) faNil))) (fSeq .list .fresh (faCons (fFz (fLit .fresh (.list [.bool false, .bool false, .bool true]))) (faCons (fCall repr2P (faCons (fC .none) faNil)) faNil))))) (fThen (fRet (fC (.bool false)))
    fNil) fNil)
    fNil)))))))))))
    (fThen (fRet (fC (.bool true)))
    fNil))
def b_law (L : Nat → FF) : FS :=
    (fThen (fRet (fAnd (fCallF 1 (L 34) (faCons (fVar 0) faNil)) (fAnd (fCallF 1 (L 41) (faCons (fVar 0) faNil)) (fCallF 1 (L 46) (faCons (fVar 0) faNil)))))
    fNil)
/-- what each def does, by the depth of calls -/
def sem : Nat → Nat → FF
  | 0, _ => fun _ _ => none
  | n + 1, 0 => funF 1 1 (b_is_whole (sem n))
  | n + 1, 1 => funF 3 2 (b_is_signs (sem n))
  | n + 1, 2 => funF 1 1 (b_is_name (sem n))
  | n + 1, 3 => funF 2 1 (b_ascends (sem n))
  | n + 1, 4 => funF 2 1 (b_is_names (sem n))
  | n + 1, 5 => funF 1 1 (b_check_list (sem n))
  | n + 1, 6 => funF 2 2 (b_common_of (sem n))
  | n + 1, 7 => funF 1 1 (b_is_fraction (sem n))
  | n + 1, 8 => funF 1 1 (b_check_fraction (sem n))
  | n + 1, 9 => funF 3 2 (b_lowest_of (sem n))
  | n + 1, 10 => funF 2 2 (b_fraction_of (sem n))
  | n + 1, 11 => funF 2 2 (b_plus_of (sem n))
  | n + 1, 12 => funF 2 2 (b_times_of (sem n))
  | n + 1, 13 => funF 2 2 (b_less_than (sem n))
  | n + 1, 14 => funF 2 1 (b_check_fractions (sem n))
  | n + 1, 15 => funF 3 1 (b_sum_of (sem n))
  | n + 1, 16 => funF 3 1 (b_product_of (sem n))
  | n + 1, 17 => funF 2 2 (b_is_less (sem n))
  | n + 1, 18 => funF 3 2 (b__law_hash (sem n))
  | n + 1, 19 => funF 2 2 (b__law_cell (sem n))
  | n + 1, 20 => funF 3 2 (b__law_generator (sem n))
  | n + 1, 21 => funF 4 2 (b__law_random (sem n))
  | n + 1, 22 => funF 2 2 (b__law_pick (sem n))
  | n + 1, 23 => funF 3 1 (b__law_copied (sem n))
  | n + 1, 24 => funF 5 2 (b__law_exact (sem n))
  | n + 1, 25 => funF 3 1 (b__law_unlike (sem n))
  | n + 1, 26 => funF 5 2 (b__law_low (sem n))
  | n + 1, 27 => funF 2 1 (b__law_any (sem n))
  | n + 1, 28 => funF 2 1 (b__law_big (sem n))
  | n + 1, 29 => funF 2 1 (b__law_name (sem n))
  | n + 1, 30 => funF 2 1 (b__law_rise (sem n))
  | n + 1, 31 => funF 3 1 (b__law_string (sem n))
  | n + 1, 32 => funF 2 1 (b__law_numbers (sem n))
  | n + 1, 33 => funF 7 1 (b__law_judged (sem n))
  | n + 1, 34 => funF 14 1 (b__law_names_right (sem n))
  | n + 1, 35 => funF 2 1 (b__law_drawn_pair (sem n))
  | n + 1, 36 => funF 3 2 (b__law_fraction (sem n))
  | n + 1, 37 => funF 2 1 (b__law_is_fraction (sem n))
  | n + 1, 38 => funF 9 1 (b__law_made_right (sem n))
  | n + 1, 39 => funF 11 1 (b__law_sums_right (sem n))
  | n + 1, 40 => funF 10 1 (b__law_long_right (sem n))
  | n + 1, 41 => funF 4 1 (b__law_fractions_right (sem n))
  | n + 1, 42 => funF 3 2 (b__law_call (sem n))
  | n + 1, 43 => funF 2 2 (b__law_right_call (sem n))
  | n + 1, 44 => funF 7 2 (b__law_caught (sem n))
  | n + 1, 45 => funF 4 2 (b__law_alone (sem n))
  | n + 1, 46 => funF 11 1 (b__law_refusals_right (sem n))
  | n + 1, 47 => funF 1 1 (b_law (sem n))
  | _ + 1, _ => fun _ _ => none
theorem sem_is_whole (n : Nat) : sem (n + 1) 0 = funF 1 1 (b_is_whole (sem n)) := rfl
theorem sem_is_signs (n : Nat) : sem (n + 1) 1 = funF 3 2 (b_is_signs (sem n)) := rfl
theorem sem_is_name (n : Nat) : sem (n + 1) 2 = funF 1 1 (b_is_name (sem n)) := rfl
theorem sem_ascends (n : Nat) : sem (n + 1) 3 = funF 2 1 (b_ascends (sem n)) := rfl
theorem sem_is_names (n : Nat) : sem (n + 1) 4 = funF 2 1 (b_is_names (sem n)) := rfl
theorem sem_check_list (n : Nat) : sem (n + 1) 5 = funF 1 1 (b_check_list (sem n)) := rfl
theorem sem_common_of (n : Nat) : sem (n + 1) 6 = funF 2 2 (b_common_of (sem n)) := rfl
theorem sem_is_fraction (n : Nat) : sem (n + 1) 7 = funF 1 1 (b_is_fraction (sem n)) := rfl
theorem sem_check_fraction (n : Nat) : sem (n + 1) 8 = funF 1 1 (b_check_fraction (sem n)) := rfl
theorem sem_lowest_of (n : Nat) : sem (n + 1) 9 = funF 3 2 (b_lowest_of (sem n)) := rfl
theorem sem_fraction_of (n : Nat) : sem (n + 1) 10 = funF 2 2 (b_fraction_of (sem n)) := rfl
theorem sem_plus_of (n : Nat) : sem (n + 1) 11 = funF 2 2 (b_plus_of (sem n)) := rfl
theorem sem_times_of (n : Nat) : sem (n + 1) 12 = funF 2 2 (b_times_of (sem n)) := rfl
theorem sem_less_than (n : Nat) : sem (n + 1) 13 = funF 2 2 (b_less_than (sem n)) := rfl
theorem sem_check_fractions (n : Nat) : sem (n + 1) 14 = funF 2 1 (b_check_fractions (sem n)) := rfl
theorem sem_sum_of (n : Nat) : sem (n + 1) 15 = funF 3 1 (b_sum_of (sem n)) := rfl
theorem sem_product_of (n : Nat) : sem (n + 1) 16 = funF 3 1 (b_product_of (sem n)) := rfl
theorem sem_is_less (n : Nat) : sem (n + 1) 17 = funF 2 2 (b_is_less (sem n)) := rfl
theorem sem__law_hash (n : Nat) : sem (n + 1) 18 = funF 3 2 (b__law_hash (sem n)) := rfl
theorem sem__law_cell (n : Nat) : sem (n + 1) 19 = funF 2 2 (b__law_cell (sem n)) := rfl
theorem sem__law_generator (n : Nat) : sem (n + 1) 20 = funF 3 2 (b__law_generator (sem n)) := rfl
theorem sem__law_random (n : Nat) : sem (n + 1) 21 = funF 4 2 (b__law_random (sem n)) := rfl
theorem sem__law_pick (n : Nat) : sem (n + 1) 22 = funF 2 2 (b__law_pick (sem n)) := rfl
theorem sem__law_copied (n : Nat) : sem (n + 1) 23 = funF 3 1 (b__law_copied (sem n)) := rfl
theorem sem__law_exact (n : Nat) : sem (n + 1) 24 = funF 5 2 (b__law_exact (sem n)) := rfl
theorem sem__law_unlike (n : Nat) : sem (n + 1) 25 = funF 3 1 (b__law_unlike (sem n)) := rfl
theorem sem__law_low (n : Nat) : sem (n + 1) 26 = funF 5 2 (b__law_low (sem n)) := rfl
theorem sem__law_any (n : Nat) : sem (n + 1) 27 = funF 2 1 (b__law_any (sem n)) := rfl
theorem sem__law_big (n : Nat) : sem (n + 1) 28 = funF 2 1 (b__law_big (sem n)) := rfl
theorem sem__law_name (n : Nat) : sem (n + 1) 29 = funF 2 1 (b__law_name (sem n)) := rfl
theorem sem__law_rise (n : Nat) : sem (n + 1) 30 = funF 2 1 (b__law_rise (sem n)) := rfl
theorem sem__law_string (n : Nat) : sem (n + 1) 31 = funF 3 1 (b__law_string (sem n)) := rfl
theorem sem__law_numbers (n : Nat) : sem (n + 1) 32 = funF 2 1 (b__law_numbers (sem n)) := rfl
theorem sem__law_judged (n : Nat) : sem (n + 1) 33 = funF 7 1 (b__law_judged (sem n)) := rfl
theorem sem__law_names_right (n : Nat) : sem (n + 1) 34 = funF 14 1 (b__law_names_right (sem n)) := rfl
theorem sem__law_drawn_pair (n : Nat) : sem (n + 1) 35 = funF 2 1 (b__law_drawn_pair (sem n)) := rfl
theorem sem__law_fraction (n : Nat) : sem (n + 1) 36 = funF 3 2 (b__law_fraction (sem n)) := rfl
theorem sem__law_is_fraction (n : Nat) : sem (n + 1) 37 = funF 2 1 (b__law_is_fraction (sem n)) := rfl
theorem sem__law_made_right (n : Nat) : sem (n + 1) 38 = funF 9 1 (b__law_made_right (sem n)) := rfl
theorem sem__law_sums_right (n : Nat) : sem (n + 1) 39 = funF 11 1 (b__law_sums_right (sem n)) := rfl
theorem sem__law_long_right (n : Nat) : sem (n + 1) 40 = funF 10 1 (b__law_long_right (sem n)) := rfl
theorem sem__law_fractions_right (n : Nat) : sem (n + 1) 41 = funF 4 1 (b__law_fractions_right (sem n)) := rfl
theorem sem__law_call (n : Nat) : sem (n + 1) 42 = funF 3 2 (b__law_call (sem n)) := rfl
theorem sem__law_right_call (n : Nat) : sem (n + 1) 43 = funF 2 2 (b__law_right_call (sem n)) := rfl
theorem sem__law_caught (n : Nat) : sem (n + 1) 44 = funF 7 2 (b__law_caught (sem n)) := rfl
theorem sem__law_alone (n : Nat) : sem (n + 1) 45 = funF 4 2 (b__law_alone (sem n)) := rfl
theorem sem__law_refusals_right (n : Nat) : sem (n + 1) 46 = funF 11 1 (b__law_refusals_right (sem n)) := rfl
theorem sem_law (n : Nat) : sem (n + 1) 47 = funF 1 1 (b_law (sem n)) := rfl
/-- what the written part says -/
structure MF (P : Program) (w : World) (K : PySem.W.Frag) (mg : Str → Option Value) (R0 fI : Addr) : Prop where
  f_abs : mg "abs" = none
  f_bool : mg "bool" = none
  f_dict : mg "dict" = none
  f_enumerate : mg "enumerate" = none
  f_int : mg "int" = none
  f_isinstance : mg "isinstance" = none
  f_len : mg "len" = none
  f_list : mg "list" = none
  f_max : mg "max" = none
  f_range : mg "range" = none
  f_repr : mg "repr" = none
  f_sorted : mg "sorted" = none
  f_str : mg "str" = none
  f_sum : mg "sum" = none
  f_tuple : mg "tuple" = none
  f_zip : mg "zip" = none
  c_SMALL : ∃ t, mg "SMALL" = some (.str "abcdefghijklmnopqrstuvwxyz" t)
  c_FIGURES : ∃ t, mg "FIGURES" = some (.str "0123456789" t)
  c_MOST_NAME : ∃ t, mg "MOST_NAME" = some (.int 12 t)
  nodig : NoDig K
  g_sum_of : ∃ a, mg "sum_of" = some (.ref a)
  g_product_of : ∃ a, mg "product_of" = some (.ref a)
  g_ReasonError : mg "ReasonError" = some (.ref R0)
  errs : ErrsOk P K mg R0 fI errCs
  isi_InvalidNumber : ∃ CT, mg "InvalidNumber" = some (.ref CT) ∧ IsiAt K mg isi_InvalidNumber (.ref CT)
  isi_InvalidList : ∃ CT, mg "InvalidList" = some (.ref CT) ∧ IsiAt K mg isi_InvalidList (.ref CT)
  isi_InvalidFraction : ∃ CT, mg "InvalidFraction" = some (.ref CT) ∧ IsiAt K mg isi_InvalidFraction (.ref CT)
/-- what the defs do, at a level -/
structure Oks (P : Program) (w : World) (K : PySem.W.Frag) (mg : Str → Option Value) (base : Heap) (n : Nat) (L : Nat → FF) : Prop where
  o_is_whole : CK P w K mg base n "is_whole" 1 (L 0)
  o_is_signs : CK P w K mg base n "is_signs" 2 (L 1)
  o_is_name : CK P w K mg base n "is_name" 1 (L 2)
  o_ascends : CK P w K mg base n "ascends" 1 (L 3)
  o_is_names : CK P w K mg base n "is_names" 1 (L 4)
  o_check_list : CK P w K mg base n "check_list" 1 (L 5)
  o_common_of : CK P w K mg base n "common_of" 2 (L 6)
  o_is_fraction : CK P w K mg base n "is_fraction" 1 (L 7)
  o_check_fraction : CK P w K mg base n "check_fraction" 1 (L 8)
  o_lowest_of : CK P w K mg base n "lowest_of" 2 (L 9)
  o_fraction_of : CK P w K mg base n "fraction_of" 2 (L 10)
  o_plus_of : CK P w K mg base n "plus_of" 2 (L 11)
  o_times_of : CK P w K mg base n "times_of" 2 (L 12)
  o_less_than : CK P w K mg base n "less_than" 2 (L 13)
  o_check_fractions : CK P w K mg base n "check_fractions" 1 (L 14)
  o_sum_of : CK P w K mg base n "sum_of" 1 (L 15)
  o_product_of : CK P w K mg base n "product_of" 1 (L 16)
  o_is_less : CK P w K mg base n "is_less" 2 (L 17)
  o__law_hash : CK P w K mg base n "_law_hash" 2 (L 18)
  o__law_cell : CK P w K mg base n "_law_cell" 2 (L 19)
  o__law_generator : CK P w K mg base n "_law_generator" 2 (L 20)
  o__law_random : CK P w K mg base n "_law_random" 2 (L 21)
  o__law_pick : CK P w K mg base n "_law_pick" 2 (L 22)
  o__law_copied : CK P w K mg base n "_law_copied" 1 (L 23)
  o__law_exact : CK P w K mg base n "_law_exact" 2 (L 24)
  o__law_unlike : CK P w K mg base n "_law_unlike" 1 (L 25)
  o__law_low : CK P w K mg base n "_law_low" 2 (L 26)
  o__law_any : CK P w K mg base n "_law_any" 1 (L 27)
  o__law_big : CK P w K mg base n "_law_big" 1 (L 28)
  o__law_name : CK P w K mg base n "_law_name" 1 (L 29)
  o__law_rise : CK P w K mg base n "_law_rise" 1 (L 30)
  o__law_string : CK P w K mg base n "_law_string" 1 (L 31)
  o__law_numbers : CK P w K mg base n "_law_numbers" 1 (L 32)
  o__law_judged : CK P w K mg base n "_law_judged" 1 (L 33)
  o__law_names_right : CK P w K mg base n "_law_names_right" 1 (L 34)
  o__law_drawn_pair : CK P w K mg base n "_law_drawn_pair" 1 (L 35)
  o__law_fraction : CK P w K mg base n "_law_fraction" 2 (L 36)
  o__law_is_fraction : CK P w K mg base n "_law_is_fraction" 1 (L 37)
  o__law_made_right : CK P w K mg base n "_law_made_right" 1 (L 38)
  o__law_sums_right : CK P w K mg base n "_law_sums_right" 1 (L 39)
  o__law_long_right : CK P w K mg base n "_law_long_right" 1 (L 40)
  o__law_fractions_right : CK P w K mg base n "_law_fractions_right" 1 (L 41)
  o__law_call : CK P w K mg base n "_law_call" 2 (L 42)
  o__law_right_call : CK P w K mg base n "_law_right_call" 2 (L 43)
  o__law_caught : CK P w K mg base n "_law_caught" 2 (L 44)
  o__law_alone : CK P w K mg base n "_law_alone" 2 (L 45)
  o__law_refusals_right : CK P w K mg base n "_law_refusals_right" 1 (L 46)
  k_fraction_of_below_above : CKK P w K mg base n "fraction_of" ["below", "above"] [1, 0] 2 (L 10)
  k_is_fraction_value : CKK P w K mg base n "is_fraction" ["value"] [0] 1 (L 7)
  k_is_less_other_one : CKK P w K mg base n "is_less" ["other", "one"] [1, 0] 2 (L 17)
  k_is_name_value : CKK P w K mg base n "is_name" ["value"] [0] 1 (L 2)
  k_is_names_value : CKK P w K mg base n "is_names" ["value"] [0] 1 (L 4)
  k_product_of_fractions : CKK P w K mg base n "product_of" ["fractions"] [0] 1 (L 16)
  k_sum_of_fractions : CKK P w K mg base n "sum_of" ["fractions"] [0] 1 (L 15)
theorem fs__law_alone_ok {X : Cx} {n : Nat} {L : Nat → FF} (O : Oks X.prog X.w X.K X.mg X.base n L) : ∀ f m F, (fs__law_alone L).lookup f = some (m, F) → CallOk X n f m F := by
  intro f m F h
  unfold fs__law_alone at h
  rw [List.lookup_cons] at h
  cases e : (f == ("sum_of" : Str)) with
  | true =>
    rw [e] at h
    cases h
    obtain rfl : f = "sum_of" := by simpa using e
    exact ⟨O.o_sum_of⟩
  | false =>
  rw [e] at h
  rw [List.lookup_cons] at h
  cases e : (f == ("product_of" : Str)) with
  | true =>
    rw [e] at h
    cases h
    obtain rfl : f = "product_of" := by simpa using e
    exact ⟨O.o_product_of⟩
  | false =>
  rw [e] at h
  cases h
theorem d_is_whole {P : Program} {w : World} {K : PySem.W.Frag} {mg : Str → Option Value} {base : Heap} {R0 fI : Addr} {n : Nat} {L : Nat → FF} (M : MF P w K mg R0 fI) (O : Oks P w K mg base n L) {f : Addr} {cdv : Value} {A : Around} {outer : List Env} {s : Shared} {H : Hp} {E : XK}
    (ct : Ct (BX P w K mg base ["value"] "is_whole" (defScope (tp 9)) f cdv A outer s H E) n) : DenS (BX P w K mg base ["value"] "is_whole" (defScope (tp 9)) f cdv A outer s H E) (defBody (tp 9)) (b_is_whole L) :=
    (denS_cons (denS_ret (den_and (den_isi (t := .int) (den_var (i := 0) rfl (by first | exact Or.inl rfl | exact Or.inr (Or.inl rfl) | exact Or.inr (Or.inr rfl)) rfl rfl) rfl M.f_isinstance rfl M.f_int (by decide +kernel) (by decide) rfl rfl rfl rfl) (den_one (den_not (den_isi (t := .bool) (den_var (i := 0) rfl (by first | exact Or.inl rfl | exact Or.inr (Or.inl rfl) | exact Or.inr (Or.inr rfl)) rfl rfl) rfl M.f_isinstance rfl M.f_bool (by decide +kernel) (by decide) rfl rfl rfl rfl)))))
    denS_nil)
theorem d_is_signs {P : Program} {w : World} {K : PySem.W.Frag} {mg : Str → Option Value} {base : Heap} {R0 fI : Addr} {n : Nat} {L : Nat → FF} (M : MF P w K mg R0 fI) (O : Oks P w K mg base n L) {f : Addr} {cdv : Value} {A : Around} {outer : List Env} {s : Shared} {H : Hp} {E : XK}
    (ct : Ct (BX P w K mg base ["value", "signs", "sign"] "is_signs" (defScope (tp 10)) f cdv A outer s H E) n) : DenS (BX P w K mg base ["value", "signs", "sign"] "is_signs" (defScope (tp 10)) f cdv A outer s H E) (defBody (tp 10)) (b_is_signs L) :=
    (denS_cons (denS_ret (den_and (den_isi (t := .str) (den_var (i := 0) rfl (by first | exact Or.inl rfl | exact Or.inr (Or.inl rfl) | exact Or.inr (Or.inr rfl)) rfl rfl) rfl M.f_isinstance rfl M.f_str (by decide +kernel) (by decide) rfl rfl rfl rfl) (den_one (den_cmp (sem_eq ct) (den_lc ct (own := [("sign", 2)]) (blkOk_by rfl) (denI_seq (den_var (i := 0) rfl (by first | exact Or.inl rfl | exact Or.inr (Or.inl rfl) | exact Or.inr (Or.inr rfl)) rfl rfl)) (by decide) (fun s H C cl fp => (denG_name (Ct.blk ct) (i := 2) rfl (by first | exact Or.inl rfl | exact Or.inr rfl) (by first | exact Or.inl rfl | exact Or.inr rfl))) (fun s H C cl fp => (denTs_one (denT_cmp (sem_notIn (Ct.blk ct)) (den_var (i := 2) rfl (by first | exact Or.inl rfl | exact Or.inr (Or.inl rfl) | exact Or.inr (Or.inr rfl)) rfl rfl) (den_var (i := 1) rfl (by first | exact Or.inl rfl | exact Or.inr (Or.inl rfl) | exact Or.inr (Or.inr rfl)) rfl rfl) rfl))) (fun s H C cl fp => (den_var (i := 2) rfl (by first | exact Or.inl rfl | exact Or.inr (Or.inl rfl) | exact Or.inr (Or.inr rfl)) rfl rfl)) (fun _ => rfl)) (den_lit 99 (by kernel_rfl)) rfl))))
    denS_nil)
theorem d_is_name {P : Program} {w : World} {K : PySem.W.Frag} {mg : Str → Option Value} {base : Heap} {R0 fI : Addr} {n : Nat} {L : Nat → FF} (M : MF P w K mg R0 fI) (O : Oks P w K mg base n L) {f : Addr} {cdv : Value} {A : Around} {outer : List Env} {s : Shared} {H : Hp} {E : XK}
    (ct : Ct (BX P w K mg base ["value"] "is_name" (defScope (tp 11)) f cdv A outer s H E) n) : DenS (BX P w K mg base ["value"] "is_name" (defScope (tp 11)) f cdv A outer s H E) (defBody (tp 11)) (b_is_name L) :=
    (denS_cons (denS_ret (den_and (den_call (CK.ok O.o_is_signs) ct (Nat.le_refl _) rfl (denA_cons (den_var (i := 0) rfl (by first | exact Or.inl rfl | exact Or.inr (Or.inl rfl) | exact Or.inr (Or.inr rfl)) rfl rfl) (denA_cons (den_fz (den_bin sem_add (den_gstr rfl M.c_SMALL rfl) (den_gstr rfl M.c_FIGURES rfl))) denA_nil rfl) rfl) rfl rfl rfl) (den_and (den_chain sem_lt sem_le den_int (den_callB (sem_len) rfl M.f_len (by decide +kernel) (denA_cons (den_var (i := 0) rfl (by first | exact Or.inl rfl | exact Or.inr (Or.inl rfl) | exact Or.inr (Or.inr rfl)) rfl rfl) denA_nil rfl) (by decide) rfl rfl rfl) (den_gint rfl M.c_MOST_NAME rfl) rfl) (den_one (den_cmp (sem_in ct) (den_ix (den_var (i := 0) rfl (by first | exact Or.inl rfl | exact Or.inr (Or.inl rfl) | exact Or.inr (Or.inr rfl)) rfl rfl) den_int (by intro _ _; rfl)) (den_gstr rfl M.c_SMALL rfl) rfl)))))
    denS_nil)
theorem d_ascends {P : Program} {w : World} {K : PySem.W.Frag} {mg : Str → Option Value} {base : Heap} {R0 fI : Addr} {n : Nat} {L : Nat → FF} (M : MF P w K mg R0 fI) (O : Oks P w K mg base n L) {f : Addr} {cdv : Value} {A : Around} {outer : List Env} {s : Shared} {H : Hp} {E : XK}
    (ct : Ct (BX P w K mg base ["items", "at"] "ascends" (defScope (tp 12)) f cdv A outer s H E) n) : DenS (BX P w K mg base ["items", "at"] "ascends" (defScope (tp 12)) f cdv A outer s H E) (defBody (tp 12)) (b_ascends L) :=
    (denS_cons (denS_ret (den_cmp (sem_eq ct) (den_lc ct (own := [("at", 1)]) (blkOk_by rfl) (denI_rg2 rfl M.f_range (denA_cons den_int (denA_cons (den_callB (sem_len) rfl M.f_len (by decide +kernel) (denA_cons (den_var (i := 0) rfl (by first | exact Or.inl rfl | exact Or.inr (Or.inl rfl) | exact Or.inr (Or.inr rfl)) rfl rfl) denA_nil rfl) (by decide) rfl rfl rfl) denA_nil rfl) rfl) rfl rfl) (by decide) (fun s H C cl fp => (denG_name (Ct.blk ct) (i := 1) rfl (by first | exact Or.inl rfl | exact Or.inr rfl) (by first | exact Or.inl rfl | exact Or.inr rfl))) (fun s H C cl fp => (denTs_one (denT_cmp sem_geS (den_ix (den_var (i := 0) rfl (by first | exact Or.inl rfl | exact Or.inr (Or.inl rfl) | exact Or.inr (Or.inr rfl)) rfl rfl) (den_bin sem_sub (den_var (i := 1) rfl (by first | exact Or.inl rfl | exact Or.inr (Or.inl rfl) | exact Or.inr (Or.inr rfl)) rfl rfl) den_int) (by intro _ _; rfl)) (den_ix (den_var (i := 0) rfl (by first | exact Or.inl rfl | exact Or.inr (Or.inl rfl) | exact Or.inr (Or.inr rfl)) rfl rfl) (den_var (i := 1) rfl (by first | exact Or.inl rfl | exact Or.inr (Or.inl rfl) | exact Or.inr (Or.inr rfl)) rfl rfl) (by intro _ _; rfl)) rfl))) (fun s H C cl fp => (den_var (i := 1) rfl (by first | exact Or.inl rfl | exact Or.inr (Or.inl rfl) | exact Or.inr (Or.inr rfl)) rfl rfl)) (fun _ => rfl)) (den_lit 99 (by kernel_rfl)) rfl))
    denS_nil)
theorem d_is_names {P : Program} {w : World} {K : PySem.W.Frag} {mg : Str → Option Value} {base : Heap} {R0 fI : Addr} {n : Nat} {L : Nat → FF} (M : MF P w K mg R0 fI) (O : Oks P w K mg base n L) {f : Addr} {cdv : Value} {A : Around} {outer : List Env} {s : Shared} {H : Hp} {E : XK}
    (ct : Ct (BX P w K mg base ["value", "item"] "is_names" (defScope (tp 13)) f cdv A outer s H E) n) : DenS (BX P w K mg base ["value", "item"] "is_names" (defScope (tp 13)) f cdv A outer s H E) (defBody (tp 13)) (b_is_names L) :=
    (denS_cons (denS_if (denW_t (denW_or (denT_not (denT_val (den_isi (t := .list) (den_var (i := 0) rfl (by first | exact Or.inl rfl | exact Or.inr (Or.inl rfl) | exact Or.inr (Or.inr rfl)) rfl rfl) rfl M.f_isinstance rfl M.f_list (by decide +kernel) (by decide) rfl rfl rfl rfl) (fun _ => rfl))) (denW_or1 (denT_cmp (sem_ne ct) (den_lc ct (own := [("item", 1)]) (blkOk_by rfl) (denI_seq (den_var (i := 0) rfl (by first | exact Or.inl rfl | exact Or.inr (Or.inl rfl) | exact Or.inr (Or.inr rfl)) rfl rfl)) (by decide) (fun s H C cl fp => (denG_name (Ct.blk ct) (i := 1) rfl (by first | exact Or.inl rfl | exact Or.inr rfl) (by first | exact Or.inl rfl | exact Or.inr rfl))) (fun s H C cl fp => (denTs_one (denT_not (denT_val (den_call (CK.ok O.o_is_name) (Ct.blk ct) (Nat.le_refl _) rfl (denA_cons (den_var (i := 1) rfl (by first | exact Or.inl rfl | exact Or.inr (Or.inl rfl) | exact Or.inr (Or.inr rfl)) rfl rfl) denA_nil rfl) rfl rfl rfl) (fun _ => rfl))))) (fun s H C cl fp => (den_var (i := 1) rfl (by first | exact Or.inl rfl | exact Or.inr (Or.inl rfl) | exact Or.inr (Or.inr rfl)) rfl rfl)) (fun _ => rfl)) (den_lit 99 (by kernel_rfl)) rfl)))) (denS_cons (denS_ret den_bl)
    denS_nil) denS_nil)
    (denS_cons (denS_ret (den_call (CK.ok O.o_ascends) ct (Nat.le_refl _) rfl (denA_cons (den_var (i := 0) rfl (by first | exact Or.inl rfl | exact Or.inr (Or.inl rfl) | exact Or.inr (Or.inr rfl)) rfl rfl) denA_nil rfl) rfl rfl rfl))
    denS_nil))
theorem d_check_list {P : Program} {w : World} {K : PySem.W.Frag} {mg : Str → Option Value} {base : Heap} {R0 fI : Addr} {n : Nat} {L : Nat → FF} (M : MF P w K mg R0 fI) (O : Oks P w K mg base n L) {f : Addr} {cdv : Value} {A : Around} {outer : List Env} {s : Shared} {H : Hp} {E : XK}
    (ct : Ct (BX P w K mg base ["value"] "check_list" (defScope (tp 14)) f cdv A outer s H E) n) : DenS (BX P w K mg base ["value"] "check_list" (defScope (tp 14)) f cdv A outer s H E) (defBody (tp 14)) (b_check_list L) :=
    (denS_cons (denS_if (denT_not (denT_val (den_isi (t := .list) (den_var (i := 0) rfl (by first | exact Or.inl rfl | exact Or.inr (Or.inl rfl) | exact Or.inr (Or.inr rfl)) rfl rfl) rfl M.f_isinstance rfl M.f_list (by decide +kernel) (by decide) rfl rfl rfl rfl) (fun _ => rfl))) (denS_cons (denS_raise ct (ErrsOk.at M.errs rfl) rfl rfl (denA_cons (den_var (i := 0) rfl (by first | exact Or.inl rfl | exact Or.inr (Or.inl rfl) | exact Or.inr (Or.inr rfl)) rfl rfl) denA_nil rfl) rfl rfl)
    denS_nil) denS_nil)
    denS_nil)
theorem d_common_of {P : Program} {w : World} {K : PySem.W.Frag} {mg : Str → Option Value} {base : Heap} {R0 fI : Addr} {n : Nat} {L : Nat → FF} (M : MF P w K mg R0 fI) (O : Oks P w K mg base n L) {f : Addr} {cdv : Value} {A : Around} {outer : List Env} {s : Shared} {H : Hp} {E : XK}
    (ct : Ct (BX P w K mg base ["one", "other"] "common_of" (defScope (tp 16)) f cdv A outer s H E) n) : DenS (BX P w K mg base ["one", "other"] "common_of" (defScope (tp 16)) f cdv A outer s H E) (defBody (tp 16)) (b_common_of L) :=
    (denS_cons (denS_par ct (i := 0) (j := 1) rfl rfl (by decide) rfl rfl (den_callB (sem_abs) rfl M.f_abs (by decide +kernel) (denA_cons (den_var (i := 0) rfl (by first | exact Or.inl rfl | exact Or.inr (Or.inl rfl) | exact Or.inr (Or.inr rfl)) rfl rfl) denA_nil rfl) (by decide) rfl rfl rfl) (den_callB (sem_abs) rfl M.f_abs (by decide +kernel) (denA_cons (den_var (i := 1) rfl (by first | exact Or.inl rfl | exact Or.inr (Or.inl rfl) | exact Or.inr (Or.inr rfl)) rfl rfl) denA_nil rfl) (by decide) rfl rfl rfl) rfl rfl rfl rfl)
    (denS_cons (denS_while 20000 bx_po (denT_cmp sem_gt (den_var (i := 1) rfl (by first | exact Or.inl rfl | exact Or.inr (Or.inl rfl) | exact Or.inr (Or.inr rfl)) rfl rfl) den_int rfl) (denS_cons (denS_par ct (i := 0) (j := 1) rfl rfl (by decide) rfl rfl (den_var (i := 1) rfl (by first | exact Or.inl rfl | exact Or.inr (Or.inl rfl) | exact Or.inr (Or.inr rfl)) rfl rfl) (den_bin sem_mod (den_var (i := 0) rfl (by first | exact Or.inl rfl | exact Or.inr (Or.inl rfl) | exact Or.inr (Or.inr rfl)) rfl rfl) (den_var (i := 1) rfl (by first | exact Or.inl rfl | exact Or.inr (Or.inl rfl) | exact Or.inr (Or.inr rfl)) rfl rfl)) rfl rfl rfl rfl)
    denS_nil))
    (denS_cons (denS_ret (den_var (i := 0) rfl (by first | exact Or.inl rfl | exact Or.inr (Or.inl rfl) | exact Or.inr (Or.inr rfl)) rfl rfl))
    denS_nil)))
theorem d_is_fraction {P : Program} {w : World} {K : PySem.W.Frag} {mg : Str → Option Value} {base : Heap} {R0 fI : Addr} {n : Nat} {L : Nat → FF} (M : MF P w K mg R0 fI) (O : Oks P w K mg base n L) {f : Addr} {cdv : Value} {A : Around} {outer : List Env} {s : Shared} {H : Hp} {E : XK}
    (ct : Ct (BX P w K mg base ["value"] "is_fraction" (defScope (tp 17)) f cdv A outer s H E) n) : DenS (BX P w K mg base ["value"] "is_fraction" (defScope (tp 17)) f cdv A outer s H E) (defBody (tp 17)) (b_is_fraction L) :=
    (denS_cons (denS_if (denW_t (denW_or (denT_not (denT_val (den_isi (t := .tuple) (den_var (i := 0) rfl (by first | exact Or.inl rfl | exact Or.inr (Or.inl rfl) | exact Or.inr (Or.inr rfl)) rfl rfl) rfl M.f_isinstance rfl M.f_tuple (by decide +kernel) (by decide) rfl rfl rfl rfl) (fun _ => rfl))) (denW_or (denT_cmp (sem_ne ct) (den_callB (sem_len) rfl M.f_len (by decide +kernel) (denA_cons (den_var (i := 0) rfl (by first | exact Or.inl rfl | exact Or.inr (Or.inl rfl) | exact Or.inr (Or.inr rfl)) rfl rfl) denA_nil rfl) (by decide) rfl rfl rfl) den_int rfl) (denW_or (denT_not (denT_val (den_call (CK.ok O.o_is_whole) ct (Nat.le_refl _) rfl (denA_cons (den_ix (den_var (i := 0) rfl (by first | exact Or.inl rfl | exact Or.inr (Or.inl rfl) | exact Or.inr (Or.inr rfl)) rfl rfl) den_int (by intro _ _; rfl)) denA_nil rfl) rfl rfl rfl) (fun _ => rfl))) (denW_or1 (denT_not (denT_val (den_call (CK.ok O.o_is_whole) ct (Nat.le_refl _) rfl (denA_cons (den_ix (den_var (i := 0) rfl (by first | exact Or.inl rfl | exact Or.inr (Or.inl rfl) | exact Or.inr (Or.inr rfl)) rfl rfl) den_int (by intro _ _; rfl)) denA_nil rfl) rfl rfl rfl) (fun _ => rfl)))))))) (denS_cons (denS_ret den_bl)
    denS_nil) denS_nil)
    (denS_cons (denS_ret (den_and (den_cmp sem_ge (den_ix (den_var (i := 0) rfl (by first | exact Or.inl rfl | exact Or.inr (Or.inl rfl) | exact Or.inr (Or.inr rfl)) rfl rfl) den_int (by intro _ _; rfl)) den_int rfl) (den_one (den_cmp (sem_eq ct) (den_call (CK.ok O.o_common_of) ct (Nat.le_refl _) rfl (denA_cons (den_ix (den_var (i := 0) rfl (by first | exact Or.inl rfl | exact Or.inr (Or.inl rfl) | exact Or.inr (Or.inr rfl)) rfl rfl) den_int (by intro _ _; rfl)) (denA_cons (den_ix (den_var (i := 0) rfl (by first | exact Or.inl rfl | exact Or.inr (Or.inl rfl) | exact Or.inr (Or.inr rfl)) rfl rfl) den_int (by intro _ _; rfl)) denA_nil rfl) rfl) rfl rfl rfl) den_int rfl))))
    denS_nil))
theorem d_check_fraction {P : Program} {w : World} {K : PySem.W.Frag} {mg : Str → Option Value} {base : Heap} {R0 fI : Addr} {n : Nat} {L : Nat → FF} (M : MF P w K mg R0 fI) (O : Oks P w K mg base n L) {f : Addr} {cdv : Value} {A : Around} {outer : List Env} {s : Shared} {H : Hp} {E : XK}
    (ct : Ct (BX P w K mg base ["value"] "check_fraction" (defScope (tp 18)) f cdv A outer s H E) n) : DenS (BX P w K mg base ["value"] "check_fraction" (defScope (tp 18)) f cdv A outer s H E) (defBody (tp 18)) (b_check_fraction L) :=
    (denS_cons (denS_if (denT_not (denT_val (den_call (CK.ok O.o_is_fraction) ct (Nat.le_refl _) rfl (denA_cons (den_var (i := 0) rfl (by first | exact Or.inl rfl | exact Or.inr (Or.inl rfl) | exact Or.inr (Or.inr rfl)) rfl rfl) denA_nil rfl) rfl rfl rfl) (fun _ => rfl))) (denS_cons (denS_raise ct (ErrsOk.at M.errs rfl) rfl rfl (denA_cons (den_var (i := 0) rfl (by first | exact Or.inl rfl | exact Or.inr (Or.inl rfl) | exact Or.inr (Or.inr rfl)) rfl rfl) denA_nil rfl) rfl rfl)
    denS_nil) denS_nil)
    denS_nil)
theorem d_lowest_of {P : Program} {w : World} {K : PySem.W.Frag} {mg : Str → Option Value} {base : Heap} {R0 fI : Addr} {n : Nat} {L : Nat → FF} (M : MF P w K mg R0 fI) (O : Oks P w K mg base n L) {f : Addr} {cdv : Value} {A : Around} {outer : List Env} {s : Shared} {H : Hp} {E : XK}
    (ct : Ct (BX P w K mg base ["above", "below", "part"] "lowest_of" (defScope (tp 19)) f cdv A outer s H E) n) : DenS (BX P w K mg base ["above", "below", "part"] "lowest_of" (defScope (tp 19)) f cdv A outer s H E) (defBody (tp 19)) (b_lowest_of L) :=
    (denS_cons (denS_set ct (i := 2) rfl (by first | exact Or.inl rfl | exact Or.inr rfl) (by first | exact Or.inl rfl | exact Or.inr rfl) (den_call (CK.ok O.o_common_of) ct (Nat.le_refl _) rfl (denA_cons (den_var (i := 0) rfl (by first | exact Or.inl rfl | exact Or.inr (Or.inl rfl) | exact Or.inr (Or.inr rfl)) rfl rfl) (denA_cons (den_var (i := 1) rfl (by first | exact Or.inl rfl | exact Or.inr (Or.inl rfl) | exact Or.inr (Or.inr rfl)) rfl rfl) denA_nil rfl) rfl) rfl rfl rfl) rfl)
    (denS_cons (denS_if (denT_cmp sem_lt (den_var (i := 1) rfl (by first | exact Or.inl rfl | exact Or.inr (Or.inl rfl) | exact Or.inr (Or.inr rfl)) rfl rfl) den_int rfl) (denS_cons (denS_set ct (i := 2) rfl (by first | exact Or.inl rfl | exact Or.inr rfl) (by first | exact Or.inl rfl | exact Or.inr rfl) (den_bin sem_sub den_int (den_var (i := 2) rfl (by first | exact Or.inl rfl | exact Or.inr (Or.inl rfl) | exact Or.inr (Or.inr rfl)) rfl rfl)) rfl)
    denS_nil) denS_nil)
    (denS_cons (denS_ret (den_tup (denA_cons (den_bin sem_fdivZ (den_var (i := 0) rfl (by first | exact Or.inl rfl | exact Or.inr (Or.inl rfl) | exact Or.inr (Or.inr rfl)) rfl rfl) (den_var (i := 2) rfl (by first | exact Or.inl rfl | exact Or.inr (Or.inl rfl) | exact Or.inr (Or.inr rfl)) rfl rfl)) (denA_cons (den_bin sem_fdivZ (den_var (i := 1) rfl (by first | exact Or.inl rfl | exact Or.inr (Or.inl rfl) | exact Or.inr (Or.inr rfl)) rfl rfl) (den_var (i := 2) rfl (by first | exact Or.inl rfl | exact Or.inr (Or.inl rfl) | exact Or.inr (Or.inr rfl)) rfl rfl)) denA_nil rfl) rfl)))
    denS_nil)))
theorem d_fraction_of {P : Program} {w : World} {K : PySem.W.Frag} {mg : Str → Option Value} {base : Heap} {R0 fI : Addr} {n : Nat} {L : Nat → FF} (M : MF P w K mg R0 fI) (O : Oks P w K mg base n L) {f : Addr} {cdv : Value} {A : Around} {outer : List Env} {s : Shared} {H : Hp} {E : XK}
    (ct : Ct (BX P w K mg base ["above", "below"] "fraction_of" (defScope (tp 20)) f cdv A outer s H E) n) : DenS (BX P w K mg base ["above", "below"] "fraction_of" (defScope (tp 20)) f cdv A outer s H E) (defBody (tp 20)) (b_fraction_of L) :=
    (denS_cons (denS_if (denT_not (denT_val (den_call (CK.ok O.o_is_whole) ct (Nat.le_refl _) rfl (denA_cons (den_var (i := 0) rfl (by first | exact Or.inl rfl | exact Or.inr (Or.inl rfl) | exact Or.inr (Or.inr rfl)) rfl rfl) denA_nil rfl) rfl rfl rfl) (fun _ => rfl))) (denS_cons (denS_raise ct (ErrsOk.at M.errs rfl) rfl rfl (denA_cons (den_var (i := 0) rfl (by first | exact Or.inl rfl | exact Or.inr (Or.inl rfl) | exact Or.inr (Or.inr rfl)) rfl rfl) denA_nil rfl) rfl rfl)
    denS_nil) denS_nil)
    (denS_cons (denS_if (denW_t (denW_or (denT_not (denT_val (den_call (CK.ok O.o_is_whole) ct (Nat.le_refl _) rfl (denA_cons (den_var (i := 1) rfl (by first | exact Or.inl rfl | exact Or.inr (Or.inl rfl) | exact Or.inr (Or.inr rfl)) rfl rfl) denA_nil rfl) rfl rfl rfl) (fun _ => rfl))) (denW_or1 (denT_cmp (sem_eq ct) (den_var (i := 1) rfl (by first | exact Or.inl rfl | exact Or.inr (Or.inl rfl) | exact Or.inr (Or.inr rfl)) rfl rfl) den_int rfl)))) (denS_cons (denS_raise ct (ErrsOk.at M.errs rfl) rfl rfl (denA_cons (den_var (i := 1) rfl (by first | exact Or.inl rfl | exact Or.inr (Or.inl rfl) | exact Or.inr (Or.inr rfl)) rfl rfl) denA_nil rfl) rfl rfl)
    denS_nil) denS_nil)
    (denS_cons (denS_ret (den_call (CK.ok O.o_lowest_of) ct (Nat.le_refl _) rfl (denA_cons (den_var (i := 0) rfl (by first | exact Or.inl rfl | exact Or.inr (Or.inl rfl) | exact Or.inr (Or.inr rfl)) rfl rfl) (denA_cons (den_var (i := 1) rfl (by first | exact Or.inl rfl | exact Or.inr (Or.inl rfl) | exact Or.inr (Or.inr rfl)) rfl rfl) denA_nil rfl) rfl) rfl rfl rfl))
    denS_nil)))
theorem d_plus_of {P : Program} {w : World} {K : PySem.W.Frag} {mg : Str → Option Value} {base : Heap} {R0 fI : Addr} {n : Nat} {L : Nat → FF} (M : MF P w K mg R0 fI) (O : Oks P w K mg base n L) {f : Addr} {cdv : Value} {A : Around} {outer : List Env} {s : Shared} {H : Hp} {E : XK}
    (ct : Ct (BX P w K mg base ["one", "other"] "plus_of" (defScope (tp 21)) f cdv A outer s H E) n) : DenS (BX P w K mg base ["one", "other"] "plus_of" (defScope (tp 21)) f cdv A outer s H E) (defBody (tp 21)) (b_plus_of L) :=
    (denS_cons (denS_ret (den_call (CK.ok O.o_lowest_of) ct (Nat.le_refl _) rfl (denA_cons (den_fz (den_bin sem_add (den_bin sem_mul (den_ix (den_var (i := 0) rfl (by first | exact Or.inl rfl | exact Or.inr (Or.inl rfl) | exact Or.inr (Or.inr rfl)) rfl rfl) den_int (by intro _ _; rfl)) (den_ix (den_var (i := 1) rfl (by first | exact Or.inl rfl | exact Or.inr (Or.inl rfl) | exact Or.inr (Or.inr rfl)) rfl rfl) den_int (by intro _ _; rfl))) (den_bin sem_mul (den_ix (den_var (i := 1) rfl (by first | exact Or.inl rfl | exact Or.inr (Or.inl rfl) | exact Or.inr (Or.inr rfl)) rfl rfl) den_int (by intro _ _; rfl)) (den_ix (den_var (i := 0) rfl (by first | exact Or.inl rfl | exact Or.inr (Or.inl rfl) | exact Or.inr (Or.inr rfl)) rfl rfl) den_int (by intro _ _; rfl))))) (denA_cons (den_bin sem_mul (den_ix (den_var (i := 0) rfl (by first | exact Or.inl rfl | exact Or.inr (Or.inl rfl) | exact Or.inr (Or.inr rfl)) rfl rfl) den_int (by intro _ _; rfl)) (den_ix (den_var (i := 1) rfl (by first | exact Or.inl rfl | exact Or.inr (Or.inl rfl) | exact Or.inr (Or.inr rfl)) rfl rfl) den_int (by intro _ _; rfl))) denA_nil rfl) rfl) rfl rfl rfl))
    denS_nil)
theorem d_times_of {P : Program} {w : World} {K : PySem.W.Frag} {mg : Str → Option Value} {base : Heap} {R0 fI : Addr} {n : Nat} {L : Nat → FF} (M : MF P w K mg R0 fI) (O : Oks P w K mg base n L) {f : Addr} {cdv : Value} {A : Around} {outer : List Env} {s : Shared} {H : Hp} {E : XK}
    (ct : Ct (BX P w K mg base ["one", "other"] "times_of" (defScope (tp 22)) f cdv A outer s H E) n) : DenS (BX P w K mg base ["one", "other"] "times_of" (defScope (tp 22)) f cdv A outer s H E) (defBody (tp 22)) (b_times_of L) :=
    (denS_cons (denS_ret (den_call (CK.ok O.o_lowest_of) ct (Nat.le_refl _) rfl (denA_cons (den_bin sem_mul (den_ix (den_var (i := 0) rfl (by first | exact Or.inl rfl | exact Or.inr (Or.inl rfl) | exact Or.inr (Or.inr rfl)) rfl rfl) den_int (by intro _ _; rfl)) (den_ix (den_var (i := 1) rfl (by first | exact Or.inl rfl | exact Or.inr (Or.inl rfl) | exact Or.inr (Or.inr rfl)) rfl rfl) den_int (by intro _ _; rfl))) (denA_cons (den_bin sem_mul (den_ix (den_var (i := 0) rfl (by first | exact Or.inl rfl | exact Or.inr (Or.inl rfl) | exact Or.inr (Or.inr rfl)) rfl rfl) den_int (by intro _ _; rfl)) (den_ix (den_var (i := 1) rfl (by first | exact Or.inl rfl | exact Or.inr (Or.inl rfl) | exact Or.inr (Or.inr rfl)) rfl rfl) den_int (by intro _ _; rfl))) denA_nil rfl) rfl) rfl rfl rfl))
    denS_nil)
theorem d_less_than {P : Program} {w : World} {K : PySem.W.Frag} {mg : Str → Option Value} {base : Heap} {R0 fI : Addr} {n : Nat} {L : Nat → FF} (M : MF P w K mg R0 fI) (O : Oks P w K mg base n L) {f : Addr} {cdv : Value} {A : Around} {outer : List Env} {s : Shared} {H : Hp} {E : XK}
    (ct : Ct (BX P w K mg base ["one", "other"] "less_than" (defScope (tp 23)) f cdv A outer s H E) n) : DenS (BX P w K mg base ["one", "other"] "less_than" (defScope (tp 23)) f cdv A outer s H E) (defBody (tp 23)) (b_less_than L) :=
    (denS_cons (denS_ret (den_cmp sem_lt (den_bin sem_mul (den_ix (den_var (i := 0) rfl (by first | exact Or.inl rfl | exact Or.inr (Or.inl rfl) | exact Or.inr (Or.inr rfl)) rfl rfl) den_int (by intro _ _; rfl)) (den_ix (den_var (i := 1) rfl (by first | exact Or.inl rfl | exact Or.inr (Or.inl rfl) | exact Or.inr (Or.inr rfl)) rfl rfl) den_int (by intro _ _; rfl))) (den_bin sem_mul (den_ix (den_var (i := 1) rfl (by first | exact Or.inl rfl | exact Or.inr (Or.inl rfl) | exact Or.inr (Or.inr rfl)) rfl rfl) den_int (by intro _ _; rfl)) (den_ix (den_var (i := 0) rfl (by first | exact Or.inl rfl | exact Or.inr (Or.inl rfl) | exact Or.inr (Or.inr rfl)) rfl rfl) den_int (by intro _ _; rfl))) rfl))
    denS_nil)
theorem d_check_fractions {P : Program} {w : World} {K : PySem.W.Frag} {mg : Str → Option Value} {base : Heap} {R0 fI : Addr} {n : Nat} {L : Nat → FF} (M : MF P w K mg R0 fI) (O : Oks P w K mg base n L) {f : Addr} {cdv : Value} {A : Around} {outer : List Env} {s : Shared} {H : Hp} {E : XK}
    (ct : Ct (BX P w K mg base ["fractions", "item"] "check_fractions" (defScope (tp 24)) f cdv A outer s H E) n) : DenS (BX P w K mg base ["fractions", "item"] "check_fractions" (defScope (tp 24)) f cdv A outer s H E) (defBody (tp 24)) (b_check_fractions L) :=
    (denS_cons (denS_expr (den_call (CK.ok O.o_check_list) ct (Nat.le_refl _) rfl (denA_cons (den_var (i := 0) rfl (by first | exact Or.inl rfl | exact Or.inr (Or.inl rfl) | exact Or.inr (Or.inr rfl)) rfl rfl) denA_nil rfl) rfl rfl rfl) rfl)
    (denS_cons (denS_for ct bx_po (denI_seq (den_var (i := 0) rfl (by first | exact Or.inl rfl | exact Or.inr (Or.inl rfl) | exact Or.inr (Or.inr rfl)) rfl rfl)) (denG_name ct (i := 1) rfl (by first | exact Or.inl rfl | exact Or.inr rfl) (by first | exact Or.inl rfl | exact Or.inr rfl)) (denS_cons (denS_expr (den_call (CK.ok O.o_check_fraction) ct (Nat.le_refl _) rfl (denA_cons (den_var (i := 1) rfl (by first | exact Or.inl rfl | exact Or.inr (Or.inl rfl) | exact Or.inr (Or.inr rfl)) rfl rfl) denA_nil rfl) rfl rfl rfl) rfl)
    denS_nil) (fun _ => rfl))
    denS_nil))
theorem d_sum_of {P : Program} {w : World} {K : PySem.W.Frag} {mg : Str → Option Value} {base : Heap} {R0 fI : Addr} {n : Nat} {L : Nat → FF} (M : MF P w K mg R0 fI) (O : Oks P w K mg base n L) {f : Addr} {cdv : Value} {A : Around} {outer : List Env} {s : Shared} {H : Hp} {E : XK}
    (ct : Ct (BX P w K mg base ["fractions", "total", "item"] "sum_of" (defScope (tp 25)) f cdv A outer s H E) n) : DenS (BX P w K mg base ["fractions", "total", "item"] "sum_of" (defScope (tp 25)) f cdv A outer s H E) (defBody (tp 25)) (b_sum_of L) :=
    (denS_cons (denS_expr (den_call (CK.ok O.o_check_fractions) ct (Nat.le_refl _) rfl (denA_cons (den_var (i := 0) rfl (by first | exact Or.inl rfl | exact Or.inr (Or.inl rfl) | exact Or.inr (Or.inr rfl)) rfl rfl) denA_nil rfl) rfl rfl rfl) rfl)
    (denS_cons (denS_set ct (i := 1) rfl (by first | exact Or.inl rfl | exact Or.inr rfl) (by first | exact Or.inl rfl | exact Or.inr rfl) (den_lit 99 (by kernel_rfl)) rfl)
    (denS_cons (denS_for ct bx_po (denI_seq (den_var (i := 0) rfl (by first | exact Or.inl rfl | exact Or.inr (Or.inl rfl) | exact Or.inr (Or.inr rfl)) rfl rfl)) (denG_name ct (i := 2) rfl (by first | exact Or.inl rfl | exact Or.inr rfl) (by first | exact Or.inl rfl | exact Or.inr rfl)) (denS_cons (denS_set ct (i := 1) rfl (by first | exact Or.inl rfl | exact Or.inr rfl) (by first | exact Or.inl rfl | exact Or.inr rfl) (den_call (CK.ok O.o_plus_of) ct (Nat.le_refl _) rfl (denA_cons (den_var (i := 1) rfl (by first | exact Or.inl rfl | exact Or.inr (Or.inl rfl) | exact Or.inr (Or.inr rfl)) rfl rfl) (denA_cons (den_var (i := 2) rfl (by first | exact Or.inl rfl | exact Or.inr (Or.inl rfl) | exact Or.inr (Or.inr rfl)) rfl rfl) denA_nil rfl) rfl) rfl rfl rfl) rfl)
    denS_nil) (fun _ => rfl))
    (denS_cons (denS_ret (den_var (i := 1) rfl (by first | exact Or.inl rfl | exact Or.inr (Or.inl rfl) | exact Or.inr (Or.inr rfl)) rfl rfl))
    denS_nil))))
theorem d_product_of {P : Program} {w : World} {K : PySem.W.Frag} {mg : Str → Option Value} {base : Heap} {R0 fI : Addr} {n : Nat} {L : Nat → FF} (M : MF P w K mg R0 fI) (O : Oks P w K mg base n L) {f : Addr} {cdv : Value} {A : Around} {outer : List Env} {s : Shared} {H : Hp} {E : XK}
    (ct : Ct (BX P w K mg base ["fractions", "total", "item"] "product_of" (defScope (tp 26)) f cdv A outer s H E) n) : DenS (BX P w K mg base ["fractions", "total", "item"] "product_of" (defScope (tp 26)) f cdv A outer s H E) (defBody (tp 26)) (b_product_of L) :=
    (denS_cons (denS_expr (den_call (CK.ok O.o_check_fractions) ct (Nat.le_refl _) rfl (denA_cons (den_var (i := 0) rfl (by first | exact Or.inl rfl | exact Or.inr (Or.inl rfl) | exact Or.inr (Or.inr rfl)) rfl rfl) denA_nil rfl) rfl rfl rfl) rfl)
    (denS_cons (denS_set ct (i := 1) rfl (by first | exact Or.inl rfl | exact Or.inr rfl) (by first | exact Or.inl rfl | exact Or.inr rfl) (den_lit 99 (by kernel_rfl)) rfl)
    (denS_cons (denS_for ct bx_po (denI_seq (den_var (i := 0) rfl (by first | exact Or.inl rfl | exact Or.inr (Or.inl rfl) | exact Or.inr (Or.inr rfl)) rfl rfl)) (denG_name ct (i := 2) rfl (by first | exact Or.inl rfl | exact Or.inr rfl) (by first | exact Or.inl rfl | exact Or.inr rfl)) (denS_cons (denS_set ct (i := 1) rfl (by first | exact Or.inl rfl | exact Or.inr rfl) (by first | exact Or.inl rfl | exact Or.inr rfl) (den_call (CK.ok O.o_times_of) ct (Nat.le_refl _) rfl (denA_cons (den_var (i := 1) rfl (by first | exact Or.inl rfl | exact Or.inr (Or.inl rfl) | exact Or.inr (Or.inr rfl)) rfl rfl) (denA_cons (den_var (i := 2) rfl (by first | exact Or.inl rfl | exact Or.inr (Or.inl rfl) | exact Or.inr (Or.inr rfl)) rfl rfl) denA_nil rfl) rfl) rfl rfl rfl) rfl)
    denS_nil) (fun _ => rfl))
    (denS_cons (denS_ret (den_var (i := 1) rfl (by first | exact Or.inl rfl | exact Or.inr (Or.inl rfl) | exact Or.inr (Or.inr rfl)) rfl rfl))
    denS_nil))))
theorem d_is_less {P : Program} {w : World} {K : PySem.W.Frag} {mg : Str → Option Value} {base : Heap} {R0 fI : Addr} {n : Nat} {L : Nat → FF} (M : MF P w K mg R0 fI) (O : Oks P w K mg base n L) {f : Addr} {cdv : Value} {A : Around} {outer : List Env} {s : Shared} {H : Hp} {E : XK}
    (ct : Ct (BX P w K mg base ["one", "other"] "is_less" (defScope (tp 27)) f cdv A outer s H E) n) : DenS (BX P w K mg base ["one", "other"] "is_less" (defScope (tp 27)) f cdv A outer s H E) (defBody (tp 27)) (b_is_less L) :=
    (denS_cons (denS_expr (den_call (CK.ok O.o_check_fraction) ct (Nat.le_refl _) rfl (denA_cons (den_var (i := 0) rfl (by first | exact Or.inl rfl | exact Or.inr (Or.inl rfl) | exact Or.inr (Or.inr rfl)) rfl rfl) denA_nil rfl) rfl rfl rfl) rfl)
    (denS_cons (denS_expr (den_call (CK.ok O.o_check_fraction) ct (Nat.le_refl _) rfl (denA_cons (den_var (i := 1) rfl (by first | exact Or.inl rfl | exact Or.inr (Or.inl rfl) | exact Or.inr (Or.inr rfl)) rfl rfl) denA_nil rfl) rfl rfl rfl) rfl)
    (denS_cons (denS_ret (den_call (CK.ok O.o_less_than) ct (Nat.le_refl _) rfl (denA_cons (den_var (i := 0) rfl (by first | exact Or.inl rfl | exact Or.inr (Or.inl rfl) | exact Or.inr (Or.inr rfl)) rfl rfl) (denA_cons (den_var (i := 1) rfl (by first | exact Or.inl rfl | exact Or.inr (Or.inl rfl) | exact Or.inr (Or.inr rfl)) rfl rfl) denA_nil rfl) rfl) rfl rfl rfl))
    denS_nil)))
theorem d__law_hash {P : Program} {w : World} {K : PySem.W.Frag} {mg : Str → Option Value} {base : Heap} {R0 fI : Addr} {n : Nat} {L : Nat → FF} (M : MF P w K mg R0 fI) (O : Oks P w K mg base n L) {f : Addr} {cdv : Value} {A : Around} {outer : List Env} {s : Shared} {H : Hp} {E : XK}
    (ct : Ct (BX P w K mg base ["seed", "index", "mixed"] "_law_hash" (defScope (tp 29)) f cdv A outer s H E) n) : DenS (BX P w K mg base ["seed", "index", "mixed"] "_law_hash" (defScope (tp 29)) f cdv A outer s H E) (defBody (tp 29)) (b__law_hash L) :=
    (denS_cons (denS_set ct (i := 2) rfl (by first | exact Or.inl rfl | exact Or.inr rfl) (by first | exact Or.inl rfl | exact Or.inr rfl) (den_bin sem_mod (den_callTy (sem_intT) rfl M.f_int (by decide +kernel) (denA_cons (den_bin sem_add (den_bin sem_add (den_bin sem_add (den_bin sem_mul (den_var (i := 0) rfl (by first | exact Or.inl rfl | exact Or.inr (Or.inl rfl) | exact Or.inr (Or.inr rfl)) rfl rfl) den_int) (den_bin sem_mul (den_bin sem_mul den_int (den_var (i := 1) rfl (by first | exact Or.inl rfl | exact Or.inr (Or.inl rfl) | exact Or.inr (Or.inr rfl)) rfl rfl)) (den_var (i := 1) rfl (by first | exact Or.inl rfl | exact Or.inr (Or.inl rfl) | exact Or.inr (Or.inr rfl)) rfl rfl))) (den_bin sem_mul den_int (den_var (i := 1) rfl (by first | exact Or.inl rfl | exact Or.inr (Or.inl rfl) | exact Or.inr (Or.inr rfl)) rfl rfl))) den_int) denA_nil rfl) (by decide) rfl rfl rfl) den_int) rfl)
    (denS_cons (denS_set ct (i := 2) rfl (by first | exact Or.inl rfl | exact Or.inr rfl) (by first | exact Or.inl rfl | exact Or.inr rfl) (den_bin sem_mod (den_callTy (sem_intT) rfl M.f_int (by decide +kernel) (denA_cons (den_bin sem_add (den_bin sem_add (den_bin sem_mul (den_var (i := 2) rfl (by first | exact Or.inl rfl | exact Or.inr (Or.inl rfl) | exact Or.inr (Or.inr rfl)) rfl rfl) (den_var (i := 2) rfl (by first | exact Or.inl rfl | exact Or.inr (Or.inl rfl) | exact Or.inr (Or.inr rfl)) rfl rfl)) (den_bin sem_mul den_int (den_var (i := 1) rfl (by first | exact Or.inl rfl | exact Or.inr (Or.inl rfl) | exact Or.inr (Or.inr rfl)) rfl rfl))) den_int) denA_nil rfl) (by decide) rfl rfl rfl) den_int) rfl)
    (denS_cons (denS_ret (den_bin sem_mod (den_callTy (sem_intT) rfl M.f_int (by decide +kernel) (denA_cons (den_bin sem_mul (den_var (i := 2) rfl (by first | exact Or.inl rfl | exact Or.inr (Or.inl rfl) | exact Or.inr (Or.inr rfl)) rfl rfl) den_int) denA_nil rfl) (by decide) rfl rfl rfl) den_int))
    denS_nil)))
theorem d__law_cell {P : Program} {w : World} {K : PySem.W.Frag} {mg : Str → Option Value} {base : Heap} {R0 fI : Addr} {n : Nat} {L : Nat → FF} (M : MF P w K mg R0 fI) (O : Oks P w K mg base n L) {f : Addr} {cdv : Value} {A : Around} {outer : List Env} {s : Shared} {H : Hp} {E : XK}
    (ct : Ct (BX P w K mg base ["script", "index"] "_law_cell" (defScope (tp 30)) f cdv A outer s H E) n) : DenS (BX P w K mg base ["script", "index"] "_law_cell" (defScope (tp 30)) f cdv A outer s H E) (defBody (tp 30)) (b__law_cell L) :=
    (denS_cons (denS_if (denT_cmp sem_lt (den_var (i := 1) rfl (by first | exact Or.inl rfl | exact Or.inr (Or.inl rfl) | exact Or.inr (Or.inr rfl)) rfl rfl) (den_callB (sem_len) rfl M.f_len (by decide +kernel) (denA_cons (den_var (i := 0) rfl (by first | exact Or.inl rfl | exact Or.inr (Or.inl rfl) | exact Or.inr (Or.inr rfl)) rfl rfl) denA_nil rfl) (by decide) rfl rfl rfl) rfl) (denS_cons (denS_ret (den_ix (den_var (i := 0) rfl (by first | exact Or.inl rfl | exact Or.inr (Or.inl rfl) | exact Or.inr (Or.inr rfl)) rfl rfl) (den_var (i := 1) rfl (by first | exact Or.inl rfl | exact Or.inr (Or.inl rfl) | exact Or.inr (Or.inr rfl)) rfl rfl) (by intro _ _; rfl)))
    denS_nil) denS_nil)
    (denS_cons (denS_ret (den_bin sem_mod (den_callB (sem_sum ct) rfl M.f_sum (by decide +kernel) (denA_cons (den_sl (den_var (i := 0) rfl (by first | exact Or.inl rfl | exact Or.inr (Or.inl rfl) | exact Or.inr (Or.inr rfl)) rfl rfl) denO_none (denO_some den_int)) denA_nil rfl) (by decide) rfl rfl rfl) den_int))
    denS_nil))
theorem d__law_generator {P : Program} {w : World} {K : PySem.W.Frag} {mg : Str → Option Value} {base : Heap} {R0 fI : Addr} {n : Nat} {L : Nat → FF} (M : MF P w K mg R0 fI) (O : Oks P w K mg base n L) {f : Addr} {cdv : Value} {A : Around} {outer : List Env} {s : Shared} {H : Hp} {E : XK}
    (ct : Ct (BX P w K mg base ["script", "index", "seed"] "_law_generator" (defScope (tp 31)) f cdv A outer s H E) n) : DenS (BX P w K mg base ["script", "index", "seed"] "_law_generator" (defScope (tp 31)) f cdv A outer s H E) (defBody (tp 31)) (b__law_generator L) :=
    (denS_cons (denS_set ct (i := 2) rfl (by first | exact Or.inl rfl | exact Or.inr rfl) (by first | exact Or.inl rfl | exact Or.inr rfl) (den_call (CK.ok O.o__law_cell) ct (Nat.le_refl _) rfl (denA_cons (den_var (i := 0) rfl (by first | exact Or.inl rfl | exact Or.inr (Or.inl rfl) | exact Or.inr (Or.inr rfl)) rfl rfl) (denA_cons (den_var (i := 1) rfl (by first | exact Or.inl rfl | exact Or.inr (Or.inl rfl) | exact Or.inr (Or.inr rfl)) rfl rfl) denA_nil rfl) rfl) rfl rfl rfl) rfl)
    (denS_cons (denS_ret (den_lst (denA_cons (den_bin sem_mod (den_callTy (sem_intT) rfl M.f_int (by decide +kernel) (denA_cons (den_callB (sem_max ct) rfl M.f_max (by decide +kernel) (denA_cons (den_bin sem_sub (den_var (i := 2) rfl (by first | exact Or.inl rfl | exact Or.inr (Or.inl rfl) | exact Or.inr (Or.inr rfl)) rfl rfl) (den_bin sem_pow den_int den_int)) (denA_cons den_int denA_nil rfl) rfl) (by decide) rfl rfl rfl) denA_nil rfl) (by decide) rfl rfl rfl) (den_bin sem_pow (den_bin sem_pow den_int den_int) den_int)) (denA_cons (den_bin sem_mod (den_callTy (sem_intT) rfl M.f_int (by decide +kernel) (denA_cons (den_var (i := 2) rfl (by first | exact Or.inl rfl | exact Or.inr (Or.inl rfl) | exact Or.inr (Or.inr rfl)) rfl rfl) denA_nil rfl) (by decide) rfl rfl rfl) den_int) (denA_cons (den_bin sem_mul den_int (den_var (i := 1) rfl (by first | exact Or.inl rfl | exact Or.inr (Or.inl rfl) | exact Or.inr (Or.inr rfl)) rfl rfl)) denA_nil rfl) rfl) rfl)))
    denS_nil))
theorem d__law_random {P : Program} {w : World} {K : PySem.W.Frag} {mg : Str → Option Value} {base : Heap} {R0 fI : Addr} {n : Nat} {L : Nat → FF} (M : MF P w K mg R0 fI) (O : Oks P w K mg base n L) {f : Addr} {cdv : Value} {A : Around} {outer : List Env} {s : Shared} {H : Hp} {E : XK}
    (ct : Ct (BX P w K mg base ["generator", "bound", "drawn", "turn"] "_law_random" (defScope (tp 32)) f cdv A outer s H E) n) : DenS (BX P w K mg base ["generator", "bound", "drawn", "turn"] "_law_random" (defScope (tp 32)) f cdv A outer s H E) (defBody (tp 32)) (b__law_random L) :=
    (denS_cons (denS_if (denT_cmp sem_gt (den_ix (den_var (i := 0) rfl (by first | exact Or.inl rfl | exact Or.inr (Or.inl rfl) | exact Or.inr (Or.inr rfl)) rfl rfl) den_int (by intro _ _; rfl)) den_int rfl) (denS_cons (denS_set ct (i := 2) rfl (by first | exact Or.inl rfl | exact Or.inr rfl) (by first | exact Or.inl rfl | exact Or.inr rfl) (den_bin sem_mod (den_callTy (sem_intT) rfl M.f_int (by decide +kernel) (denA_cons (den_ix (den_var (i := 0) rfl (by first | exact Or.inl rfl | exact Or.inr (Or.inl rfl) | exact Or.inr (Or.inr rfl)) rfl rfl) den_int (by intro _ _; rfl)) denA_nil rfl) (by decide) rfl rfl rfl) (den_var (i := 1) rfl (by first | exact Or.inl rfl | exact Or.inr (Or.inl rfl) | exact Or.inr (Or.inr rfl)) rfl rfl)) rfl)
    (denS_cons (denS_boxSet (i := 0) (j := 0) rfl (by first | exact Or.inl rfl | exact Or.inr (Or.inl rfl) | exact Or.inr (Or.inr rfl)) rfl rfl (den_bin sem_fdiv (den_ix (den_var (i := 0) rfl (by first | exact Or.inl rfl | exact Or.inr (Or.inl rfl) | exact Or.inr (Or.inr rfl)) rfl rfl) den_int (by intro _ _; rfl)) (den_var (i := 1) rfl (by first | exact Or.inl rfl | exact Or.inr (Or.inl rfl) | exact Or.inr (Or.inr rfl)) rfl rfl)) (fun _ => rfl) rfl rfl rfl)
    (denS_cons (denS_ret (den_var (i := 2) rfl (by first | exact Or.inl rfl | exact Or.inr (Or.inl rfl) | exact Or.inr (Or.inr rfl)) rfl rfl))
    denS_nil))) denS_nil)
    (denS_cons (denS_set ct (i := 2) rfl (by first | exact Or.inl rfl | exact Or.inr rfl) (by first | exact Or.inl rfl | exact Or.inr rfl) den_int rfl)
    (denS_cons (denS_for ct bx_po (denI_rg1 rfl M.f_range (denA_cons (den_fz (den_bin sem_add den_int (den_bin sem_fdiv (den_bits (den_var (i := 1) rfl (by first | exact Or.inl rfl | exact Or.inr (Or.inl rfl) | exact Or.inr (Or.inr rfl)) rfl rfl) rfl rfl) den_int))) denA_nil rfl) rfl) (denG_name ct (i := 3) rfl (by first | exact Or.inl rfl | exact Or.inr rfl) (by first | exact Or.inl rfl | exact Or.inr rfl)) (denS_cons (denS_boxSet (i := 0) (j := 2) rfl (by first | exact Or.inl rfl | exact Or.inr (Or.inl rfl) | exact Or.inr (Or.inr rfl)) rfl rfl (den_fz (den_bin sem_add (den_ix (den_var (i := 0) rfl (by first | exact Or.inl rfl | exact Or.inr (Or.inl rfl) | exact Or.inr (Or.inr rfl)) rfl rfl) den_int (by intro _ _; rfl)) den_int)) (fun _ => rfl) rfl rfl rfl)
    (denS_cons (denS_set ct (i := 2) rfl (by first | exact Or.inl rfl | exact Or.inr rfl) (by first | exact Or.inl rfl | exact Or.inr rfl) (den_fz (den_bin sem_add (den_bin sem_mul (den_var (i := 2) rfl (by first | exact Or.inl rfl | exact Or.inr (Or.inl rfl) | exact Or.inr (Or.inr rfl)) rfl rfl) den_int) (den_call (CK.ok O.o__law_hash) ct (Nat.le_refl _) rfl (denA_cons (den_ix (den_var (i := 0) rfl (by first | exact Or.inl rfl | exact Or.inr (Or.inl rfl) | exact Or.inr (Or.inr rfl)) rfl rfl) den_int (by intro _ _; rfl)) (denA_cons (den_ix (den_var (i := 0) rfl (by first | exact Or.inl rfl | exact Or.inr (Or.inl rfl) | exact Or.inr (Or.inr rfl)) rfl rfl) den_int (by intro _ _; rfl)) denA_nil rfl) rfl) rfl rfl rfl))) rfl)
    denS_nil)) (fun _ => rfl))
    (denS_cons (denS_ret (den_bin sem_mod (den_callTy (sem_intT) rfl M.f_int (by decide +kernel) (denA_cons (den_var (i := 2) rfl (by first | exact Or.inl rfl | exact Or.inr (Or.inl rfl) | exact Or.inr (Or.inr rfl)) rfl rfl) denA_nil rfl) (by decide) rfl rfl rfl) (den_var (i := 1) rfl (by first | exact Or.inl rfl | exact Or.inr (Or.inl rfl) | exact Or.inr (Or.inr rfl)) rfl rfl)))
    denS_nil))))
theorem d__law_pick {P : Program} {w : World} {K : PySem.W.Frag} {mg : Str → Option Value} {base : Heap} {R0 fI : Addr} {n : Nat} {L : Nat → FF} (M : MF P w K mg R0 fI) (O : Oks P w K mg base n L) {f : Addr} {cdv : Value} {A : Around} {outer : List Env} {s : Shared} {H : Hp} {E : XK}
    (ct : Ct (BX P w K mg base ["generator", "things"] "_law_pick" (defScope (tp 33)) f cdv A outer s H E) n) : DenS (BX P w K mg base ["generator", "things"] "_law_pick" (defScope (tp 33)) f cdv A outer s H E) (defBody (tp 33)) (b__law_pick L) :=
    (denS_cons (denS_ret (den_ix (den_var (i := 1) rfl (by first | exact Or.inl rfl | exact Or.inr (Or.inl rfl) | exact Or.inr (Or.inr rfl)) rfl rfl) (den_call (CK.ok O.o__law_random) ct (Nat.le_refl _) rfl (denA_cons (den_var (i := 0) rfl (by first | exact Or.inl rfl | exact Or.inr (Or.inl rfl) | exact Or.inr (Or.inr rfl)) rfl rfl) (denA_cons (den_callB (sem_len) rfl M.f_len (by decide +kernel) (denA_cons (den_var (i := 1) rfl (by first | exact Or.inl rfl | exact Or.inr (Or.inl rfl) | exact Or.inr (Or.inr rfl)) rfl rfl) denA_nil rfl) (by decide) rfl rfl rfl) denA_nil rfl) rfl) rfl rfl rfl) (by intro _ _; rfl)))
    denS_nil)
theorem d__law_copied {P : Program} {w : World} {K : PySem.W.Frag} {mg : Str → Option Value} {base : Heap} {R0 fI : Addr} {n : Nat} {L : Nat → FF} (M : MF P w K mg R0 fI) (O : Oks P w K mg base n L) {f : Addr} {cdv : Value} {A : Around} {outer : List Env} {s : Shared} {H : Hp} {E : XK}
    (ct : Ct (BX P w K mg base ["value", "item", "key"] "_law_copied" (defScope (tp 34)) f cdv A outer s H E) n) : DenS (BX P w K mg base ["value", "item", "key"] "_law_copied" (defScope (tp 34)) f cdv A outer s H E) (defBody (tp 34)) (b__law_copied L) :=
    (denS_cons (denS_if (denT_val (den_isi (t := .list) (den_var (i := 0) rfl (by first | exact Or.inl rfl | exact Or.inr (Or.inl rfl) | exact Or.inr (Or.inr rfl)) rfl rfl) rfl M.f_isinstance rfl M.f_list (by decide +kernel) (by decide) rfl rfl rfl rfl) (fun _ => rfl)) (denS_cons (denS_ret (den_fz (den_lc ct (own := [("item", 1)]) (blkOk_by rfl) (denI_seq (den_var (i := 0) rfl (by first | exact Or.inl rfl | exact Or.inr (Or.inl rfl) | exact Or.inr (Or.inr rfl)) rfl rfl)) (by decide) (fun s H C cl fp => (denG_name (Ct.blk ct) (i := 1) rfl (by first | exact Or.inl rfl | exact Or.inr rfl) (by first | exact Or.inl rfl | exact Or.inr rfl))) (fun s H C cl fp => denTs_nil) (fun s H C cl fp => (den_call (CK.ok O.o__law_copied) (Ct.blk ct) (Nat.le_refl _) rfl (denA_cons (den_var (i := 1) rfl (by first | exact Or.inl rfl | exact Or.inr (Or.inl rfl) | exact Or.inr (Or.inr rfl)) rfl rfl) denA_nil rfl) rfl rfl rfl)) (fun _ => rfl))))
    denS_nil) denS_nil)
    (denS_cons (denS_if (denT_val (den_isi (t := .tuple) (den_var (i := 0) rfl (by first | exact Or.inl rfl | exact Or.inr (Or.inl rfl) | exact Or.inr (Or.inr rfl)) rfl rfl) rfl M.f_isinstance rfl M.f_tuple (by decide +kernel) (by decide) rfl rfl rfl rfl) (fun _ => rfl)) (denS_cons (denS_ret (den_callTy (sem_tuple) rfl M.f_tuple (by decide +kernel) (denA_cons (den_lc ct (own := [("item", 1)]) (blkOk_by rfl) (denI_seq (den_var (i := 0) rfl (by first | exact Or.inl rfl | exact Or.inr (Or.inl rfl) | exact Or.inr (Or.inr rfl)) rfl rfl)) (by decide) (fun s H C cl fp => (denG_name (Ct.blk ct) (i := 1) rfl (by first | exact Or.inl rfl | exact Or.inr rfl) (by first | exact Or.inl rfl | exact Or.inr rfl))) (fun s H C cl fp => denTs_nil) (fun s H C cl fp => (den_call (CK.ok O.o__law_copied) (Ct.blk ct) (Nat.le_refl _) rfl (denA_cons (den_var (i := 1) rfl (by first | exact Or.inl rfl | exact Or.inr (Or.inl rfl) | exact Or.inr (Or.inr rfl)) rfl rfl) denA_nil rfl) rfl rfl rfl)) (fun _ => rfl)) denA_nil rfl) (by decide) rfl rfl rfl))
    denS_nil) denS_nil)
    (denS_cons (denS_ret (den_fz (den_if (denT_val (den_isi (t := .dict) (den_var (i := 0) rfl (by first | exact Or.inl rfl | exact Or.inr (Or.inl rfl) | exact Or.inr (Or.inr rfl)) rfl rfl) rfl M.f_isinstance rfl M.f_dict (by decide +kernel) (by decide) rfl rfl rfl rfl) (fun _ => rfl)) (den_callTy (sem_dict ct) rfl M.f_dict (by decide +kernel) (denA_cons (den_lc ct (own := [("key", 2)]) (blkOk_by rfl) (denI_seq (den_var (i := 0) rfl (by first | exact Or.inl rfl | exact Or.inr (Or.inl rfl) | exact Or.inr (Or.inr rfl)) rfl rfl)) (by decide) (fun s H C cl fp => (denG_name (Ct.blk ct) (i := 2) rfl (by first | exact Or.inl rfl | exact Or.inr rfl) (by first | exact Or.inl rfl | exact Or.inr rfl))) (fun s H C cl fp => denTs_nil) (fun s H C cl fp => (den_tup (denA_cons (den_var (i := 2) rfl (by first | exact Or.inl rfl | exact Or.inr (Or.inl rfl) | exact Or.inr (Or.inr rfl)) rfl rfl) (denA_cons (den_call (CK.ok O.o__law_copied) (Ct.blk ct) (Nat.le_refl _) rfl (denA_cons (den_dget (Ct.blk ct) (den_var (i := 0) rfl (by first | exact Or.inl rfl | exact Or.inr (Or.inl rfl) | exact Or.inr (Or.inr rfl)) rfl rfl) (den_var (i := 2) rfl (by first | exact Or.inl rfl | exact Or.inr (Or.inl rfl) | exact Or.inr (Or.inr rfl)) rfl rfl) (by intro _ _; rfl)) denA_nil rfl) rfl rfl rfl) denA_nil rfl) rfl))) (fun _ => rfl)) denA_nil rfl) (by decide) rfl rfl rfl) (den_var (i := 0) rfl (by first | exact Or.inl rfl | exact Or.inr (Or.inl rfl) | exact Or.inr (Or.inr rfl)) rfl rfl))))
    denS_nil)))
theorem d__law_exact {P : Program} {w : World} {K : PySem.W.Frag} {mg : Str → Option Value} {base : Heap} {R0 fI : Addr} {n : Nat} {L : Nat → FF} (M : MF P w K mg R0 fI) (O : Oks P w K mg base n L) {f : Addr} {cdv : Value} {A : Around} {outer : List Env} {s : Shared} {H : Hp} {E : XK}
    (ct : Ct (BX P w K mg base ["told", "due", "key", "one", "other"] "_law_exact" (defScope (tp 35)) f cdv A outer s H E) n) : DenS (BX P w K mg base ["told", "due", "key", "one", "other"] "_law_exact" (defScope (tp 35)) f cdv A outer s H E) (defBody (tp 35)) (b__law_exact L) :=
    (denS_cons (denS_if (denT_val (den_isi (t := .dict) (den_var (i := 1) rfl (by first | exact Or.inl rfl | exact Or.inr (Or.inl rfl) | exact Or.inr (Or.inr rfl)) rfl rfl) rfl M.f_isinstance rfl M.f_dict (by decide +kernel) (by decide) rfl rfl rfl rfl) (fun _ => rfl)) (denS_cons (denS_ret (den_and (den_isi (t := .dict) (den_var (i := 0) rfl (by first | exact Or.inl rfl | exact Or.inr (Or.inl rfl) | exact Or.inr (Or.inr rfl)) rfl rfl) rfl M.f_isinstance rfl M.f_dict (by decide +kernel) (by decide) rfl rfl rfl rfl) (den_and (den_cmp (sem_eq ct) (den_callB (sem_len) rfl M.f_len (by decide +kernel) (denA_cons (den_var (i := 0) rfl (by first | exact Or.inl rfl | exact Or.inr (Or.inl rfl) | exact Or.inr (Or.inr rfl)) rfl rfl) denA_nil rfl) (by decide) rfl rfl rfl) (den_callB (sem_len) rfl M.f_len (by decide +kernel) (denA_cons (den_var (i := 1) rfl (by first | exact Or.inl rfl | exact Or.inr (Or.inl rfl) | exact Or.inr (Or.inr rfl)) rfl rfl) denA_nil rfl) (by decide) rfl rfl rfl) rfl) (den_one (den_cmp (sem_eq ct) (den_lc ct (own := [("key", 2)]) (blkOk_by rfl) (denI_seq (den_var (i := 1) rfl (by first | exact Or.inl rfl | exact Or.inr (Or.inl rfl) | exact Or.inr (Or.inr rfl)) rfl rfl)) (by decide) (fun s H C cl fp => (denG_name (Ct.blk ct) (i := 2) rfl (by first | exact Or.inl rfl | exact Or.inr rfl) (by first | exact Or.inl rfl | exact Or.inr rfl))) (fun s H C cl fp => (denTs_one (denW_t (denW_or (denT_dnotin (Ct.blk ct) (den_var (i := 2) rfl (by first | exact Or.inl rfl | exact Or.inr (Or.inl rfl) | exact Or.inr (Or.inr rfl)) rfl rfl) (den_var (i := 0) rfl (by first | exact Or.inl rfl | exact Or.inr (Or.inl rfl) | exact Or.inr (Or.inr rfl)) rfl rfl) rfl) (denW_or1 (denT_not (denT_val (den_call (CK.ok O.o__law_exact) (Ct.blk ct) (Nat.le_refl _) rfl (denA_cons (den_dget (Ct.blk ct) (den_var (i := 0) rfl (by first | exact Or.inl rfl | exact Or.inr (Or.inl rfl) | exact Or.inr (Or.inr rfl)) rfl rfl) (den_var (i := 2) rfl (by first | exact Or.inl rfl | exact Or.inr (Or.inl rfl) | exact Or.inr (Or.inr rfl)) rfl rfl) (by intro _ _; rfl)) (denA_cons (den_dget (Ct.blk ct) (den_var (i := 1) rfl (by first | exact Or.inl rfl | exact Or.inr (Or.inl rfl) | exact Or.inr (Or.inr rfl)) rfl rfl) (den_var (i := 2) rfl (by first | exact Or.inl rfl | exact Or.inr (Or.inl rfl) | exact Or.inr (Or.inr rfl)) rfl rfl) (by intro _ _; rfl)) denA_nil rfl) rfl) rfl rfl rfl) (fun _ => rfl)))))))) (fun s H C cl fp => (den_var (i := 2) rfl (by first | exact Or.inl rfl | exact Or.inr (Or.inl rfl) | exact Or.inr (Or.inr rfl)) rfl rfl)) (fun _ => rfl)) (den_lit 99 (by kernel_rfl)) rfl)))))
    denS_nil) denS_nil)
    (denS_cons (denS_if (denT_val (den_isi (t := .list) (den_var (i := 1) rfl (by first | exact Or.inl rfl | exact Or.inr (Or.inl rfl) | exact Or.inr (Or.inr rfl)) rfl rfl) rfl M.f_isinstance rfl M.f_list (by decide +kernel) (by decide) rfl rfl rfl rfl) (fun _ => rfl)) (denS_cons (denS_ret (den_and (den_isi (t := .list) (den_var (i := 0) rfl (by first | exact Or.inl rfl | exact Or.inr (Or.inl rfl) | exact Or.inr (Or.inr rfl)) rfl rfl) rfl M.f_isinstance rfl M.f_list (by decide +kernel) (by decide) rfl rfl rfl rfl) (den_and (den_cmp (sem_eq ct) (den_callB (sem_len) rfl M.f_len (by decide +kernel) (denA_cons (den_var (i := 0) rfl (by first | exact Or.inl rfl | exact Or.inr (Or.inl rfl) | exact Or.inr (Or.inr rfl)) rfl rfl) denA_nil rfl) (by decide) rfl rfl rfl) (den_callB (sem_len) rfl M.f_len (by decide +kernel) (denA_cons (den_var (i := 1) rfl (by first | exact Or.inl rfl | exact Or.inr (Or.inl rfl) | exact Or.inr (Or.inr rfl)) rfl rfl) denA_nil rfl) (by decide) rfl rfl rfl) rfl) (den_one (den_cmp (sem_notIn ct) den_bl (den_lc ct (own := [("one", 3), ("other", 4)]) (blkOk_by rfl) (denI_zip rfl M.f_zip (denA_cons (den_var (i := 0) rfl (by first | exact Or.inl rfl | exact Or.inr (Or.inl rfl) | exact Or.inr (Or.inr rfl)) rfl rfl) (denA_cons (den_var (i := 1) rfl (by first | exact Or.inl rfl | exact Or.inr (Or.inl rfl) | exact Or.inr (Or.inr rfl)) rfl rfl) denA_nil rfl) rfl) rfl rfl) (by decide) (fun s H C cl fp => (denG_tup (Ct.blk ct) (denGs_cons (denG_name (Ct.blk ct) (i := 3) rfl (by first | exact Or.inl rfl | exact Or.inr rfl) (by first | exact Or.inl rfl | exact Or.inr rfl)) (denGs_cons (denG_name (Ct.blk ct) (i := 4) rfl (by first | exact Or.inl rfl | exact Or.inr rfl) (by first | exact Or.inl rfl | exact Or.inr rfl)) denGs_nil rfl) rfl) rfl rfl)) (fun s H C cl fp => denTs_nil) (fun s H C cl fp => (den_call (CK.ok O.o__law_exact) (Ct.blk ct) (Nat.le_refl _) rfl (denA_cons (den_var (i := 3) rfl (by first | exact Or.inl rfl | exact Or.inr (Or.inl rfl) | exact Or.inr (Or.inr rfl)) rfl rfl) (denA_cons (den_var (i := 4) rfl (by first | exact Or.inl rfl | exact Or.inr (Or.inl rfl) | exact Or.inr (Or.inr rfl)) rfl rfl) denA_nil rfl) rfl) rfl rfl rfl)) (fun _ => rfl)) rfl)))))
    denS_nil) denS_nil)
    (denS_cons (denS_if (denT_val (den_isi (t := .tuple) (den_var (i := 1) rfl (by first | exact Or.inl rfl | exact Or.inr (Or.inl rfl) | exact Or.inr (Or.inr rfl)) rfl rfl) rfl M.f_isinstance rfl M.f_tuple (by decide +kernel) (by decide) rfl rfl rfl rfl) (fun _ => rfl)) (denS_cons (denS_ret (den_and (den_isi (t := .tuple) (den_var (i := 0) rfl (by first | exact Or.inl rfl | exact Or.inr (Or.inl rfl) | exact Or.inr (Or.inr rfl)) rfl rfl) rfl M.f_isinstance rfl M.f_tuple (by decide +kernel) (by decide) rfl rfl rfl rfl) (den_and (den_cmp (sem_eq ct) (den_callB (sem_len) rfl M.f_len (by decide +kernel) (denA_cons (den_var (i := 0) rfl (by first | exact Or.inl rfl | exact Or.inr (Or.inl rfl) | exact Or.inr (Or.inr rfl)) rfl rfl) denA_nil rfl) (by decide) rfl rfl rfl) (den_callB (sem_len) rfl M.f_len (by decide +kernel) (denA_cons (den_var (i := 1) rfl (by first | exact Or.inl rfl | exact Or.inr (Or.inl rfl) | exact Or.inr (Or.inr rfl)) rfl rfl) denA_nil rfl) (by decide) rfl rfl rfl) rfl) (den_one (den_cmp (sem_notIn ct) den_bl (den_lc ct (own := [("one", 3), ("other", 4)]) (blkOk_by rfl) (denI_zip rfl M.f_zip (denA_cons (den_var (i := 0) rfl (by first | exact Or.inl rfl | exact Or.inr (Or.inl rfl) | exact Or.inr (Or.inr rfl)) rfl rfl) (denA_cons (den_var (i := 1) rfl (by first | exact Or.inl rfl | exact Or.inr (Or.inl rfl) | exact Or.inr (Or.inr rfl)) rfl rfl) denA_nil rfl) rfl) rfl rfl) (by decide) (fun s H C cl fp => (denG_tup (Ct.blk ct) (denGs_cons (denG_name (Ct.blk ct) (i := 3) rfl (by first | exact Or.inl rfl | exact Or.inr rfl) (by first | exact Or.inl rfl | exact Or.inr rfl)) (denGs_cons (denG_name (Ct.blk ct) (i := 4) rfl (by first | exact Or.inl rfl | exact Or.inr rfl) (by first | exact Or.inl rfl | exact Or.inr rfl)) denGs_nil rfl) rfl) rfl rfl)) (fun s H C cl fp => denTs_nil) (fun s H C cl fp => (den_call (CK.ok O.o__law_exact) (Ct.blk ct) (Nat.le_refl _) rfl (denA_cons (den_var (i := 3) rfl (by first | exact Or.inl rfl | exact Or.inr (Or.inl rfl) | exact Or.inr (Or.inr rfl)) rfl rfl) (denA_cons (den_var (i := 4) rfl (by first | exact Or.inl rfl | exact Or.inr (Or.inl rfl) | exact Or.inr (Or.inr rfl)) rfl rfl) denA_nil rfl) rfl) rfl rfl rfl)) (fun _ => rfl)) rfl)))))
    denS_nil) denS_nil)
    (denS_cons (denS_if (denT_isN (den_var (i := 1) rfl (by first | exact Or.inl rfl | exact Or.inr (Or.inl rfl) | exact Or.inr (Or.inr rfl)) rfl rfl)) (denS_cons (denS_ret (den_isN (den_var (i := 0) rfl (by first | exact Or.inl rfl | exact Or.inr (Or.inl rfl) | exact Or.inr (Or.inr rfl)) rfl rfl)))
    denS_nil) denS_nil)
    (denS_cons (denS_if (denT_isB (den_var (i := 1) rfl (by first | exact Or.inl rfl | exact Or.inr (Or.inl rfl) | exact Or.inr (Or.inr rfl)) rfl rfl)) (denS_cons (denS_ret (den_isB (den_var (i := 0) rfl (by first | exact Or.inl rfl | exact Or.inr (Or.inl rfl) | exact Or.inr (Or.inr rfl)) rfl rfl)))
    denS_nil) denS_nil)
    (denS_cons (denS_if (denT_isB (den_var (i := 1) rfl (by first | exact Or.inl rfl | exact Or.inr (Or.inl rfl) | exact Or.inr (Or.inr rfl)) rfl rfl)) (denS_cons (denS_ret (den_isB (den_var (i := 0) rfl (by first | exact Or.inl rfl | exact Or.inr (Or.inl rfl) | exact Or.inr (Or.inr rfl)) rfl rfl)))
    denS_nil) denS_nil)
    (denS_cons (denS_if (denT_val (den_isi (t := .int) (den_var (i := 1) rfl (by first | exact Or.inl rfl | exact Or.inr (Or.inl rfl) | exact Or.inr (Or.inr rfl)) rfl rfl) rfl M.f_isinstance rfl M.f_int (by decide +kernel) (by decide) rfl rfl rfl rfl) (fun _ => rfl)) (denS_cons (denS_ret (den_and (den_isi (t := .int) (den_var (i := 0) rfl (by first | exact Or.inl rfl | exact Or.inr (Or.inl rfl) | exact Or.inr (Or.inr rfl)) rfl rfl) rfl M.f_isinstance rfl M.f_int (by decide +kernel) (by decide) rfl rfl rfl rfl) (den_and (den_not (den_isi (t := .bool) (den_var (i := 0) rfl (by first | exact Or.inl rfl | exact Or.inr (Or.inl rfl) | exact Or.inr (Or.inr rfl)) rfl rfl) rfl M.f_isinstance rfl M.f_bool (by decide +kernel) (by decide) rfl rfl rfl rfl)) (den_one (den_cmp (sem_eq ct) (den_var (i := 0) rfl (by first | exact Or.inl rfl | exact Or.inr (Or.inl rfl) | exact Or.inr (Or.inr rfl)) rfl rfl) (den_var (i := 1) rfl (by first | exact Or.inl rfl | exact Or.inr (Or.inl rfl) | exact Or.inr (Or.inr rfl)) rfl rfl) rfl)))))
    denS_nil) denS_nil)
    (denS_cons (denS_ret (den_and (den_isi (t := .str) (den_var (i := 0) rfl (by first | exact Or.inl rfl | exact Or.inr (Or.inl rfl) | exact Or.inr (Or.inr rfl)) rfl rfl) rfl M.f_isinstance rfl M.f_str (by decide +kernel) (by decide) rfl rfl rfl rfl) (den_one (den_cmp (sem_eq ct) (den_var (i := 0) rfl (by first | exact Or.inl rfl | exact Or.inr (Or.inl rfl) | exact Or.inr (Or.inr rfl)) rfl rfl) (den_var (i := 1) rfl (by first | exact Or.inl rfl | exact Or.inr (Or.inl rfl) | exact Or.inr (Or.inr rfl)) rfl rfl) rfl))))
    denS_nil))))))))
theorem d__law_unlike {P : Program} {w : World} {K : PySem.W.Frag} {mg : Str → Option Value} {base : Heap} {R0 fI : Addr} {n : Nat} {L : Nat → FF} (M : MF P w K mg R0 fI) (O : Oks P w K mg base n L) {f : Addr} {cdv : Value} {A : Around} {outer : List Env} {s : Shared} {H : Hp} {E : XK}
    (ct : Ct (BX P w K mg base ["items", "found", "item"] "_law_unlike" (defScope (tp 36)) f cdv A outer s H E) n) : DenS (BX P w K mg base ["items", "found", "item"] "_law_unlike" (defScope (tp 36)) f cdv A outer s H E) (defBody (tp 36)) (b__law_unlike L) :=
    (denS_cons (denS_set ct (i := 1) rfl (by first | exact Or.inl rfl | exact Or.inr rfl) (by first | exact Or.inl rfl | exact Or.inr rfl) (den_lit 99 (by kernel_rfl)) rfl)
    (denS_cons (denS_for ct bx_po (denI_seq (den_fz (den_callB (sem_sorted ct) rfl M.f_sorted (by decide +kernel) (denA_cons (den_var (i := 0) rfl (by first | exact Or.inl rfl | exact Or.inr (Or.inl rfl) | exact Or.inr (Or.inr rfl)) rfl rfl) denA_nil rfl) (by decide) rfl rfl rfl))) (denG_name ct (i := 2) rfl (by first | exact Or.inl rfl | exact Or.inr rfl) (by first | exact Or.inl rfl | exact Or.inr rfl)) (denS_cons (denS_if (denT_cmp (sem_notIn ct) (den_var (i := 2) rfl (by first | exact Or.inl rfl | exact Or.inr (Or.inl rfl) | exact Or.inr (Or.inr rfl)) rfl rfl) (den_var (i := 1) rfl (by first | exact Or.inl rfl | exact Or.inr (Or.inl rfl) | exact Or.inr (Or.inr rfl)) rfl rfl) rfl) (denS_cons (denS_append (i := 1) rfl (by first | exact Or.inl rfl | exact Or.inr (Or.inl rfl) | exact Or.inr (Or.inr rfl)) rfl rfl (denA_cons (den_var (i := 2) rfl (by first | exact Or.inl rfl | exact Or.inr (Or.inl rfl) | exact Or.inr (Or.inr rfl)) rfl rfl) denA_nil rfl) rfl rfl rfl rfl rfl rfl)
    denS_nil) denS_nil)
    denS_nil) (fun _ => rfl))
    (denS_cons (denS_ret (den_var (i := 1) rfl (by first | exact Or.inl rfl | exact Or.inr (Or.inl rfl) | exact Or.inr (Or.inr rfl)) rfl rfl))
    denS_nil)))
theorem d__law_low {P : Program} {w : World} {K : PySem.W.Frag} {mg : Str → Option Value} {base : Heap} {R0 fI : Addr} {n : Nat} {L : Nat → FF} (M : MF P w K mg R0 fI) (O : Oks P w K mg base n L) {f : Addr} {cdv : Value} {A : Around} {outer : List Env} {s : Shared} {H : Hp} {E : XK}
    (ct : Ct (BX P w K mg base ["above", "below", "one", "other", "turn"] "_law_low" (defScope (tp 37)) f cdv A outer s H E) n) : DenS (BX P w K mg base ["above", "below", "one", "other", "turn"] "_law_low" (defScope (tp 37)) f cdv A outer s H E) (defBody (tp 37)) (b__law_low L) :=
    (denS_cons (denS_par ct (i := 2) (j := 3) rfl rfl (by decide) rfl rfl (den_callB (sem_abs) rfl M.f_abs (by decide +kernel) (denA_cons (den_var (i := 0) rfl (by first | exact Or.inl rfl | exact Or.inr (Or.inl rfl) | exact Or.inr (Or.inr rfl)) rfl rfl) denA_nil rfl) (by decide) rfl rfl rfl) (den_var (i := 1) rfl (by first | exact Or.inl rfl | exact Or.inr (Or.inl rfl) | exact Or.inr (Or.inr rfl)) rfl rfl) rfl rfl rfl rfl)
    (denS_cons (denS_for ct bx_po (denI_rg1 rfl M.f_range (denA_cons (den_fz (den_bin sem_add (den_bin sem_mul (den_callB (sem_len) rfl M.f_len (by decide +kernel) (denA_cons (den_callTy (sem_strZ ct M.nodig) rfl M.f_str (by decide +kernel) (denA_cons (den_var (i := 1) rfl (by first | exact Or.inl rfl | exact Or.inr (Or.inl rfl) | exact Or.inr (Or.inr rfl)) rfl rfl) denA_nil rfl) (by decide) rfl rfl rfl) denA_nil rfl) (by decide) rfl rfl rfl) den_int) den_int)) denA_nil rfl) rfl) (denG_name ct (i := 4) rfl (by first | exact Or.inl rfl | exact Or.inr rfl) (by first | exact Or.inl rfl | exact Or.inr rfl)) (denS_cons (denS_asg (den_if (denT_cmp sem_gt (den_var (i := 3) rfl (by first | exact Or.inl rfl | exact Or.inr (Or.inl rfl) | exact Or.inr (Or.inr rfl)) rfl rfl) den_int rfl) (den_tup (denA_cons (den_var (i := 3) rfl (by first | exact Or.inl rfl | exact Or.inr (Or.inl rfl) | exact Or.inr (Or.inr rfl)) rfl rfl) (denA_cons (den_bin sem_mod (den_var (i := 2) rfl (by first | exact Or.inl rfl | exact Or.inr (Or.inl rfl) | exact Or.inr (Or.inr rfl)) rfl rfl) (den_var (i := 3) rfl (by first | exact Or.inl rfl | exact Or.inr (Or.inl rfl) | exact Or.inr (Or.inr rfl)) rfl rfl)) denA_nil rfl) rfl)) (den_tup (denA_cons (den_var (i := 2) rfl (by first | exact Or.inl rfl | exact Or.inr (Or.inl rfl) | exact Or.inr (Or.inr rfl)) rfl rfl) (denA_cons den_int denA_nil rfl) rfl))) (denG_tup ct (denGs_cons (denG_name ct (i := 2) rfl (by first | exact Or.inl rfl | exact Or.inr rfl) (by first | exact Or.inl rfl | exact Or.inr rfl)) (denGs_cons (denG_name ct (i := 3) rfl (by first | exact Or.inl rfl | exact Or.inr rfl) (by first | exact Or.inl rfl | exact Or.inr rfl)) denGs_nil rfl) rfl) rfl rfl) rfl rfl rfl)
    denS_nil) (fun _ => rfl))
    (denS_cons (denS_ret (den_tup (denA_cons (den_bin sem_fdiv (den_var (i := 0) rfl (by first | exact Or.inl rfl | exact Or.inr (Or.inl rfl) | exact Or.inr (Or.inr rfl)) rfl rfl) (den_var (i := 2) rfl (by first | exact Or.inl rfl | exact Or.inr (Or.inl rfl) | exact Or.inr (Or.inr rfl)) rfl rfl)) (denA_cons (den_bin sem_fdiv (den_var (i := 1) rfl (by first | exact Or.inl rfl | exact Or.inr (Or.inl rfl) | exact Or.inr (Or.inr rfl)) rfl rfl) (den_var (i := 2) rfl (by first | exact Or.inl rfl | exact Or.inr (Or.inl rfl) | exact Or.inr (Or.inr rfl)) rfl rfl)) denA_nil rfl) rfl)))
    denS_nil)))
theorem d__law_any {P : Program} {w : World} {K : PySem.W.Frag} {mg : Str → Option Value} {base : Heap} {R0 fI : Addr} {n : Nat} {L : Nat → FF} (M : MF P w K mg R0 fI) (O : Oks P w K mg base n L) {f : Addr} {cdv : Value} {A : Around} {outer : List Env} {s : Shared} {H : Hp} {E : XK}
    (ct : Ct (BX P w K mg base ["generator", "menu"] "_law_any" (defScope (tp 38)) f cdv A outer s H E) n) : DenS (BX P w K mg base ["generator", "menu"] "_law_any" (defScope (tp 38)) f cdv A outer s H E) (defBody (tp 38)) (b__law_any L) :=
    (denS_cons (denS_set ct (i := 1) rfl (by first | exact Or.inl rfl | exact Or.inr rfl) (by first | exact Or.inl rfl | exact Or.inr rfl) (den_fz (den_lst (denA_cons den_non (denA_cons den_bl (denA_cons den_bl (denA_cons den_int (denA_cons den_int (denA_cons (den_lit 99 (by kernel_rfl)) (denA_cons (den_bin sem_pow den_int den_int) (denA_cons den_str (denA_cons den_str (denA_cons den_str (denA_cons den_str (denA_cons den_str (denA_cons den_str (denA_cons den_str (denA_cons den_str (denA_cons den_str (denA_cons (den_bin sem_mulS den_str den_int) (denA_cons (den_bin sem_mulS den_str den_int) (denA_cons den_str (denA_cons den_str denA_nil rfl) rfl) rfl) rfl) rfl) rfl) rfl) rfl) rfl) rfl) rfl) rfl) rfl) rfl) rfl) rfl) rfl) rfl) rfl) rfl))) rfl)
    (denS_cons (denS_set ct (i := 1) rfl (by first | exact Or.inl rfl | exact Or.inr rfl) (by first | exact Or.inl rfl | exact Or.inr rfl) (den_fz (den_bin sem_add (den_var (i := 1) rfl (by first | exact Or.inl rfl | exact Or.inr (Or.inl rfl) | exact Or.inr (Or.inr rfl)) rfl rfl) (den_lit 99 (by kernel_rfl)))) rfl)
    (denS_cons (denS_set ct (i := 1) rfl (by first | exact Or.inl rfl | exact Or.inr rfl) (by first | exact Or.inl rfl | exact Or.inr rfl) (den_fz (den_bin sem_add (den_var (i := 1) rfl (by first | exact Or.inl rfl | exact Or.inr (Or.inl rfl) | exact Or.inr (Or.inr rfl)) rfl rfl) (den_lst (denA_cons (den_fz (den_disp (ks := ["a"]) (denP_cons den_int denP_nil) rfl (by decide) (by decide))) (denA_cons (den_fz (den_lst (denA_cons den_int (denA_cons den_int (denA_cons (den_bin sem_pow den_int den_int) denA_nil rfl) rfl) rfl))) (denA_cons (den_fz (den_lit 99 (by kernel_rfl))) (denA_cons den_str (denA_cons den_str (denA_cons (den_bin sem_mulS den_str den_int) (denA_cons den_str (denA_cons den_str (denA_cons den_str (denA_cons (den_lit 99 (by kernel_rfl)) denA_nil rfl) rfl) rfl) rfl) rfl) rfl) rfl) rfl) rfl) rfl)))) rfl)
    (denS_cons (denS_ret (den_call (CK.ok O.o__law_copied) ct (Nat.le_refl _) rfl (denA_cons (den_call (CK.ok O.o__law_pick) ct (Nat.le_refl _) rfl (denA_cons (den_var (i := 0) rfl (by first | exact Or.inl rfl | exact Or.inr (Or.inl rfl) | exact Or.inr (Or.inr rfl)) rfl rfl) (denA_cons (den_var (i := 1) rfl (by first | exact Or.inl rfl | exact Or.inr (Or.inl rfl) | exact Or.inr (Or.inr rfl)) rfl rfl) denA_nil rfl) rfl) rfl rfl rfl) denA_nil rfl) rfl rfl rfl))
    denS_nil))))
theorem d__law_big {P : Program} {w : World} {K : PySem.W.Frag} {mg : Str → Option Value} {base : Heap} {R0 fI : Addr} {n : Nat} {L : Nat → FF} (M : MF P w K mg R0 fI) (O : Oks P w K mg base n L) {f : Addr} {cdv : Value} {A : Around} {outer : List Env} {s : Shared} {H : Hp} {E : XK}
    (ct : Ct (BX P w K mg base ["generator", "far"] "_law_big" (defScope (tp 39)) f cdv A outer s H E) n) : DenS (BX P w K mg base ["generator", "far"] "_law_big" (defScope (tp 39)) f cdv A outer s H E) (defBody (tp 39)) (b__law_big L) :=
    (denS_cons (denS_set ct (i := 1) rfl (by first | exact Or.inl rfl | exact Or.inr rfl) (by first | exact Or.inl rfl | exact Or.inr rfl) (den_call (CK.ok O.o__law_pick) ct (Nat.le_refl _) rfl (denA_cons (den_var (i := 0) rfl (by first | exact Or.inl rfl | exact Or.inr (Or.inl rfl) | exact Or.inr (Or.inr rfl)) rfl rfl) (denA_cons (den_fz (den_lst (denA_cons den_int (denA_cons den_int (denA_cons den_int (denA_cons (den_bin sem_pow den_int den_int) (denA_cons (den_bin sem_pow den_int den_int) denA_nil rfl) rfl) rfl) rfl) rfl))) denA_nil rfl) rfl) rfl rfl rfl) rfl)
    (denS_cons (denS_ret (den_bin sem_mul (den_call (CK.ok O.o__law_random) ct (Nat.le_refl _) rfl (denA_cons (den_var (i := 0) rfl (by first | exact Or.inl rfl | exact Or.inr (Or.inl rfl) | exact Or.inr (Or.inr rfl)) rfl rfl) (denA_cons (den_var (i := 1) rfl (by first | exact Or.inl rfl | exact Or.inr (Or.inl rfl) | exact Or.inr (Or.inr rfl)) rfl rfl) denA_nil rfl) rfl) rfl rfl rfl) (den_call (CK.ok O.o__law_pick) ct (Nat.le_refl _) rfl (denA_cons (den_var (i := 0) rfl (by first | exact Or.inl rfl | exact Or.inr (Or.inl rfl) | exact Or.inr (Or.inr rfl)) rfl rfl) (denA_cons (den_fz (den_lst (denA_cons den_int (denA_cons den_int (denA_cons (den_bin sem_sub den_int den_int) denA_nil rfl) rfl) rfl))) denA_nil rfl) rfl) rfl rfl rfl)))
    denS_nil))
theorem d__law_name {P : Program} {w : World} {K : PySem.W.Frag} {mg : Str → Option Value} {base : Heap} {R0 fI : Addr} {n : Nat} {L : Nat → FF} (M : MF P w K mg R0 fI) (O : Oks P w K mg base n L) {f : Addr} {cdv : Value} {A : Around} {outer : List Env} {s : Shared} {H : Hp} {E : XK}
    (ct : Ct (BX P w K mg base ["value", "sign"] "_law_name" (defScope (tp 40)) f cdv A outer s H E) n) : DenS (BX P w K mg base ["value", "sign"] "_law_name" (defScope (tp 40)) f cdv A outer s H E) (defBody (tp 40)) (b__law_name L) :=
    (denS_cons (denS_if (denW_t (denW_or (denT_not (denT_val (den_isi (t := .str) (den_var (i := 0) rfl (by first | exact Or.inl rfl | exact Or.inr (Or.inl rfl) | exact Or.inr (Or.inr rfl)) rfl rfl) rfl M.f_isinstance rfl M.f_str (by decide +kernel) (by decide) rfl rfl rfl rfl) (fun _ => rfl))) (denW_or (denT_cmp sem_gt (den_callB (sem_len) rfl M.f_len (by decide +kernel) (denA_cons (den_var (i := 0) rfl (by first | exact Or.inl rfl | exact Or.inr (Or.inl rfl) | exact Or.inr (Or.inr rfl)) rfl rfl) denA_nil rfl) (by decide) rfl rfl rfl) den_int rfl) (denW_or1 (denT_cmp (sem_notIn ct) (den_sl (den_var (i := 0) rfl (by first | exact Or.inl rfl | exact Or.inr (Or.inl rfl) | exact Or.inr (Or.inr rfl)) rfl rfl) denO_none (denO_some den_int)) (den_callTy (sem_listS ct) rfl M.f_list (by decide +kernel) (denA_cons den_str denA_nil rfl) (by decide) rfl rfl rfl) rfl))))) (denS_cons (denS_ret den_bl)
    denS_nil) denS_nil)
    (denS_cons (denS_ret (den_cmp (sem_eq ct) (den_lc ct (own := [("sign", 1)]) (blkOk_by rfl) (denI_seq (den_var (i := 0) rfl (by first | exact Or.inl rfl | exact Or.inr (Or.inl rfl) | exact Or.inr (Or.inr rfl)) rfl rfl)) (by decide) (fun s H C cl fp => (denG_name (Ct.blk ct) (i := 1) rfl (by first | exact Or.inl rfl | exact Or.inr rfl) (by first | exact Or.inl rfl | exact Or.inr rfl))) (fun s H C cl fp => (denTs_one (denT_cmp (sem_notIn (Ct.blk ct)) (den_var (i := 1) rfl (by first | exact Or.inl rfl | exact Or.inr (Or.inl rfl) | exact Or.inr (Or.inr rfl)) rfl rfl) den_str rfl))) (fun s H C cl fp => (den_var (i := 1) rfl (by first | exact Or.inl rfl | exact Or.inr (Or.inl rfl) | exact Or.inr (Or.inr rfl)) rfl rfl)) (fun _ => rfl)) (den_lit 99 (by kernel_rfl)) rfl))
    denS_nil))
theorem d__law_rise {P : Program} {w : World} {K : PySem.W.Frag} {mg : Str → Option Value} {base : Heap} {R0 fI : Addr} {n : Nat} {L : Nat → FF} (M : MF P w K mg R0 fI) (O : Oks P w K mg base n L) {f : Addr} {cdv : Value} {A : Around} {outer : List Env} {s : Shared} {H : Hp} {E : XK}
    (ct : Ct (BX P w K mg base ["items", "at"] "_law_rise" (defScope (tp 41)) f cdv A outer s H E) n) : DenS (BX P w K mg base ["items", "at"] "_law_rise" (defScope (tp 41)) f cdv A outer s H E) (defBody (tp 41)) (b__law_rise L) :=
    (denS_cons (denS_ret (den_cmp (sem_eq ct) (den_lc ct (own := [("at", 1)]) (blkOk_by rfl) (denI_rg2 rfl M.f_range (denA_cons den_int (denA_cons (den_callB (sem_len) rfl M.f_len (by decide +kernel) (denA_cons (den_var (i := 0) rfl (by first | exact Or.inl rfl | exact Or.inr (Or.inl rfl) | exact Or.inr (Or.inr rfl)) rfl rfl) denA_nil rfl) (by decide) rfl rfl rfl) denA_nil rfl) rfl) rfl rfl) (by decide) (fun s H C cl fp => (denG_name (Ct.blk ct) (i := 1) rfl (by first | exact Or.inl rfl | exact Or.inr rfl) (by first | exact Or.inl rfl | exact Or.inr rfl))) (fun s H C cl fp => (denTs_one (denT_cmp sem_geS (den_ix (den_var (i := 0) rfl (by first | exact Or.inl rfl | exact Or.inr (Or.inl rfl) | exact Or.inr (Or.inr rfl)) rfl rfl) (den_bin sem_sub (den_var (i := 1) rfl (by first | exact Or.inl rfl | exact Or.inr (Or.inl rfl) | exact Or.inr (Or.inr rfl)) rfl rfl) den_int) (by intro _ _; rfl)) (den_ix (den_var (i := 0) rfl (by first | exact Or.inl rfl | exact Or.inr (Or.inl rfl) | exact Or.inr (Or.inr rfl)) rfl rfl) (den_var (i := 1) rfl (by first | exact Or.inl rfl | exact Or.inr (Or.inl rfl) | exact Or.inr (Or.inr rfl)) rfl rfl) (by intro _ _; rfl)) rfl))) (fun s H C cl fp => (den_var (i := 1) rfl (by first | exact Or.inl rfl | exact Or.inr (Or.inl rfl) | exact Or.inr (Or.inr rfl)) rfl rfl)) (fun _ => rfl)) (den_lit 99 (by kernel_rfl)) rfl))
    denS_nil)
theorem d__law_string {P : Program} {w : World} {K : PySem.W.Frag} {mg : Str → Option Value} {base : Heap} {R0 fI : Addr} {n : Nat} {L : Nat → FF} (M : MF P w K mg R0 fI) (O : Oks P w K mg base n L) {f : Addr} {cdv : Value} {A : Around} {outer : List Env} {s : Shared} {H : Hp} {E : XK}
    (ct : Ct (BX P w K mg base ["generator", "signs", "turn"] "_law_string" (defScope (tp 42)) f cdv A outer s H E) n) : DenS (BX P w K mg base ["generator", "signs", "turn"] "_law_string" (defScope (tp 42)) f cdv A outer s H E) (defBody (tp 42)) (b__law_string L) :=
    (denS_cons (denS_set ct (i := 1) rfl (by first | exact Or.inl rfl | exact Or.inr rfl) (by first | exact Or.inl rfl | exact Or.inr rfl) (den_call (CK.ok O.o__law_pick) ct (Nat.le_refl _) rfl (denA_cons (den_var (i := 0) rfl (by first | exact Or.inl rfl | exact Or.inr (Or.inl rfl) | exact Or.inr (Or.inr rfl)) rfl rfl) (denA_cons (den_fz (den_lit 99 (by kernel_rfl))) denA_nil rfl) rfl) rfl rfl rfl) rfl)
    (denS_cons (denS_ret (den_join den_str (den_lc ct (own := [("turn", 2)]) (blkOk_by rfl) (denI_rg1 rfl M.f_range (denA_cons (den_call (CK.ok O.o__law_random) ct (Nat.le_refl _) rfl (denA_cons (den_var (i := 0) rfl (by first | exact Or.inl rfl | exact Or.inr (Or.inl rfl) | exact Or.inr (Or.inr rfl)) rfl rfl) (denA_cons den_int denA_nil rfl) rfl) rfl rfl rfl) denA_nil rfl) rfl) (by decide) (fun s H C cl fp => (denG_name (Ct.blk ct) (i := 2) rfl (by first | exact Or.inl rfl | exact Or.inr rfl) (by first | exact Or.inl rfl | exact Or.inr rfl))) (fun s H C cl fp => denTs_nil) (fun s H C cl fp => (den_call (CK.ok O.o__law_pick) (Ct.blk ct) (Nat.le_refl _) rfl (denA_cons (den_var (i := 0) rfl (by first | exact Or.inl rfl | exact Or.inr (Or.inl rfl) | exact Or.inr (Or.inr rfl)) rfl rfl) (denA_cons (den_var (i := 1) rfl (by first | exact Or.inl rfl | exact Or.inr (Or.inl rfl) | exact Or.inr (Or.inr rfl)) rfl rfl) denA_nil rfl) rfl) rfl rfl rfl)) (fun _ => rfl)) rfl rfl rfl))
    denS_nil))
theorem d__law_numbers {P : Program} {w : World} {K : PySem.W.Frag} {mg : Str → Option Value} {base : Heap} {R0 fI : Addr} {n : Nat} {L : Nat → FF} (M : MF P w K mg R0 fI) (O : Oks P w K mg base n L) {f : Addr} {cdv : Value} {A : Around} {outer : List Env} {s : Shared} {H : Hp} {E : XK}
    (ct : Ct (BX P w K mg base ["generator", "turn"] "_law_numbers" (defScope (tp 43)) f cdv A outer s H E) n) : DenS (BX P w K mg base ["generator", "turn"] "_law_numbers" (defScope (tp 43)) f cdv A outer s H E) (defBody (tp 43)) (b__law_numbers L) :=
    (denS_cons (denS_ret (den_fz (den_lc ct (own := [("turn", 1)]) (blkOk_by rfl) (denI_rg1 rfl M.f_range (denA_cons (den_call (CK.ok O.o__law_random) ct (Nat.le_refl _) rfl (denA_cons (den_var (i := 0) rfl (by first | exact Or.inl rfl | exact Or.inr (Or.inl rfl) | exact Or.inr (Or.inr rfl)) rfl rfl) (denA_cons den_int denA_nil rfl) rfl) rfl rfl rfl) denA_nil rfl) rfl) (by decide) (fun s H C cl fp => (denG_name (Ct.blk ct) (i := 1) rfl (by first | exact Or.inl rfl | exact Or.inr rfl) (by first | exact Or.inl rfl | exact Or.inr rfl))) (fun s H C cl fp => denTs_nil) (fun s H C cl fp => (den_bin sem_sub (den_call (CK.ok O.o__law_random) (Ct.blk ct) (Nat.le_refl _) rfl (denA_cons (den_var (i := 0) rfl (by first | exact Or.inl rfl | exact Or.inr (Or.inl rfl) | exact Or.inr (Or.inr rfl)) rfl rfl) (denA_cons (den_call (CK.ok O.o__law_pick) (Ct.blk ct) (Nat.le_refl _) rfl (denA_cons (den_var (i := 0) rfl (by first | exact Or.inl rfl | exact Or.inr (Or.inl rfl) | exact Or.inr (Or.inr rfl)) rfl rfl) (denA_cons (den_fz (den_lst (denA_cons den_int (denA_cons den_int (denA_cons (den_bin sem_pow den_int den_int) denA_nil rfl) rfl) rfl))) denA_nil rfl) rfl) rfl rfl rfl) denA_nil rfl) rfl) rfl rfl rfl) (den_call (CK.ok O.o__law_random) (Ct.blk ct) (Nat.le_refl _) rfl (denA_cons (den_var (i := 0) rfl (by first | exact Or.inl rfl | exact Or.inr (Or.inl rfl) | exact Or.inr (Or.inr rfl)) rfl rfl) (denA_cons den_int denA_nil rfl) rfl) rfl rfl rfl))) (fun _ => rfl))))
    denS_nil)
theorem d__law_judged {P : Program} {w : World} {K : PySem.W.Frag} {mg : Str → Option Value} {base : Heap} {R0 fI : Addr} {n : Nat} {L : Nat → FF} (M : MF P w K mg R0 fI) (O : Oks P w K mg base n L) {f : Addr} {cdv : Value} {A : Around} {outer : List Env} {s : Shared} {H : Hp} {E : XK}
    (ct : Ct (BX P w K mg base ["value", "kept", "lots", "due", "told", "again", "item"] "_law_judged" (defScope (tp 44)) f cdv A outer s H E) n) : DenS (BX P w K mg base ["value", "kept", "lots", "due", "told", "again", "item"] "_law_judged" (defScope (tp 44)) f cdv A outer s H E) (defBody (tp 44)) (b__law_judged L) :=
    (denS_cons (denS_set ct (i := 1) rfl (by first | exact Or.inl rfl | exact Or.inr rfl) (by first | exact Or.inl rfl | exact Or.inr rfl) (den_callB (sem_repr2 ct) rfl M.f_repr (by decide +kernel) (denA_cons (den_var (i := 0) rfl (by first | exact Or.inl rfl | exact Or.inr (Or.inl rfl) | exact Or.inr (Or.inr rfl)) rfl rfl) denA_nil rfl) (by decide) rfl rfl rfl) rfl)
    (denS_cons (denS_set ct (i := 2) rfl (by first | exact Or.inl rfl | exact Or.inr rfl) (by first | exact Or.inl rfl | exact Or.inr rfl) (den_and (den_isi (t := .list) (den_var (i := 0) rfl (by first | exact Or.inl rfl | exact Or.inr (Or.inl rfl) | exact Or.inr (Or.inr rfl)) rfl rfl) rfl M.f_isinstance rfl M.f_list (by decide +kernel) (by decide) rfl rfl rfl rfl) (den_one (den_cmp (sem_eq ct) (den_lc ct (own := [("item", 6)]) (blkOk_by rfl) (denI_seq (den_var (i := 0) rfl (by first | exact Or.inl rfl | exact Or.inr (Or.inl rfl) | exact Or.inr (Or.inr rfl)) rfl rfl)) (by decide) (fun s H C cl fp => (denG_name (Ct.blk ct) (i := 6) rfl (by first | exact Or.inl rfl | exact Or.inr rfl) (by first | exact Or.inl rfl | exact Or.inr rfl))) (fun s H C cl fp => (denTs_one (denT_not (denT_val (den_call (CK.ok O.o__law_name) (Ct.blk ct) (Nat.le_refl _) rfl (denA_cons (den_var (i := 6) rfl (by first | exact Or.inl rfl | exact Or.inr (Or.inl rfl) | exact Or.inr (Or.inr rfl)) rfl rfl) denA_nil rfl) rfl rfl rfl) (fun _ => rfl))))) (fun s H C cl fp => (den_var (i := 6) rfl (by first | exact Or.inl rfl | exact Or.inr (Or.inl rfl) | exact Or.inr (Or.inr rfl)) rfl rfl)) (fun _ => rfl)) (den_lit 99 (by kernel_rfl)) rfl))) rfl)
    (denS_cons (denS_set ct (i := 3) rfl (by first | exact Or.inl rfl | exact Or.inr rfl) (by first | exact Or.inl rfl | exact Or.inr rfl) (den_fz (den_lst (denA_cons (den_call (CK.ok O.o__law_name) ct (Nat.le_refl _) rfl (denA_cons (den_var (i := 0) rfl (by first | exact Or.inl rfl | exact Or.inr (Or.inl rfl) | exact Or.inr (Or.inr rfl)) rfl rfl) denA_nil rfl) rfl rfl rfl) (denA_cons (den_and (den_var (i := 2) rfl (by first | exact Or.inl rfl | exact Or.inr (Or.inl rfl) | exact Or.inr (Or.inr rfl)) rfl rfl) (den_one (den_call (CK.ok O.o__law_rise) ct (Nat.le_refl _) rfl (denA_cons (den_var (i := 0) rfl (by first | exact Or.inl rfl | exact Or.inr (Or.inl rfl) | exact Or.inr (Or.inr rfl)) rfl rfl) denA_nil rfl) rfl rfl rfl))) denA_nil rfl) rfl))) rfl)
    (denS_cons (denS_set ct (i := 4) rfl (by first | exact Or.inl rfl | exact Or.inr rfl) (by first | exact Or.inl rfl | exact Or.inr rfl) (den_fz (den_lst (denA_cons (den_call (CK.ok O.o_is_name) ct (Nat.le_refl _) rfl (denA_cons (den_var (i := 0) rfl (by first | exact Or.inl rfl | exact Or.inr (Or.inl rfl) | exact Or.inr (Or.inr rfl)) rfl rfl) denA_nil rfl) rfl rfl rfl) (denA_cons (den_call (CK.ok O.o_is_names) ct (Nat.le_refl _) rfl (denA_cons (den_var (i := 0) rfl (by first | exact Or.inl rfl | exact Or.inr (Or.inl rfl) | exact Or.inr (Or.inr rfl)) rfl rfl) denA_nil rfl) rfl rfl rfl) denA_nil rfl) rfl))) rfl)
    (denS_cons (denS_set ct (i := 5) rfl (by first | exact Or.inl rfl | exact Or.inr rfl) (by first | exact Or.inl rfl | exact Or.inr rfl) (den_fz (den_lst (denA_cons (den_callK (x := "is_name") (ks := ["value"]) (CKK.ok O.k_is_name_value) ct (Nat.le_refl _) rfl (denK_cons (den_var (i := 0) rfl (by first | exact Or.inl rfl | exact Or.inr (Or.inl rfl) | exact Or.inr (Or.inr rfl)) rfl rfl) denK_nil) rfl rfl rfl rfl) (denA_cons (den_callK (x := "is_names") (ks := ["value"]) (CKK.ok O.k_is_names_value) ct (Nat.le_refl _) rfl (denK_cons (den_var (i := 0) rfl (by first | exact Or.inl rfl | exact Or.inr (Or.inl rfl) | exact Or.inr (Or.inr rfl)) rfl rfl) denK_nil) rfl rfl rfl rfl) denA_nil rfl) rfl))) rfl)
    (denS_cons (denS_ret (den_and (den_call (CK.ok O.o__law_exact) ct (Nat.le_refl _) rfl (denA_cons (den_var (i := 4) rfl (by first | exact Or.inl rfl | exact Or.inr (Or.inl rfl) | exact Or.inr (Or.inr rfl)) rfl rfl) (denA_cons (den_var (i := 3) rfl (by first | exact Or.inl rfl | exact Or.inr (Or.inl rfl) | exact Or.inr (Or.inr rfl)) rfl rfl) denA_nil rfl) rfl) rfl rfl rfl) (den_and (den_call (CK.ok O.o__law_exact) ct (Nat.le_refl _) rfl (denA_cons (den_var (i := 5) rfl (by first | exact Or.inl rfl | exact Or.inr (Or.inl rfl) | exact Or.inr (Or.inr rfl)) rfl rfl) (denA_cons (den_var (i := 3) rfl (by first | exact Or.inl rfl | exact Or.inr (Or.inl rfl) | exact Or.inr (Or.inr rfl)) rfl rfl) denA_nil rfl) rfl) rfl rfl rfl) (den_one (den_cmp (sem_eq ct) (den_callB (sem_repr2 ct) rfl M.f_repr (by decide +kernel) (denA_cons (den_var (i := 0) rfl (by first | exact Or.inl rfl | exact Or.inr (Or.inl rfl) | exact Or.inr (Or.inr rfl)) rfl rfl) denA_nil rfl) (by decide) rfl rfl rfl) (den_var (i := 1) rfl (by first | exact Or.inl rfl | exact Or.inr (Or.inl rfl) | exact Or.inr (Or.inr rfl)) rfl rfl) rfl)))))
    denS_nil))))))
theorem d__law_names_right {P : Program} {w : World} {K : PySem.W.Frag} {mg : Str → Option Value} {base : Heap} {R0 fI : Addr} {n : Nat} {L : Nat → FF} (M : MF P w K mg R0 fI) (O : Oks P w K mg base n L) {f : Addr} {cdv : Value} {A : Around} {outer : List Env} {s : Shared} {H : Hp} {E : XK}
    (ct : Ct (BX P w K mg base ["script", "index", "generator", "turn", "numbers", "menu", "names", "good", "lists", "value", "many", "due", "at", "name"] "_law_names_right" (defScope (tp 45)) f cdv A outer s H E) n) : DenS (BX P w K mg base ["script", "index", "generator", "turn", "numbers", "menu", "names", "good", "lists", "value", "many", "due", "at", "name"] "_law_names_right" (defScope (tp 45)) f cdv A outer s H E) (defBody (tp 45)) (b__law_names_right L) :=
    (denS_cons (denS_for ct bx_po (denI_rg1 rfl M.f_range (denA_cons den_int denA_nil rfl) rfl) (denG_name ct (i := 1) rfl (by first | exact Or.inl rfl | exact Or.inr rfl) (by first | exact Or.inl rfl | exact Or.inr rfl)) (denS_cons (denS_setBox ct (i := 2) rfl (by first | exact Or.inl rfl | exact Or.inr rfl) (by first | exact Or.inl rfl | exact Or.inr rfl) (den_call (CK.ok O.o__law_generator) ct (Nat.le_refl _) rfl (denA_cons (den_var (i := 0) rfl (by first | exact Or.inl rfl | exact Or.inr (Or.inl rfl) | exact Or.inr (Or.inr rfl)) rfl rfl) (denA_cons (den_var (i := 1) rfl (by first | exact Or.inl rfl | exact Or.inr (Or.inl rfl) | exact Or.inr (Or.inr rfl)) rfl rfl) denA_nil rfl) rfl) rfl rfl rfl) rfl)
    (denS_cons (denS_for ct bx_po (denI_rg1 rfl M.f_range (denA_cons den_int denA_nil rfl) rfl) (denG_name ct (i := 3) rfl (by first | exact Or.inl rfl | exact Or.inr rfl) (by first | exact Or.inl rfl | exact Or.inr rfl)) (denS_cons (denS_set ct (i := 4) rfl (by first | exact Or.inl rfl | exact Or.inr rfl) (by first | exact Or.inl rfl | exact Or.inr rfl) (den_call (CK.ok O.o__law_numbers) ct (Nat.le_refl _) rfl (denA_cons (den_var (i := 2) rfl (by first | exact Or.inl rfl | exact Or.inr (Or.inl rfl) | exact Or.inr (Or.inr rfl)) rfl rfl) denA_nil rfl) rfl rfl rfl) rfl)
    (denS_cons (denS_set ct (i := 5) rfl (by first | exact Or.inl rfl | exact Or.inr rfl) (by first | exact Or.inl rfl | exact Or.inr rfl) (den_fz (den_lit 99 (by kernel_rfl))) rfl)
    (denS_cons (denS_lock 6 (denS_setLc ct (i := 6) rfl rfl (sw_true rfl rfl rfl rfl) (own := [("at", 12)]) (blkOk_by rfl) (denI_rg1 rfl M.f_range (denA_cons (den_call (CK.ok O.o__law_random) ct (Nat.le_refl _) rfl (denA_cons (den_var (i := 2) rfl (by first | exact Or.inl rfl | exact Or.inr (Or.inl rfl) | exact Or.inr (Or.inr rfl)) rfl rfl) (denA_cons den_int denA_nil rfl) rfl) rfl rfl rfl) denA_nil rfl) rfl) (by decide) (fun s H C cl fp => (denG_name (Ct.blk ct) (i := 12) rfl (by first | exact Or.inl rfl | exact Or.inr rfl) (by first | exact Or.inl rfl | exact Or.inr rfl))) (fun s H C cl fp => denTs_nil) (fun s H C cl fp => (den_call (CK.ok O.o__law_pick) (Ct.blk ct) (Nat.le_refl _) rfl (denA_cons (den_var (i := 2) rfl (by first | exact Or.inl rfl | exact Or.inr (Or.inl rfl) | exact Or.inr (Or.inr rfl)) rfl rfl) (denA_cons (den_var (i := 5) rfl (by first | exact Or.inl rfl | exact Or.inr (Or.inl rfl) | exact Or.inr (Or.inr rfl)) rfl rfl) denA_nil rfl) rfl) rfl rfl rfl)) (fun _ => rfl)))
    (denS_cons (denS_lock 7 (denS_setLc ct (i := 7) rfl rfl (sw_true rfl rfl rfl rfl) (own := [("name", 13)]) (blkOk_by rfl) (denI_seq (den_var (i := 6) rfl (by first | exact Or.inl rfl | exact Or.inr (Or.inl rfl) | exact Or.inr (Or.inr rfl)) rfl rfl)) (by decide) (fun s H C cl fp => (denG_name (Ct.blk ct) (i := 13) rfl (by first | exact Or.inl rfl | exact Or.inr rfl) (by first | exact Or.inl rfl | exact Or.inr rfl))) (fun s H C cl fp => (denTs_one (denW_t (denW_and (denT_val (den_isi (t := .str) (den_var (i := 13) rfl (by first | exact Or.inl rfl | exact Or.inr (Or.inl rfl) | exact Or.inr (Or.inr rfl)) rfl rfl) rfl M.f_isinstance rfl M.f_str (by decide +kernel) (by decide) rfl rfl rfl rfl) (fun _ => rfl)) (denW_and1 (denT_val (den_call (CK.ok O.o__law_name) (Ct.blk ct) (Nat.le_refl _) rfl (denA_cons (den_var (i := 13) rfl (by first | exact Or.inl rfl | exact Or.inr (Or.inl rfl) | exact Or.inr (Or.inr rfl)) rfl rfl) denA_nil rfl) rfl rfl rfl) (fun _ => rfl))))))) (fun s H C cl fp => (den_var (i := 13) rfl (by first | exact Or.inl rfl | exact Or.inr (Or.inl rfl) | exact Or.inr (Or.inr rfl)) rfl rfl)) (fun _ => rfl)))
    (denS_cons (denS_set ct (i := 8) rfl (by first | exact Or.inl rfl | exact Or.inr rfl) (by first | exact Or.inl rfl | exact Or.inr rfl) (den_fz (den_lst (denA_cons (den_var (i := 6) rfl (by first | exact Or.inl rfl | exact Or.inr (Or.inl rfl) | exact Or.inr (Or.inr rfl)) rfl rfl) (denA_cons (den_var (i := 7) rfl (by first | exact Or.inl rfl | exact Or.inr (Or.inl rfl) | exact Or.inr (Or.inr rfl)) rfl rfl) (denA_cons (den_fz (den_callB (sem_sorted ct) rfl M.f_sorted (by decide +kernel) (denA_cons (den_var (i := 7) rfl (by first | exact Or.inl rfl | exact Or.inr (Or.inl rfl) | exact Or.inr (Or.inr rfl)) rfl rfl) denA_nil rfl) (by decide) rfl rfl rfl)) (denA_cons (den_fz (den_call (CK.ok O.o__law_unlike) ct (Nat.le_refl _) rfl (denA_cons (den_var (i := 7) rfl (by first | exact Or.inl rfl | exact Or.inr (Or.inl rfl) | exact Or.inr (Or.inr rfl)) rfl rfl) denA_nil rfl) rfl rfl rfl)) (denA_cons (den_callTy (sem_tuple) rfl M.f_tuple (by decide +kernel) (denA_cons (den_call (CK.ok O.o__law_unlike) ct (Nat.le_refl _) rfl (denA_cons (den_var (i := 7) rfl (by first | exact Or.inl rfl | exact Or.inr (Or.inl rfl) | exact Or.inr (Or.inr rfl)) rfl rfl) denA_nil rfl) rfl rfl rfl) denA_nil rfl) (by decide) rfl rfl rfl) (denA_cons (den_fz (den_sl (den_call (CK.ok O.o__law_unlike) ct (Nat.le_refl _) rfl (denA_cons (den_var (i := 7) rfl (by first | exact Or.inl rfl | exact Or.inr (Or.inl rfl) | exact Or.inr (Or.inr rfl)) rfl rfl) denA_nil rfl) rfl rfl rfl) denO_none (denO_some den_int))) (denA_cons (den_fz (den_rev (den_call (CK.ok O.o__law_unlike) ct (Nat.le_refl _) rfl (denA_cons (den_var (i := 7) rfl (by first | exact Or.inl rfl | exact Or.inr (Or.inl rfl) | exact Or.inr (Or.inr rfl)) rfl rfl) denA_nil rfl) rfl rfl rfl))) denA_nil rfl) rfl) rfl) rfl) rfl) rfl) rfl))) rfl)
    (denS_cons (denS_for ct bx_po (denI_seq (den_fz (den_bin sem_add (den_lst (denA_cons (den_call (CK.ok O.o__law_any) ct (Nat.le_refl _) rfl (denA_cons (den_var (i := 2) rfl (by first | exact Or.inl rfl | exact Or.inr (Or.inl rfl) | exact Or.inr (Or.inr rfl)) rfl rfl) denA_nil rfl) rfl rfl rfl) (denA_cons (den_call (CK.ok O.o__law_string) ct (Nat.le_refl _) rfl (denA_cons (den_var (i := 2) rfl (by first | exact Or.inl rfl | exact Or.inr (Or.inl rfl) | exact Or.inr (Or.inr rfl)) rfl rfl) denA_nil rfl) rfl rfl rfl) (denA_cons (den_var (i := 4) rfl (by first | exact Or.inl rfl | exact Or.inr (Or.inl rfl) | exact Or.inr (Or.inr rfl)) rfl rfl) (denA_cons (den_fz (den_callB (sem_sorted ct) rfl M.f_sorted (by decide +kernel) (denA_cons (den_var (i := 4) rfl (by first | exact Or.inl rfl | exact Or.inr (Or.inl rfl) | exact Or.inr (Or.inr rfl)) rfl rfl) denA_nil rfl) (by decide) rfl rfl rfl)) (denA_cons (den_fz (den_call (CK.ok O.o__law_unlike) ct (Nat.le_refl _) rfl (denA_cons (den_var (i := 4) rfl (by first | exact Or.inl rfl | exact Or.inr (Or.inl rfl) | exact Or.inr (Or.inr rfl)) rfl rfl) denA_nil rfl) rfl rfl rfl)) (denA_cons (den_callTy (sem_tuple) rfl M.f_tuple (by decide +kernel) (denA_cons (den_call (CK.ok O.o__law_unlike) ct (Nat.le_refl _) rfl (denA_cons (den_var (i := 4) rfl (by first | exact Or.inl rfl | exact Or.inr (Or.inl rfl) | exact Or.inr (Or.inr rfl)) rfl rfl) denA_nil rfl) rfl rfl rfl) denA_nil rfl) (by decide) rfl rfl rfl) denA_nil rfl) rfl) rfl) rfl) rfl) rfl)) (den_var (i := 8) rfl (by first | exact Or.inl rfl | exact Or.inr (Or.inl rfl) | exact Or.inr (Or.inr rfl)) rfl rfl)))) (denG_name ct (i := 9) rfl (by first | exact Or.inl rfl | exact Or.inr rfl) (by first | exact Or.inl rfl | exact Or.inr rfl)) (denS_cons (denS_if (denT_not (denT_val (den_call (CK.ok O.o__law_judged) ct (Nat.le_refl _) rfl (denA_cons (den_var (i := 9) rfl (by first | exact Or.inl rfl | exact Or.inr (Or.inl rfl) | exact Or.inr (Or.inr rfl)) rfl rfl) denA_nil rfl) rfl rfl rfl) (fun _ => rfl))) (denS_cons (denS_ret den_bl)
    denS_nil) denS_nil)
    denS_nil) (fun _ => rfl))
    denS_nil)))))) (fun _ => rfl))
    denS_nil)) (fun _ => rfl))
    (denS_cons (denS_lock 10 (denS_setLc ct (i := 10) rfl rfl (sw_true rfl rfl rfl rfl) (own := [("at", 12)]) (blkOk_by rfl) (denI_rg1 rfl M.f_range (denA_cons den_int denA_nil rfl) rfl) (by decide) (fun s H C cl fp => (denG_name (Ct.blk ct) (i := 12) rfl (by first | exact Or.inl rfl | exact Or.inr rfl) (by first | exact Or.inl rfl | exact Or.inr rfl))) (fun s H C cl fp => denTs_nil) (fun s H C cl fp => (den_fz (den_bin sem_add den_str (den_callTy (sem_strZ (Ct.blk ct) M.nodig) rfl M.f_str (by decide +kernel) (denA_cons (den_bin sem_add den_int (den_var (i := 12) rfl (by first | exact Or.inl rfl | exact Or.inr (Or.inl rfl) | exact Or.inr (Or.inr rfl)) rfl rfl)) denA_nil rfl) (by decide) rfl rfl rfl)))) (fun _ => rfl)))
    (denS_cons (denS_lock 11 (denS_setLc ct (i := 11) rfl rfl (sw_true rfl rfl rfl rfl) (own := [("value", 9)]) (blkOk_by rfl) (denI_seq (den_fz (den_lst (denA_cons (den_var (i := 10) rfl (by first | exact Or.inl rfl | exact Or.inr (Or.inl rfl) | exact Or.inr (Or.inr rfl)) rfl rfl) (denA_cons (den_fz (den_bin sem_add (den_sl (den_var (i := 10) rfl (by first | exact Or.inl rfl | exact Or.inr (Or.inl rfl) | exact Or.inr (Or.inr rfl)) rfl rfl) denO_none (denO_some den_int)) (den_lst (denA_cons (den_ix (den_var (i := 10) rfl (by first | exact Or.inl rfl | exact Or.inr (Or.inl rfl) | exact Or.inr (Or.inr rfl)) rfl rfl) den_int (by intro _ _; rfl)) (denA_cons (den_ix (den_var (i := 10) rfl (by first | exact Or.inl rfl | exact Or.inr (Or.inl rfl) | exact Or.inr (Or.inr rfl)) rfl rfl) den_int (by intro _ _; rfl)) denA_nil rfl) rfl)))) (denA_cons (den_fz (den_bin sem_add (den_sl (den_var (i := 10) rfl (by first | exact Or.inl rfl | exact Or.inr (Or.inl rfl) | exact Or.inr (Or.inr rfl)) rfl rfl) denO_none (denO_some den_int)) (den_lst (denA_cons (den_ix (den_var (i := 10) rfl (by first | exact Or.inl rfl | exact Or.inr (Or.inl rfl) | exact Or.inr (Or.inr rfl)) rfl rfl) den_int (by intro _ _; rfl)) denA_nil rfl)))) (denA_cons (den_fz (den_bin sem_add (den_var (i := 10) rfl (by first | exact Or.inl rfl | exact Or.inr (Or.inl rfl) | exact Or.inr (Or.inr rfl)) rfl rfl) (den_lit 99 (by kernel_rfl)))) denA_nil rfl) rfl) rfl) rfl)))) (by decide) (fun s H C cl fp => (denG_name (Ct.blk ct) (i := 9) rfl (by first | exact Or.inl rfl | exact Or.inr rfl) (by first | exact Or.inl rfl | exact Or.inr rfl))) (fun s H C cl fp => denTs_nil) (fun s H C cl fp => (den_call (CK.ok O.o__law_judged) (Ct.blk ct) (Nat.le_refl _) rfl (denA_cons (den_var (i := 9) rfl (by first | exact Or.inl rfl | exact Or.inr (Or.inl rfl) | exact Or.inr (Or.inr rfl)) rfl rfl) denA_nil rfl) rfl rfl rfl)) (fun _ => rfl)))
    (denS_cons (denS_set ct (i := 11) rfl (by first | exact Or.inl rfl | exact Or.inr rfl) (by first | exact Or.inl rfl | exact Or.inr rfl) (den_fz (den_bin sem_add (den_var (i := 11) rfl (by first | exact Or.inl rfl | exact Or.inr (Or.inl rfl) | exact Or.inr (Or.inr rfl)) rfl rfl) (den_lc ct (own := [("value", 9)]) (blkOk_by rfl) (denI_seq (den_fz (den_lst (denA_cons (den_fz (den_lit 99 (by kernel_rfl))) (denA_cons (den_fz (den_lit 99 (by kernel_rfl))) (denA_cons (den_fz (den_lit 99 (by kernel_rfl))) (denA_cons (den_fz (den_lit 99 (by kernel_rfl))) (denA_cons den_int (denA_cons (den_bin sem_pow den_int den_int) (denA_cons den_bl (denA_cons (den_lit 99 (by kernel_rfl)) (denA_cons (den_bin sem_mulS den_str den_int) (denA_cons (den_bin sem_mulS den_str den_int) (denA_cons den_str (denA_cons den_str (denA_cons (den_fz (den_lit 99 (by kernel_rfl))) (denA_cons (den_fz (den_lit 99 (by kernel_rfl))) (denA_cons (den_fz (den_lst (denA_cons den_int (denA_cons (den_bin sem_pow den_int den_int) denA_nil rfl) rfl))) (denA_cons (den_fz (den_lit 99 (by kernel_rfl))) (denA_cons (den_fz (den_lit 99 (by kernel_rfl))) (denA_cons (den_fz (den_lit 99 (by kernel_rfl))) denA_nil rfl) rfl) rfl) rfl) rfl) rfl) rfl) rfl) rfl) rfl) rfl) rfl) rfl) rfl) rfl) rfl) rfl) rfl)))) (by decide) (fun s H C cl fp => (denG_name (Ct.blk ct) (i := 9) rfl (by first | exact Or.inl rfl | exact Or.inr rfl) (by first | exact Or.inl rfl | exact Or.inr rfl))) (fun s H C cl fp => denTs_nil) (fun s H C cl fp => (den_call (CK.ok O.o__law_judged) (Ct.blk ct) (Nat.le_refl _) rfl (denA_cons (den_var (i := 9) rfl (by first | exact Or.inl rfl | exact Or.inr (Or.inl rfl) | exact Or.inr (Or.inr rfl)) rfl rfl) denA_nil rfl) rfl rfl rfl)) (fun _ => rfl)))) rfl)
    (denS_cons (denS_ret (den_cmp (sem_notIn ct) den_bl (den_var (i := 11) rfl (by first | exact Or.inl rfl | exact Or.inr (Or.inl rfl) | exact Or.inr (Or.inr rfl)) rfl rfl) rfl))
    denS_nil)))))
theorem d__law_drawn_pair {P : Program} {w : World} {K : PySem.W.Frag} {mg : Str → Option Value} {base : Heap} {R0 fI : Addr} {n : Nat} {L : Nat → FF} (M : MF P w K mg R0 fI) (O : Oks P w K mg base n L) {f : Addr} {cdv : Value} {A : Around} {outer : List Env} {s : Shared} {H : Hp} {E : XK}
    (ct : Ct (BX P w K mg base ["generator", "below"] "_law_drawn_pair" (defScope (tp 46)) f cdv A outer s H E) n) : DenS (BX P w K mg base ["generator", "below"] "_law_drawn_pair" (defScope (tp 46)) f cdv A outer s H E) (defBody (tp 46)) (b__law_drawn_pair L) :=
    (denS_cons (denS_set ct (i := 1) rfl (by first | exact Or.inl rfl | exact Or.inr rfl) (by first | exact Or.inl rfl | exact Or.inr rfl) (den_call (CK.ok O.o__law_big) ct (Nat.le_refl _) rfl (denA_cons (den_var (i := 0) rfl (by first | exact Or.inl rfl | exact Or.inr (Or.inl rfl) | exact Or.inr (Or.inr rfl)) rfl rfl) denA_nil rfl) rfl rfl rfl) rfl)
    (denS_cons (denS_ret (den_tup (denA_cons (den_call (CK.ok O.o__law_big) ct (Nat.le_refl _) rfl (denA_cons (den_var (i := 0) rfl (by first | exact Or.inl rfl | exact Or.inr (Or.inl rfl) | exact Or.inr (Or.inr rfl)) rfl rfl) denA_nil rfl) rfl rfl rfl) (denA_cons (den_if (denT_cmp (sem_eq ct) (den_var (i := 1) rfl (by first | exact Or.inl rfl | exact Or.inr (Or.inl rfl) | exact Or.inr (Or.inr rfl)) rfl rfl) den_int rfl) den_int (den_var (i := 1) rfl (by first | exact Or.inl rfl | exact Or.inr (Or.inl rfl) | exact Or.inr (Or.inr rfl)) rfl rfl)) denA_nil rfl) rfl)))
    denS_nil))
theorem d__law_fraction {P : Program} {w : World} {K : PySem.W.Frag} {mg : Str → Option Value} {base : Heap} {R0 fI : Addr} {n : Nat} {L : Nat → FF} (M : MF P w K mg R0 fI) (O : Oks P w K mg base n L) {f : Addr} {cdv : Value} {A : Around} {outer : List Env} {s : Shared} {H : Hp} {E : XK}
    (ct : Ct (BX P w K mg base ["above", "below", "low"] "_law_fraction" (defScope (tp 47)) f cdv A outer s H E) n) : DenS (BX P w K mg base ["above", "below", "low"] "_law_fraction" (defScope (tp 47)) f cdv A outer s H E) (defBody (tp 47)) (b__law_fraction L) :=
    (denS_cons (denS_if (denT_cmp sem_lt (den_var (i := 1) rfl (by first | exact Or.inl rfl | exact Or.inr (Or.inl rfl) | exact Or.inr (Or.inr rfl)) rfl rfl) den_int rfl) (denS_cons (denS_par ct (i := 0) (j := 1) rfl rfl (by decide) rfl rfl (den_bin sem_sub den_int (den_var (i := 0) rfl (by first | exact Or.inl rfl | exact Or.inr (Or.inl rfl) | exact Or.inr (Or.inr rfl)) rfl rfl)) (den_bin sem_sub den_int (den_var (i := 1) rfl (by first | exact Or.inl rfl | exact Or.inr (Or.inl rfl) | exact Or.inr (Or.inr rfl)) rfl rfl)) rfl rfl rfl rfl)
    denS_nil) denS_nil)
    (denS_cons (denS_set ct (i := 2) rfl (by first | exact Or.inl rfl | exact Or.inr rfl) (by first | exact Or.inl rfl | exact Or.inr rfl) (den_call (CK.ok O.o__law_low) ct (Nat.le_refl _) rfl (denA_cons (den_var (i := 0) rfl (by first | exact Or.inl rfl | exact Or.inr (Or.inl rfl) | exact Or.inr (Or.inr rfl)) rfl rfl) (denA_cons (den_var (i := 1) rfl (by first | exact Or.inl rfl | exact Or.inr (Or.inl rfl) | exact Or.inr (Or.inr rfl)) rfl rfl) denA_nil rfl) rfl) rfl rfl rfl) rfl)
    (denS_cons (denS_ret (den_if (denT_cmp sem_gt (den_ix (den_var (i := 2) rfl (by first | exact Or.inl rfl | exact Or.inr (Or.inl rfl) | exact Or.inr (Or.inr rfl)) rfl rfl) den_int (by intro _ _; rfl)) den_int rfl) (den_var (i := 2) rfl (by first | exact Or.inl rfl | exact Or.inr (Or.inl rfl) | exact Or.inr (Or.inr rfl)) rfl rfl) (den_lit 99 (by kernel_rfl))))
    denS_nil)))
theorem d__law_is_fraction {P : Program} {w : World} {K : PySem.W.Frag} {mg : Str → Option Value} {base : Heap} {R0 fI : Addr} {n : Nat} {L : Nat → FF} (M : MF P w K mg R0 fI) (O : Oks P w K mg base n L) {f : Addr} {cdv : Value} {A : Around} {outer : List Env} {s : Shared} {H : Hp} {E : XK}
    (ct : Ct (BX P w K mg base ["value", "part"] "_law_is_fraction" (defScope (tp 48)) f cdv A outer s H E) n) : DenS (BX P w K mg base ["value", "part"] "_law_is_fraction" (defScope (tp 48)) f cdv A outer s H E) (defBody (tp 48)) (b__law_is_fraction L) :=
    (denS_cons (denS_if (denW_t (denW_or (denT_not (denT_val (den_isi (t := .tuple) (den_var (i := 0) rfl (by first | exact Or.inl rfl | exact Or.inr (Or.inl rfl) | exact Or.inr (Or.inr rfl)) rfl rfl) rfl M.f_isinstance rfl M.f_tuple (by decide +kernel) (by decide) rfl rfl rfl rfl) (fun _ => rfl))) (denW_or (denT_cmp (sem_ne ct) (den_callB (sem_len) rfl M.f_len (by decide +kernel) (denA_cons (den_var (i := 0) rfl (by first | exact Or.inl rfl | exact Or.inr (Or.inl rfl) | exact Or.inr (Or.inr rfl)) rfl rfl) denA_nil rfl) (by decide) rfl rfl rfl) den_int rfl) (denW_or1 (denT_cmp (sem_ne ct) (den_lc ct (own := [("part", 1)]) (blkOk_by rfl) (denI_seq (den_var (i := 0) rfl (by first | exact Or.inl rfl | exact Or.inr (Or.inl rfl) | exact Or.inr (Or.inr rfl)) rfl rfl)) (by decide) (fun s H C cl fp => (denG_name (Ct.blk ct) (i := 1) rfl (by first | exact Or.inl rfl | exact Or.inr rfl) (by first | exact Or.inl rfl | exact Or.inr rfl))) (fun s H C cl fp => (denTs_one (denW_t (denW_or (denT_val (den_isi (t := .bool) (den_var (i := 1) rfl (by first | exact Or.inl rfl | exact Or.inr (Or.inl rfl) | exact Or.inr (Or.inr rfl)) rfl rfl) rfl M.f_isinstance rfl M.f_bool (by decide +kernel) (by decide) rfl rfl rfl rfl) (fun _ => rfl)) (denW_or1 (denT_not (denT_val (den_isi (t := .int) (den_var (i := 1) rfl (by first | exact Or.inl rfl | exact Or.inr (Or.inl rfl) | exact Or.inr (Or.inr rfl)) rfl rfl) rfl M.f_isinstance rfl M.f_int (by decide +kernel) (by decide) rfl rfl rfl rfl) (fun _ => rfl)))))))) (fun s H C cl fp => (den_var (i := 1) rfl (by first | exact Or.inl rfl | exact Or.inr (Or.inl rfl) | exact Or.inr (Or.inr rfl)) rfl rfl)) (fun _ => rfl)) (den_lit 99 (by kernel_rfl)) rfl))))) (denS_cons (denS_ret den_bl)
    denS_nil) denS_nil)
    (denS_cons (denS_ret (den_and (den_cmp sem_gt (den_ix (den_var (i := 0) rfl (by first | exact Or.inl rfl | exact Or.inr (Or.inl rfl) | exact Or.inr (Or.inr rfl)) rfl rfl) den_int (by intro _ _; rfl)) den_int rfl) (den_one (den_cmp (sem_eq ct) (den_call (CK.ok O.o__law_fraction) ct (Nat.le_refl _) rfl (denA_cons (den_ix (den_var (i := 0) rfl (by first | exact Or.inl rfl | exact Or.inr (Or.inl rfl) | exact Or.inr (Or.inr rfl)) rfl rfl) den_int (by intro _ _; rfl)) (denA_cons (den_ix (den_var (i := 0) rfl (by first | exact Or.inl rfl | exact Or.inr (Or.inl rfl) | exact Or.inr (Or.inr rfl)) rfl rfl) den_int (by intro _ _; rfl)) denA_nil rfl) rfl) rfl rfl rfl) (den_var (i := 0) rfl (by first | exact Or.inl rfl | exact Or.inr (Or.inl rfl) | exact Or.inr (Or.inr rfl)) rfl rfl) rfl))))
    denS_nil))
theorem d__law_made_right {P : Program} {w : World} {K : PySem.W.Frag} {mg : Str → Option Value} {base : Heap} {R0 fI : Addr} {n : Nat} {L : Nat → FF} (M : MF P w K mg R0 fI) (O : Oks P w K mg base n L) {f : Addr} {cdv : Value} {A : Around} {outer : List Env} {s : Shared} {H : Hp} {E : XK}
    (ct : Ct (BX P w K mg base ["generator", "above", "below", "times", "due", "told", "values", "value", "shown"] "_law_made_right" (defScope (tp 49)) f cdv A outer s H E) n) : DenS (BX P w K mg base ["generator", "above", "below", "times", "due", "told", "values", "value", "shown"] "_law_made_right" (defScope (tp 49)) f cdv A outer s H E) (defBody (tp 49)) (b__law_made_right L) :=
    (denS_cons (denS_asg (den_call (CK.ok O.o__law_drawn_pair) ct (Nat.le_refl _) rfl (denA_cons (den_var (i := 0) rfl (by first | exact Or.inl rfl | exact Or.inr (Or.inl rfl) | exact Or.inr (Or.inr rfl)) rfl rfl) denA_nil rfl) rfl rfl rfl) (denG_tup ct (denGs_cons (denG_name ct (i := 1) rfl (by first | exact Or.inl rfl | exact Or.inr rfl) (by first | exact Or.inl rfl | exact Or.inr rfl)) (denGs_cons (denG_name ct (i := 2) rfl (by first | exact Or.inl rfl | exact Or.inr rfl) (by first | exact Or.inl rfl | exact Or.inr rfl)) denGs_nil rfl) rfl) rfl rfl) rfl rfl rfl)
    (denS_cons (denS_set ct (i := 3) rfl (by first | exact Or.inl rfl | exact Or.inr rfl) (by first | exact Or.inl rfl | exact Or.inr rfl) (den_fz (den_bin sem_add den_int (den_call (CK.ok O.o__law_random) ct (Nat.le_refl _) rfl (denA_cons (den_var (i := 0) rfl (by first | exact Or.inl rfl | exact Or.inr (Or.inl rfl) | exact Or.inr (Or.inr rfl)) rfl rfl) (denA_cons den_int denA_nil rfl) rfl) rfl rfl rfl))) rfl)
    (denS_cons (denS_set ct (i := 4) rfl (by first | exact Or.inl rfl | exact Or.inr rfl) (by first | exact Or.inl rfl | exact Or.inr rfl) (den_call (CK.ok O.o__law_fraction) ct (Nat.le_refl _) rfl (denA_cons (den_var (i := 1) rfl (by first | exact Or.inl rfl | exact Or.inr (Or.inl rfl) | exact Or.inr (Or.inr rfl)) rfl rfl) (denA_cons (den_var (i := 2) rfl (by first | exact Or.inl rfl | exact Or.inr (Or.inl rfl) | exact Or.inr (Or.inr rfl)) rfl rfl) denA_nil rfl) rfl) rfl rfl rfl) rfl)
    (denS_cons (denS_set ct (i := 5) rfl (by first | exact Or.inl rfl | exact Or.inr rfl) (by first | exact Or.inl rfl | exact Or.inr rfl) (den_fz (den_lst (denA_cons (den_call (CK.ok O.o_fraction_of) ct (Nat.le_refl _) rfl (denA_cons (den_var (i := 1) rfl (by first | exact Or.inl rfl | exact Or.inr (Or.inl rfl) | exact Or.inr (Or.inr rfl)) rfl rfl) (denA_cons (den_var (i := 2) rfl (by first | exact Or.inl rfl | exact Or.inr (Or.inl rfl) | exact Or.inr (Or.inr rfl)) rfl rfl) denA_nil rfl) rfl) rfl rfl rfl) (denA_cons (den_callK (x := "fraction_of") (ks := ["below", "above"]) (CKK.ok O.k_fraction_of_below_above) ct (Nat.le_refl _) rfl (denK_cons (den_bin sem_mul (den_var (i := 2) rfl (by first | exact Or.inl rfl | exact Or.inr (Or.inl rfl) | exact Or.inr (Or.inr rfl)) rfl rfl) (den_var (i := 3) rfl (by first | exact Or.inl rfl | exact Or.inr (Or.inl rfl) | exact Or.inr (Or.inr rfl)) rfl rfl)) (denK_cons (den_bin sem_mul (den_var (i := 1) rfl (by first | exact Or.inl rfl | exact Or.inr (Or.inl rfl) | exact Or.inr (Or.inr rfl)) rfl rfl) (den_var (i := 3) rfl (by first | exact Or.inl rfl | exact Or.inr (Or.inl rfl) | exact Or.inr (Or.inr rfl)) rfl rfl)) denK_nil)) rfl rfl rfl rfl) (denA_cons (den_call (CK.ok O.o_fraction_of) ct (Nat.le_refl _) rfl (denA_cons (den_bin sem_sub den_int (den_var (i := 1) rfl (by first | exact Or.inl rfl | exact Or.inr (Or.inl rfl) | exact Or.inr (Or.inr rfl)) rfl rfl)) (denA_cons (den_bin sem_sub den_int (den_var (i := 2) rfl (by first | exact Or.inl rfl | exact Or.inr (Or.inl rfl) | exact Or.inr (Or.inr rfl)) rfl rfl)) denA_nil rfl) rfl) rfl rfl rfl) denA_nil rfl) rfl) rfl))) rfl)
    (denS_cons (denS_if (denT_not (denT_val (den_call (CK.ok O.o__law_exact) ct (Nat.le_refl _) rfl (denA_cons (den_var (i := 5) rfl (by first | exact Or.inl rfl | exact Or.inr (Or.inl rfl) | exact Or.inr (Or.inr rfl)) rfl rfl) (denA_cons (den_fz (den_lst (denA_cons (den_var (i := 4) rfl (by first | exact Or.inl rfl | exact Or.inr (Or.inl rfl) | exact Or.inr (Or.inr rfl)) rfl rfl) (denA_cons (den_var (i := 4) rfl (by first | exact Or.inl rfl | exact Or.inr (Or.inl rfl) | exact Or.inr (Or.inr rfl)) rfl rfl) (denA_cons (den_var (i := 4) rfl (by first | exact Or.inl rfl | exact Or.inr (Or.inl rfl) | exact Or.inr (Or.inr rfl)) rfl rfl) denA_nil rfl) rfl) rfl))) denA_nil rfl) rfl) rfl rfl rfl) (fun _ => rfl))) (denS_cons (denS_ret den_bl)
    denS_nil) denS_nil)
    (denS_cons (denS_set ct (i := 6) rfl (by first | exact Or.inl rfl | exact Or.inr rfl) (by first | exact Or.inl rfl | exact Or.inr rfl) (den_fz (den_lst (denA_cons (den_var (i := 4) rfl (by first | exact Or.inl rfl | exact Or.inr (Or.inl rfl) | exact Or.inr (Or.inr rfl)) rfl rfl) (denA_cons (den_fz (den_callTy (sem_list) rfl M.f_list (by decide +kernel) (denA_cons (den_var (i := 4) rfl (by first | exact Or.inl rfl | exact Or.inr (Or.inl rfl) | exact Or.inr (Or.inr rfl)) rfl rfl) denA_nil rfl) (by decide) rfl rfl rfl)) (denA_cons (den_fz (den_bin sem_add (den_var (i := 4) rfl (by first | exact Or.inl rfl | exact Or.inr (Or.inl rfl) | exact Or.inr (Or.inr rfl)) rfl rfl) (den_lit 99 (by kernel_rfl)))) (denA_cons (den_fz (den_sl (den_var (i := 4) rfl (by first | exact Or.inl rfl | exact Or.inr (Or.inl rfl) | exact Or.inr (Or.inr rfl)) rfl rfl) denO_none (denO_some den_int))) (denA_cons (den_tup (denA_cons (den_var (i := 1) rfl (by first | exact Or.inl rfl | exact Or.inr (Or.inl rfl) | exact Or.inr (Or.inr rfl)) rfl rfl) (denA_cons (den_var (i := 2) rfl (by first | exact Or.inl rfl | exact Or.inr (Or.inl rfl) | exact Or.inr (Or.inr rfl)) rfl rfl) denA_nil rfl) rfl)) (denA_cons (den_tup (denA_cons (den_bin sem_mul (den_var (i := 1) rfl (by first | exact Or.inl rfl | exact Or.inr (Or.inl rfl) | exact Or.inr (Or.inr rfl)) rfl rfl) (den_var (i := 3) rfl (by first | exact Or.inl rfl | exact Or.inr (Or.inl rfl) | exact Or.inr (Or.inr rfl)) rfl rfl)) (denA_cons (den_bin sem_mul (den_var (i := 2) rfl (by first | exact Or.inl rfl | exact Or.inr (Or.inl rfl) | exact Or.inr (Or.inr rfl)) rfl rfl) (den_var (i := 3) rfl (by first | exact Or.inl rfl | exact Or.inr (Or.inl rfl) | exact Or.inr (Or.inr rfl)) rfl rfl)) denA_nil rfl) rfl)) (denA_cons (den_tup (denA_cons (den_ix (den_var (i := 4) rfl (by first | exact Or.inl rfl | exact Or.inr (Or.inl rfl) | exact Or.inr (Or.inr rfl)) rfl rfl) den_int (by intro _ _; rfl)) (denA_cons (den_bin sem_sub den_int (den_ix (den_var (i := 4) rfl (by first | exact Or.inl rfl | exact Or.inr (Or.inl rfl) | exact Or.inr (Or.inr rfl)) rfl rfl) den_int (by intro _ _; rfl))) denA_nil rfl) rfl)) denA_nil rfl) rfl) rfl) rfl) rfl) rfl) rfl))) rfl)
    (denS_cons (denS_set ct (i := 6) rfl (by first | exact Or.inl rfl | exact Or.inr rfl) (by first | exact Or.inl rfl | exact Or.inr rfl) (den_fz (den_bin sem_add (den_var (i := 6) rfl (by first | exact Or.inl rfl | exact Or.inr (Or.inl rfl) | exact Or.inr (Or.inr rfl)) rfl rfl) (den_lst (denA_cons (den_tup (denA_cons (den_ix (den_var (i := 4) rfl (by first | exact Or.inl rfl | exact Or.inr (Or.inl rfl) | exact Or.inr (Or.inr rfl)) rfl rfl) den_int (by intro _ _; rfl)) (denA_cons den_int denA_nil rfl) rfl)) (denA_cons (den_lit 99 (by kernel_rfl)) (denA_cons (den_lit 99 (by kernel_rfl)) (denA_cons (den_lit 99 (by kernel_rfl)) (denA_cons den_non (denA_cons (den_var (i := 1) rfl (by first | exact Or.inl rfl | exact Or.inr (Or.inl rfl) | exact Or.inr (Or.inr rfl)) rfl rfl) (denA_cons (den_lit 99 (by kernel_rfl)) (denA_cons (den_lit 99 (by kernel_rfl)) (denA_cons (den_call (CK.ok O.o__law_any) ct (Nat.le_refl _) rfl (denA_cons (den_var (i := 0) rfl (by first | exact Or.inl rfl | exact Or.inr (Or.inl rfl) | exact Or.inr (Or.inr rfl)) rfl rfl) denA_nil rfl) rfl rfl rfl) denA_nil rfl) rfl) rfl) rfl) rfl) rfl) rfl) rfl) rfl)))) rfl)
    (denS_cons (denS_set ct (i := 6) rfl (by first | exact Or.inl rfl | exact Or.inr rfl) (by first | exact Or.inl rfl | exact Or.inr rfl) (den_fz (den_bin sem_add (den_var (i := 6) rfl (by first | exact Or.inl rfl | exact Or.inr (Or.inl rfl) | exact Or.inr (Or.inr rfl)) rfl rfl) (den_lit 99 (by kernel_rfl)))) rfl)
    (denS_cons (denS_for ct bx_po (denI_seq (den_var (i := 6) rfl (by first | exact Or.inl rfl | exact Or.inr (Or.inl rfl) | exact Or.inr (Or.inr rfl)) rfl rfl)) (denG_name ct (i := 7) rfl (by first | exact Or.inl rfl | exact Or.inr rfl) (by first | exact Or.inl rfl | exact Or.inr rfl)) (denS_cons (denS_set ct (i := 8) rfl (by first | exact Or.inl rfl | exact Or.inr rfl) (by first | exact Or.inl rfl | exact Or.inr rfl) (den_callB (sem_repr2 ct) rfl M.f_repr (by decide +kernel) (denA_cons (den_var (i := 7) rfl (by first | exact Or.inl rfl | exact Or.inr (Or.inl rfl) | exact Or.inr (Or.inr rfl)) rfl rfl) denA_nil rfl) (by decide) rfl rfl rfl) rfl)
    (denS_cons (denS_if (denW_t (denW_or (denT_not (denT_val (den_call (CK.ok O.o__law_exact) ct (Nat.le_refl _) rfl (denA_cons (den_fz (den_lst (denA_cons (den_call (CK.ok O.o_is_fraction) ct (Nat.le_refl _) rfl (denA_cons (den_var (i := 7) rfl (by first | exact Or.inl rfl | exact Or.inr (Or.inl rfl) | exact Or.inr (Or.inr rfl)) rfl rfl) denA_nil rfl) rfl rfl rfl) (denA_cons (den_callK (x := "is_fraction") (ks := ["value"]) (CKK.ok O.k_is_fraction_value) ct (Nat.le_refl _) rfl (denK_cons (den_var (i := 7) rfl (by first | exact Or.inl rfl | exact Or.inr (Or.inl rfl) | exact Or.inr (Or.inr rfl)) rfl rfl) denK_nil) rfl rfl rfl rfl) denA_nil rfl) rfl))) (denA_cons (den_fz (den_rep (den_lst (denA_cons (den_call (CK.ok O.o__law_is_fraction) ct (Nat.le_refl _) rfl (denA_cons (den_var (i := 7) rfl (by first | exact Or.inl rfl | exact Or.inr (Or.inl rfl) | exact Or.inr (Or.inr rfl)) rfl rfl) denA_nil rfl) rfl rfl rfl) denA_nil rfl)) den_int)) denA_nil rfl) rfl) rfl rfl rfl) (fun _ => rfl))) (denW_or1 (denT_cmp (sem_ne ct) (den_callB (sem_repr2 ct) rfl M.f_repr (by decide +kernel) (denA_cons (den_var (i := 7) rfl (by first | exact Or.inl rfl | exact Or.inr (Or.inl rfl) | exact Or.inr (Or.inr rfl)) rfl rfl) denA_nil rfl) (by decide) rfl rfl rfl) (den_var (i := 8) rfl (by first | exact Or.inl rfl | exact Or.inr (Or.inl rfl) | exact Or.inr (Or.inr rfl)) rfl rfl) rfl)))) (denS_cons (denS_ret den_bl)
    denS_nil) denS_nil)
    denS_nil)) (fun _ => rfl))
    (denS_cons (denS_ret den_bl)
    denS_nil))))))))))
theorem d__law_sums_right {P : Program} {w : World} {K : PySem.W.Frag} {mg : Str → Option Value} {base : Heap} {R0 fI : Addr} {n : Nat} {L : Nat → FF} (M : MF P w K mg R0 fI) (O : Oks P w K mg base n L) {f : Addr} {cdv : Value} {A : Around} {outer : List Env} {s : Shared} {H : Hp} {E : XK}
    (ct : Ct (BX P w K mg base ["generator", "items", "kept", "total", "product", "item", "one", "other", "pair", "due", "turn"] "_law_sums_right" (defScope (tp 50)) f cdv A outer s H E) n) : DenS (BX P w K mg base ["generator", "items", "kept", "total", "product", "item", "one", "other", "pair", "due", "turn"] "_law_sums_right" (defScope (tp 50)) f cdv A outer s H E) (defBody (tp 50)) (b__law_sums_right L) :=
    (denS_cons (denS_lock 1 (denS_setLc ct (i := 1) rfl rfl (sw_true rfl rfl rfl rfl) (own := [("pair", 8)]) (blkOk_by rfl) (denI_seq (den_fz (den_lc ct (own := [("turn", 10)]) (blkOk_by rfl) (denI_rg1 rfl M.f_range (denA_cons (den_call (CK.ok O.o__law_random) ct (Nat.le_refl _) rfl (denA_cons (den_var (i := 0) rfl (by first | exact Or.inl rfl | exact Or.inr (Or.inl rfl) | exact Or.inr (Or.inr rfl)) rfl rfl) (denA_cons den_int denA_nil rfl) rfl) rfl rfl rfl) denA_nil rfl) rfl) (by decide) (fun s H C cl fp => (denG_name (Ct.blk ct) (i := 10) rfl (by first | exact Or.inl rfl | exact Or.inr rfl) (by first | exact Or.inl rfl | exact Or.inr rfl))) (fun s H C cl fp => denTs_nil) (fun s H C cl fp => (den_call (CK.ok O.o__law_drawn_pair) (Ct.blk ct) (Nat.le_refl _) rfl (denA_cons (den_var (i := 0) rfl (by first | exact Or.inl rfl | exact Or.inr (Or.inl rfl) | exact Or.inr (Or.inr rfl)) rfl rfl) denA_nil rfl) rfl rfl rfl)) (fun _ => rfl)))) (by decide) (fun s H C cl fp => (denG_name (Ct.blk ct) (i := 8) rfl (by first | exact Or.inl rfl | exact Or.inr rfl) (by first | exact Or.inl rfl | exact Or.inr rfl))) (fun s H C cl fp => denTs_nil) (fun s H C cl fp => (den_call (CK.ok O.o__law_fraction) (Ct.blk ct) (Nat.le_refl _) rfl (denA_cons (den_ix (den_var (i := 8) rfl (by first | exact Or.inl rfl | exact Or.inr (Or.inl rfl) | exact Or.inr (Or.inr rfl)) rfl rfl) den_int (by intro _ _; rfl)) (denA_cons (den_ix (den_var (i := 8) rfl (by first | exact Or.inl rfl | exact Or.inr (Or.inl rfl) | exact Or.inr (Or.inr rfl)) rfl rfl) den_int (by intro _ _; rfl)) denA_nil rfl) rfl) rfl rfl rfl)) (fun _ => rfl)))
    (denS_cons (denS_par3 ct (i := 2) (j := 3) (l := 4) rfl rfl rfl (by decide) (by decide) (by decide) rfl rfl rfl (denA_cons (den_callB (sem_repr2 ct) rfl M.f_repr (by decide +kernel) (denA_cons (den_var (i := 1) rfl (by first | exact Or.inl rfl | exact Or.inr (Or.inl rfl) | exact Or.inr (Or.inr rfl)) rfl rfl) denA_nil rfl) (by decide) rfl rfl rfl) (denA_cons (den_lit 99 (by kernel_rfl)) (denA_cons (den_lit 99 (by kernel_rfl)) denA_nil rfl) rfl) rfl) rfl rfl)
    (denS_cons (denS_for ct bx_po (denI_seq (den_var (i := 1) rfl (by first | exact Or.inl rfl | exact Or.inr (Or.inl rfl) | exact Or.inr (Or.inr rfl)) rfl rfl)) (denG_name ct (i := 5) rfl (by first | exact Or.inl rfl | exact Or.inr rfl) (by first | exact Or.inl rfl | exact Or.inr rfl)) (denS_cons (denS_set ct (i := 3) rfl (by first | exact Or.inl rfl | exact Or.inr rfl) (by first | exact Or.inl rfl | exact Or.inr rfl) (den_call (CK.ok O.o__law_fraction) ct (Nat.le_refl _) rfl (denA_cons (den_fz (den_bin sem_add (den_bin sem_mul (den_ix (den_var (i := 3) rfl (by first | exact Or.inl rfl | exact Or.inr (Or.inl rfl) | exact Or.inr (Or.inr rfl)) rfl rfl) den_int (by intro _ _; rfl)) (den_ix (den_var (i := 5) rfl (by first | exact Or.inl rfl | exact Or.inr (Or.inl rfl) | exact Or.inr (Or.inr rfl)) rfl rfl) den_int (by intro _ _; rfl))) (den_bin sem_mul (den_ix (den_var (i := 5) rfl (by first | exact Or.inl rfl | exact Or.inr (Or.inl rfl) | exact Or.inr (Or.inr rfl)) rfl rfl) den_int (by intro _ _; rfl)) (den_ix (den_var (i := 3) rfl (by first | exact Or.inl rfl | exact Or.inr (Or.inl rfl) | exact Or.inr (Or.inr rfl)) rfl rfl) den_int (by intro _ _; rfl))))) (denA_cons (den_bin sem_mul (den_ix (den_var (i := 3) rfl (by first | exact Or.inl rfl | exact Or.inr (Or.inl rfl) | exact Or.inr (Or.inr rfl)) rfl rfl) den_int (by intro _ _; rfl)) (den_ix (den_var (i := 5) rfl (by first | exact Or.inl rfl | exact Or.inr (Or.inl rfl) | exact Or.inr (Or.inr rfl)) rfl rfl) den_int (by intro _ _; rfl))) denA_nil rfl) rfl) rfl rfl rfl) rfl)
    (denS_cons (denS_set ct (i := 4) rfl (by first | exact Or.inl rfl | exact Or.inr rfl) (by first | exact Or.inl rfl | exact Or.inr rfl) (den_call (CK.ok O.o__law_fraction) ct (Nat.le_refl _) rfl (denA_cons (den_bin sem_mul (den_ix (den_var (i := 4) rfl (by first | exact Or.inl rfl | exact Or.inr (Or.inl rfl) | exact Or.inr (Or.inr rfl)) rfl rfl) den_int (by intro _ _; rfl)) (den_ix (den_var (i := 5) rfl (by first | exact Or.inl rfl | exact Or.inr (Or.inl rfl) | exact Or.inr (Or.inr rfl)) rfl rfl) den_int (by intro _ _; rfl))) (denA_cons (den_bin sem_mul (den_ix (den_var (i := 4) rfl (by first | exact Or.inl rfl | exact Or.inr (Or.inl rfl) | exact Or.inr (Or.inr rfl)) rfl rfl) den_int (by intro _ _; rfl)) (den_ix (den_var (i := 5) rfl (by first | exact Or.inl rfl | exact Or.inr (Or.inl rfl) | exact Or.inr (Or.inr rfl)) rfl rfl) den_int (by intro _ _; rfl))) denA_nil rfl) rfl) rfl rfl rfl) rfl)
    denS_nil)) (fun _ => rfl))
    (denS_cons (denS_if (denT_not (denT_val (den_call (CK.ok O.o__law_exact) ct (Nat.le_refl _) rfl (denA_cons (den_fz (den_lst (denA_cons (den_call (CK.ok O.o_sum_of) ct (Nat.le_refl _) rfl (denA_cons (den_var (i := 1) rfl (by first | exact Or.inl rfl | exact Or.inr (Or.inl rfl) | exact Or.inr (Or.inr rfl)) rfl rfl) denA_nil rfl) rfl rfl rfl) (denA_cons (den_callK (x := "sum_of") (ks := ["fractions"]) (CKK.ok O.k_sum_of_fractions) ct (Nat.le_refl _) rfl (denK_cons (den_var (i := 1) rfl (by first | exact Or.inl rfl | exact Or.inr (Or.inl rfl) | exact Or.inr (Or.inr rfl)) rfl rfl) denK_nil) rfl rfl rfl rfl) (denA_cons (den_call (CK.ok O.o_product_of) ct (Nat.le_refl _) rfl (denA_cons (den_var (i := 1) rfl (by first | exact Or.inl rfl | exact Or.inr (Or.inl rfl) | exact Or.inr (Or.inr rfl)) rfl rfl) denA_nil rfl) rfl rfl rfl) (denA_cons (den_callK (x := "product_of") (ks := ["fractions"]) (CKK.ok O.k_product_of_fractions) ct (Nat.le_refl _) rfl (denK_cons (den_var (i := 1) rfl (by first | exact Or.inl rfl | exact Or.inr (Or.inl rfl) | exact Or.inr (Or.inr rfl)) rfl rfl) denK_nil) rfl rfl rfl rfl) denA_nil rfl) rfl) rfl) rfl))) (denA_cons (den_fz (den_lst (denA_cons (den_var (i := 3) rfl (by first | exact Or.inl rfl | exact Or.inr (Or.inl rfl) | exact Or.inr (Or.inr rfl)) rfl rfl) (denA_cons (den_var (i := 3) rfl (by first | exact Or.inl rfl | exact Or.inr (Or.inl rfl) | exact Or.inr (Or.inr rfl)) rfl rfl) (denA_cons (den_var (i := 4) rfl (by first | exact Or.inl rfl | exact Or.inr (Or.inl rfl) | exact Or.inr (Or.inr rfl)) rfl rfl) (denA_cons (den_var (i := 4) rfl (by first | exact Or.inl rfl | exact Or.inr (Or.inl rfl) | exact Or.inr (Or.inr rfl)) rfl rfl) denA_nil rfl) rfl) rfl) rfl))) denA_nil rfl) rfl) rfl rfl rfl) (fun _ => rfl))) (denS_cons (denS_ret den_bl)
    denS_nil) denS_nil)
    (denS_cons (denS_set ct (i := 1) rfl (by first | exact Or.inl rfl | exact Or.inr rfl) (by first | exact Or.inl rfl | exact Or.inr rfl) (den_fz (den_bin sem_add (den_var (i := 1) rfl (by first | exact Or.inl rfl | exact Or.inr (Or.inl rfl) | exact Or.inr (Or.inr rfl)) rfl rfl) (den_lst (denA_cons (den_lit 99 (by kernel_rfl)) (denA_cons (den_lit 99 (by kernel_rfl)) (denA_cons (den_tup (denA_cons (den_bin sem_sub den_int den_int) (denA_cons den_int denA_nil rfl) rfl)) (denA_cons (den_lit 99 (by kernel_rfl)) denA_nil rfl) rfl) rfl) rfl)))) rfl)
    (denS_cons (denS_par ct (i := 6) (j := 7) rfl rfl (by decide) rfl rfl (den_call (CK.ok O.o__law_pick) ct (Nat.le_refl _) rfl (denA_cons (den_var (i := 0) rfl (by first | exact Or.inl rfl | exact Or.inr (Or.inl rfl) | exact Or.inr (Or.inr rfl)) rfl rfl) (denA_cons (den_var (i := 1) rfl (by first | exact Or.inl rfl | exact Or.inr (Or.inl rfl) | exact Or.inr (Or.inr rfl)) rfl rfl) denA_nil rfl) rfl) rfl rfl rfl) (den_call (CK.ok O.o__law_pick) ct (Nat.le_refl _) rfl (denA_cons (den_var (i := 0) rfl (by first | exact Or.inl rfl | exact Or.inr (Or.inl rfl) | exact Or.inr (Or.inr rfl)) rfl rfl) (denA_cons (den_var (i := 1) rfl (by first | exact Or.inl rfl | exact Or.inr (Or.inl rfl) | exact Or.inr (Or.inr rfl)) rfl rfl) denA_nil rfl) rfl) rfl rfl rfl) rfl rfl rfl rfl)
    (denS_cons (denS_for ct bx_po (denI_seq (den_fz (den_lst (denA_cons (den_tup (denA_cons (den_var (i := 6) rfl (by first | exact Or.inl rfl | exact Or.inr (Or.inl rfl) | exact Or.inr (Or.inr rfl)) rfl rfl) (denA_cons (den_var (i := 7) rfl (by first | exact Or.inl rfl | exact Or.inr (Or.inl rfl) | exact Or.inr (Or.inr rfl)) rfl rfl) denA_nil rfl) rfl)) (denA_cons (den_tup (denA_cons (den_var (i := 7) rfl (by first | exact Or.inl rfl | exact Or.inr (Or.inl rfl) | exact Or.inr (Or.inr rfl)) rfl rfl) (denA_cons (den_var (i := 6) rfl (by first | exact Or.inl rfl | exact Or.inr (Or.inl rfl) | exact Or.inr (Or.inr rfl)) rfl rfl) denA_nil rfl) rfl)) (denA_cons (den_tup (denA_cons (den_var (i := 6) rfl (by first | exact Or.inl rfl | exact Or.inr (Or.inl rfl) | exact Or.inr (Or.inr rfl)) rfl rfl) (denA_cons (den_var (i := 6) rfl (by first | exact Or.inl rfl | exact Or.inr (Or.inl rfl) | exact Or.inr (Or.inr rfl)) rfl rfl) denA_nil rfl) rfl)) denA_nil rfl) rfl) rfl)))) (denG_name ct (i := 8) rfl (by first | exact Or.inl rfl | exact Or.inr rfl) (by first | exact Or.inl rfl | exact Or.inr rfl)) (denS_cons (denS_set ct (i := 9) rfl (by first | exact Or.inl rfl | exact Or.inr rfl) (by first | exact Or.inl rfl | exact Or.inr rfl) (den_cmp sem_lt (den_bin sem_mul (den_ix (den_ix (den_var (i := 8) rfl (by first | exact Or.inl rfl | exact Or.inr (Or.inl rfl) | exact Or.inr (Or.inr rfl)) rfl rfl) den_int (by intro _ _; rfl)) den_int (by intro _ _; rfl)) (den_ix (den_ix (den_var (i := 8) rfl (by first | exact Or.inl rfl | exact Or.inr (Or.inl rfl) | exact Or.inr (Or.inr rfl)) rfl rfl) den_int (by intro _ _; rfl)) den_int (by intro _ _; rfl))) (den_bin sem_mul (den_ix (den_ix (den_var (i := 8) rfl (by first | exact Or.inl rfl | exact Or.inr (Or.inl rfl) | exact Or.inr (Or.inr rfl)) rfl rfl) den_int (by intro _ _; rfl)) den_int (by intro _ _; rfl)) (den_ix (den_ix (den_var (i := 8) rfl (by first | exact Or.inl rfl | exact Or.inr (Or.inl rfl) | exact Or.inr (Or.inr rfl)) rfl rfl) den_int (by intro _ _; rfl)) den_int (by intro _ _; rfl))) rfl) rfl)
    (denS_cons (denS_if (denT_not (denT_val (den_call (CK.ok O.o__law_exact) ct (Nat.le_refl _) rfl (denA_cons (den_fz (den_lst (denA_cons (den_call (CK.ok O.o_is_less) ct (Nat.le_refl _) rfl (denA_cons (den_ix (den_var (i := 8) rfl (by first | exact Or.inl rfl | exact Or.inr (Or.inl rfl) | exact Or.inr (Or.inr rfl)) rfl rfl) den_int (by intro _ _; rfl)) (denA_cons (den_ix (den_var (i := 8) rfl (by first | exact Or.inl rfl | exact Or.inr (Or.inl rfl) | exact Or.inr (Or.inr rfl)) rfl rfl) den_int (by intro _ _; rfl)) denA_nil rfl) rfl) rfl rfl rfl) (denA_cons (den_callK (x := "is_less") (ks := ["other", "one"]) (CKK.ok O.k_is_less_other_one) ct (Nat.le_refl _) rfl (denK_cons (den_ix (den_var (i := 8) rfl (by first | exact Or.inl rfl | exact Or.inr (Or.inl rfl) | exact Or.inr (Or.inr rfl)) rfl rfl) den_int (by intro _ _; rfl)) (denK_cons (den_ix (den_var (i := 8) rfl (by first | exact Or.inl rfl | exact Or.inr (Or.inl rfl) | exact Or.inr (Or.inr rfl)) rfl rfl) den_int (by intro _ _; rfl)) denK_nil)) rfl rfl rfl rfl) denA_nil rfl) rfl))) (denA_cons (den_fz (den_lst (denA_cons (den_var (i := 9) rfl (by first | exact Or.inl rfl | exact Or.inr (Or.inl rfl) | exact Or.inr (Or.inr rfl)) rfl rfl) (denA_cons (den_var (i := 9) rfl (by first | exact Or.inl rfl | exact Or.inr (Or.inl rfl) | exact Or.inr (Or.inr rfl)) rfl rfl) denA_nil rfl) rfl))) denA_nil rfl) rfl) rfl rfl rfl) (fun _ => rfl))) (denS_cons (denS_ret den_bl)
    denS_nil) denS_nil)
    denS_nil)) (fun _ => rfl))
    (denS_cons (denS_ret (den_cmp (sem_eq ct) (den_var (i := 2) rfl (by first | exact Or.inl rfl | exact Or.inr (Or.inl rfl) | exact Or.inr (Or.inr rfl)) rfl rfl) (den_callB (sem_repr2 ct) rfl M.f_repr (by decide +kernel) (denA_cons (den_sl (den_var (i := 1) rfl (by first | exact Or.inl rfl | exact Or.inr (Or.inl rfl) | exact Or.inr (Or.inr rfl)) rfl rfl) denO_none (denO_some (den_bin sem_sub den_int den_int))) denA_nil rfl) (by decide) rfl rfl rfl) rfl))
    denS_nil))))))))
theorem d__law_long_right {P : Program} {w : World} {K : PySem.W.Frag} {mg : Str → Option Value} {base : Heap} {R0 fI : Addr} {n : Nat} {L : Nat → FF} (M : MF P w K mg R0 fI) (O : Oks P w K mg base n L) {f : Addr} {cdv : Value} {A : Around} {outer : List Env} {s : Shared} {H : Hp} {E : XK}
    (ct : Ct (BX P w K mg base ["generator", "items", "total", "product", "item", "shown", "told", "both", "pair", "turn"] "_law_long_right" (defScope (tp 51)) f cdv A outer s H E) n) : DenS (BX P w K mg base ["generator", "items", "total", "product", "item", "shown", "told", "both", "pair", "turn"] "_law_long_right" (defScope (tp 51)) f cdv A outer s H E) (defBody (tp 51)) (b__law_long_right L) :=
    (denS_cons (denS_lock 1 (denS_setLc ct (i := 1) rfl rfl (sw_true rfl rfl rfl rfl) (own := [("pair", 8)]) (blkOk_by rfl) (denI_seq (den_fz (den_lc ct (own := [("turn", 9)]) (blkOk_by rfl) (denI_rg1 rfl M.f_range (denA_cons den_int denA_nil rfl) rfl) (by decide) (fun s H C cl fp => (denG_name (Ct.blk ct) (i := 9) rfl (by first | exact Or.inl rfl | exact Or.inr rfl) (by first | exact Or.inl rfl | exact Or.inr rfl))) (fun s H C cl fp => denTs_nil) (fun s H C cl fp => (den_call (CK.ok O.o__law_drawn_pair) (Ct.blk ct) (Nat.le_refl _) rfl (denA_cons (den_var (i := 0) rfl (by first | exact Or.inl rfl | exact Or.inr (Or.inl rfl) | exact Or.inr (Or.inr rfl)) rfl rfl) denA_nil rfl) rfl rfl rfl)) (fun _ => rfl)))) (by decide) (fun s H C cl fp => (denG_name (Ct.blk ct) (i := 8) rfl (by first | exact Or.inl rfl | exact Or.inr rfl) (by first | exact Or.inl rfl | exact Or.inr rfl))) (fun s H C cl fp => denTs_nil) (fun s H C cl fp => (den_call (CK.ok O.o__law_fraction) (Ct.blk ct) (Nat.le_refl _) rfl (denA_cons (den_ix (den_var (i := 8) rfl (by first | exact Or.inl rfl | exact Or.inr (Or.inl rfl) | exact Or.inr (Or.inr rfl)) rfl rfl) den_int (by intro _ _; rfl)) (denA_cons (den_ix (den_var (i := 8) rfl (by first | exact Or.inl rfl | exact Or.inr (Or.inl rfl) | exact Or.inr (Or.inr rfl)) rfl rfl) den_int (by intro _ _; rfl)) denA_nil rfl) rfl) rfl rfl rfl)) (fun _ => rfl)))
    (denS_cons (denS_asg (den_lit 99 (by kernel_rfl)) (denG_tup ct (denGs_cons (denG_name ct (i := 2) rfl (by first | exact Or.inl rfl | exact Or.inr rfl) (by first | exact Or.inl rfl | exact Or.inr rfl)) (denGs_cons (denG_name ct (i := 3) rfl (by first | exact Or.inl rfl | exact Or.inr rfl) (by first | exact Or.inl rfl | exact Or.inr rfl)) denGs_nil rfl) rfl) rfl rfl) rfl rfl rfl)
    (denS_cons (denS_for ct bx_po (denI_seq (den_var (i := 1) rfl (by first | exact Or.inl rfl | exact Or.inr (Or.inl rfl) | exact Or.inr (Or.inr rfl)) rfl rfl)) (denG_name ct (i := 4) rfl (by first | exact Or.inl rfl | exact Or.inr rfl) (by first | exact Or.inl rfl | exact Or.inr rfl)) (denS_cons (denS_set ct (i := 2) rfl (by first | exact Or.inl rfl | exact Or.inr rfl) (by first | exact Or.inl rfl | exact Or.inr rfl) (den_call (CK.ok O.o__law_fraction) ct (Nat.le_refl _) rfl (denA_cons (den_fz (den_bin sem_add (den_bin sem_mul (den_ix (den_var (i := 2) rfl (by first | exact Or.inl rfl | exact Or.inr (Or.inl rfl) | exact Or.inr (Or.inr rfl)) rfl rfl) den_int (by intro _ _; rfl)) (den_ix (den_var (i := 4) rfl (by first | exact Or.inl rfl | exact Or.inr (Or.inl rfl) | exact Or.inr (Or.inr rfl)) rfl rfl) den_int (by intro _ _; rfl))) (den_bin sem_mul (den_ix (den_var (i := 4) rfl (by first | exact Or.inl rfl | exact Or.inr (Or.inl rfl) | exact Or.inr (Or.inr rfl)) rfl rfl) den_int (by intro _ _; rfl)) (den_ix (den_var (i := 2) rfl (by first | exact Or.inl rfl | exact Or.inr (Or.inl rfl) | exact Or.inr (Or.inr rfl)) rfl rfl) den_int (by intro _ _; rfl))))) (denA_cons (den_bin sem_mul (den_ix (den_var (i := 2) rfl (by first | exact Or.inl rfl | exact Or.inr (Or.inl rfl) | exact Or.inr (Or.inr rfl)) rfl rfl) den_int (by intro _ _; rfl)) (den_ix (den_var (i := 4) rfl (by first | exact Or.inl rfl | exact Or.inr (Or.inl rfl) | exact Or.inr (Or.inr rfl)) rfl rfl) den_int (by intro _ _; rfl))) denA_nil rfl) rfl) rfl rfl rfl) rfl)
    (denS_cons (denS_set ct (i := 3) rfl (by first | exact Or.inl rfl | exact Or.inr rfl) (by first | exact Or.inl rfl | exact Or.inr rfl) (den_call (CK.ok O.o__law_fraction) ct (Nat.le_refl _) rfl (denA_cons (den_bin sem_mul (den_ix (den_var (i := 3) rfl (by first | exact Or.inl rfl | exact Or.inr (Or.inl rfl) | exact Or.inr (Or.inr rfl)) rfl rfl) den_int (by intro _ _; rfl)) (den_ix (den_var (i := 4) rfl (by first | exact Or.inl rfl | exact Or.inr (Or.inl rfl) | exact Or.inr (Or.inr rfl)) rfl rfl) den_int (by intro _ _; rfl))) (denA_cons (den_bin sem_mul (den_ix (den_var (i := 3) rfl (by first | exact Or.inl rfl | exact Or.inr (Or.inl rfl) | exact Or.inr (Or.inr rfl)) rfl rfl) den_int (by intro _ _; rfl)) (den_ix (den_var (i := 4) rfl (by first | exact Or.inl rfl | exact Or.inr (Or.inl rfl) | exact Or.inr (Or.inr rfl)) rfl rfl) den_int (by intro _ _; rfl))) denA_nil rfl) rfl) rfl rfl rfl) rfl)
    denS_nil)) (fun _ => rfl))
    (denS_cons (denS_par ct (i := 5) (j := 6) rfl rfl (by decide) rfl rfl (den_callB (sem_repr2 ct) rfl M.f_repr (by decide +kernel) (denA_cons (den_var (i := 1) rfl (by first | exact Or.inl rfl | exact Or.inr (Or.inl rfl) | exact Or.inr (Or.inr rfl)) rfl rfl) denA_nil rfl) (by decide) rfl rfl rfl) (den_call (CK.ok O.o_sum_of) ct (Nat.le_refl _) rfl (denA_cons (den_var (i := 1) rfl (by first | exact Or.inl rfl | exact Or.inr (Or.inl rfl) | exact Or.inr (Or.inr rfl)) rfl rfl) denA_nil rfl) rfl rfl rfl) rfl rfl rfl rfl)
    (denS_cons (denS_if (denW_t (denW_or (denT_cmp (sem_ne ct) (den_callB (sem_repr2 ct) rfl M.f_repr (by decide +kernel) (denA_cons (den_var (i := 1) rfl (by first | exact Or.inl rfl | exact Or.inr (Or.inl rfl) | exact Or.inr (Or.inr rfl)) rfl rfl) denA_nil rfl) (by decide) rfl rfl rfl) (den_var (i := 5) rfl (by first | exact Or.inl rfl | exact Or.inr (Or.inl rfl) | exact Or.inr (Or.inr rfl)) rfl rfl) rfl) (denW_or1 (denT_not (denT_val (den_call (CK.ok O.o__law_exact) ct (Nat.le_refl _) rfl (denA_cons (den_fz (den_lst (denA_cons (den_var (i := 6) rfl (by first | exact Or.inl rfl | exact Or.inr (Or.inl rfl) | exact Or.inr (Or.inr rfl)) rfl rfl) (denA_cons (den_call (CK.ok O.o_product_of) ct (Nat.le_refl _) rfl (denA_cons (den_var (i := 1) rfl (by first | exact Or.inl rfl | exact Or.inr (Or.inl rfl) | exact Or.inr (Or.inr rfl)) rfl rfl) denA_nil rfl) rfl rfl rfl) (denA_cons (den_call (CK.ok O.o_is_fraction) ct (Nat.le_refl _) rfl (denA_cons (den_var (i := 2) rfl (by first | exact Or.inl rfl | exact Or.inr (Or.inl rfl) | exact Or.inr (Or.inr rfl)) rfl rfl) denA_nil rfl) rfl rfl rfl) (denA_cons (den_call (CK.ok O.o_is_fraction) ct (Nat.le_refl _) rfl (denA_cons (den_var (i := 3) rfl (by first | exact Or.inl rfl | exact Or.inr (Or.inl rfl) | exact Or.inr (Or.inr rfl)) rfl rfl) denA_nil rfl) rfl rfl rfl) denA_nil rfl) rfl) rfl) rfl))) (denA_cons (den_fz (den_lst (denA_cons (den_var (i := 2) rfl (by first | exact Or.inl rfl | exact Or.inr (Or.inl rfl) | exact Or.inr (Or.inr rfl)) rfl rfl) (denA_cons (den_var (i := 3) rfl (by first | exact Or.inl rfl | exact Or.inr (Or.inl rfl) | exact Or.inr (Or.inr rfl)) rfl rfl) (denA_cons den_bl (denA_cons den_bl denA_nil rfl) rfl) rfl) rfl))) denA_nil rfl) rfl) rfl rfl rfl) (fun _ => rfl)))))) (denS_cons (denS_ret den_bl)
    denS_nil) denS_nil)
    (denS_cons (denS_if (denT_cmp (sem_ne ct) (den_callB (sem_repr2 ct) rfl M.f_repr (by decide +kernel) (denA_cons (den_var (i := 1) rfl (by first | exact Or.inl rfl | exact Or.inr (Or.inl rfl) | exact Or.inr (Or.inr rfl)) rfl rfl) denA_nil rfl) (by decide) rfl rfl rfl) (den_var (i := 5) rfl (by first | exact Or.inl rfl | exact Or.inr (Or.inl rfl) | exact Or.inr (Or.inr rfl)) rfl rfl) rfl) (denS_cons (denS_ret den_bl)
    denS_nil) denS_nil)
    (denS_cons (denS_set ct (i := 7) rfl (by first | exact Or.inl rfl | exact Or.inr rfl) (by first | exact Or.inl rfl | exact Or.inr rfl) (den_call (CK.ok O.o__law_fraction) ct (Nat.le_refl _) rfl (denA_cons (den_fz (den_bin sem_add (den_bin sem_mul (den_ix (den_var (i := 2) rfl (by first | exact Or.inl rfl | exact Or.inr (Or.inl rfl) | exact Or.inr (Or.inr rfl)) rfl rfl) den_int (by intro _ _; rfl)) (den_ix (den_var (i := 3) rfl (by first | exact Or.inl rfl | exact Or.inr (Or.inl rfl) | exact Or.inr (Or.inr rfl)) rfl rfl) den_int (by intro _ _; rfl))) (den_bin sem_mul (den_ix (den_var (i := 3) rfl (by first | exact Or.inl rfl | exact Or.inr (Or.inl rfl) | exact Or.inr (Or.inr rfl)) rfl rfl) den_int (by intro _ _; rfl)) (den_ix (den_var (i := 2) rfl (by first | exact Or.inl rfl | exact Or.inr (Or.inl rfl) | exact Or.inr (Or.inr rfl)) rfl rfl) den_int (by intro _ _; rfl))))) (denA_cons (den_bin sem_mul (den_ix (den_var (i := 2) rfl (by first | exact Or.inl rfl | exact Or.inr (Or.inl rfl) | exact Or.inr (Or.inr rfl)) rfl rfl) den_int (by intro _ _; rfl)) (den_ix (den_var (i := 3) rfl (by first | exact Or.inl rfl | exact Or.inr (Or.inl rfl) | exact Or.inr (Or.inr rfl)) rfl rfl) den_int (by intro _ _; rfl))) denA_nil rfl) rfl) rfl rfl rfl) rfl)
    (denS_cons (denS_ret (den_call (CK.ok O.o__law_exact) ct (Nat.le_refl _) rfl (denA_cons (den_fz (den_lst (denA_cons (den_call (CK.ok O.o_is_less) ct (Nat.le_refl _) rfl (denA_cons (den_var (i := 2) rfl (by first | exact Or.inl rfl | exact Or.inr (Or.inl rfl) | exact Or.inr (Or.inr rfl)) rfl rfl) (denA_cons (den_var (i := 3) rfl (by first | exact Or.inl rfl | exact Or.inr (Or.inl rfl) | exact Or.inr (Or.inr rfl)) rfl rfl) denA_nil rfl) rfl) rfl rfl rfl) (denA_cons (den_call (CK.ok O.o_sum_of) ct (Nat.le_refl _) rfl (denA_cons (den_fz (den_lst (denA_cons (den_var (i := 2) rfl (by first | exact Or.inl rfl | exact Or.inr (Or.inl rfl) | exact Or.inr (Or.inr rfl)) rfl rfl) (denA_cons (den_var (i := 3) rfl (by first | exact Or.inl rfl | exact Or.inr (Or.inl rfl) | exact Or.inr (Or.inr rfl)) rfl rfl) denA_nil rfl) rfl))) denA_nil rfl) rfl rfl rfl) denA_nil rfl) rfl))) (denA_cons (den_fz (den_lst (denA_cons (den_cmp sem_lt (den_bin sem_mul (den_ix (den_var (i := 2) rfl (by first | exact Or.inl rfl | exact Or.inr (Or.inl rfl) | exact Or.inr (Or.inr rfl)) rfl rfl) den_int (by intro _ _; rfl)) (den_ix (den_var (i := 3) rfl (by first | exact Or.inl rfl | exact Or.inr (Or.inl rfl) | exact Or.inr (Or.inr rfl)) rfl rfl) den_int (by intro _ _; rfl))) (den_bin sem_mul (den_ix (den_var (i := 3) rfl (by first | exact Or.inl rfl | exact Or.inr (Or.inl rfl) | exact Or.inr (Or.inr rfl)) rfl rfl) den_int (by intro _ _; rfl)) (den_ix (den_var (i := 2) rfl (by first | exact Or.inl rfl | exact Or.inr (Or.inl rfl) | exact Or.inr (Or.inr rfl)) rfl rfl) den_int (by intro _ _; rfl))) rfl) (denA_cons (den_var (i := 7) rfl (by first | exact Or.inl rfl | exact Or.inr (Or.inl rfl) | exact Or.inr (Or.inr rfl)) rfl rfl) denA_nil rfl) rfl))) denA_nil rfl) rfl) rfl rfl rfl))
    denS_nil))))))))
theorem d__law_fractions_right {P : Program} {w : World} {K : PySem.W.Frag} {mg : Str → Option Value} {base : Heap} {R0 fI : Addr} {n : Nat} {L : Nat → FF} (M : MF P w K mg R0 fI) (O : Oks P w K mg base n L) {f : Addr} {cdv : Value} {A : Around} {outer : List Env} {s : Shared} {H : Hp} {E : XK}
    (ct : Ct (BX P w K mg base ["script", "index", "generator", "turn"] "_law_fractions_right" (defScope (tp 52)) f cdv A outer s H E) n) : DenS (BX P w K mg base ["script", "index", "generator", "turn"] "_law_fractions_right" (defScope (tp 52)) f cdv A outer s H E) (defBody (tp 52)) (b__law_fractions_right L) :=
    (denS_cons (denS_for ct bx_po (denI_rg1 rfl M.f_range (denA_cons den_int denA_nil rfl) rfl) (denG_name ct (i := 1) rfl (by first | exact Or.inl rfl | exact Or.inr rfl) (by first | exact Or.inl rfl | exact Or.inr rfl)) (denS_cons (denS_setBox ct (i := 2) rfl (by first | exact Or.inl rfl | exact Or.inr rfl) (by first | exact Or.inl rfl | exact Or.inr rfl) (den_call (CK.ok O.o__law_generator) ct (Nat.le_refl _) rfl (denA_cons (den_var (i := 0) rfl (by first | exact Or.inl rfl | exact Or.inr (Or.inl rfl) | exact Or.inr (Or.inr rfl)) rfl rfl) (denA_cons (den_var (i := 1) rfl (by first | exact Or.inl rfl | exact Or.inr (Or.inl rfl) | exact Or.inr (Or.inr rfl)) rfl rfl) denA_nil rfl) rfl) rfl rfl rfl) rfl)
    (denS_cons (denS_for ct bx_po (denI_rg1 rfl M.f_range (denA_cons den_int denA_nil rfl) rfl) (denG_name ct (i := 3) rfl (by first | exact Or.inl rfl | exact Or.inr rfl) (by first | exact Or.inl rfl | exact Or.inr rfl)) (denS_cons (denS_if (denW_t (denW_or (denT_not (denT_val (den_call (CK.ok O.o__law_made_right) ct (Nat.le_refl _) rfl (denA_cons (den_var (i := 2) rfl (by first | exact Or.inl rfl | exact Or.inr (Or.inl rfl) | exact Or.inr (Or.inr rfl)) rfl rfl) denA_nil rfl) rfl rfl rfl) (fun _ => rfl))) (denW_or1 (denT_not (denT_val (den_call (CK.ok O.o__law_sums_right) ct (Nat.le_refl _) rfl (denA_cons (den_var (i := 2) rfl (by first | exact Or.inl rfl | exact Or.inr (Or.inl rfl) | exact Or.inr (Or.inr rfl)) rfl rfl) denA_nil rfl) rfl rfl rfl) (fun _ => rfl)))))) (denS_cons (denS_ret den_bl)
    denS_nil) denS_nil)
    denS_nil) (fun _ => rfl))
    (denS_cons (denS_if (denT_not (denT_val (den_call (CK.ok O.o__law_long_right) ct (Nat.le_refl _) rfl (denA_cons (den_var (i := 2) rfl (by first | exact Or.inl rfl | exact Or.inr (Or.inl rfl) | exact Or.inr (Or.inr rfl)) rfl rfl) denA_nil rfl) rfl rfl rfl) (fun _ => rfl))) (denS_cons (denS_ret den_bl)
    denS_nil) denS_nil)
    denS_nil))) (fun _ => rfl))
    (denS_cons (denS_ret den_bl)
    denS_nil))
theorem d__law_call {P : Program} {w : World} {K : PySem.W.Frag} {mg : Str → Option Value} {base : Heap} {R0 fI : Addr} {n : Nat} {L : Nat → FF} (M : MF P w K mg R0 fI) (O : Oks P w K mg base n L) {f : Addr} {cdv : Value} {A : Around} {outer : List Env} {s : Shared} {H : Hp} {E : XK}
    (ct : Ct (BX P w K mg base ["door", "other", "goods"] "_law_call" (defScope (tp 53)) f cdv A outer s H E) n) : DenS (BX P w K mg base ["door", "other", "goods"] "_law_call" (defScope (tp 53)) f cdv A outer s H E) (defBody (tp 53)) (b__law_call L) :=
    (denS_cons (denS_if (denT_cmp (sem_eq ct) (den_var (i := 0) rfl (by first | exact Or.inl rfl | exact Or.inr (Or.inl rfl) | exact Or.inr (Or.inr rfl)) rfl rfl) den_int rfl) (denS_cons (denS_ret (den_call (CK.ok O.o_fraction_of) ct (Nat.le_refl _) rfl (denA_cons (den_var (i := 1) rfl (by first | exact Or.inl rfl | exact Or.inr (Or.inl rfl) | exact Or.inr (Or.inr rfl)) rfl rfl) (denA_cons den_int denA_nil rfl) rfl) rfl rfl rfl))
    denS_nil) denS_nil)
    (denS_cons (denS_if (denT_cmp (sem_eq ct) (den_var (i := 0) rfl (by first | exact Or.inl rfl | exact Or.inr (Or.inl rfl) | exact Or.inr (Or.inr rfl)) rfl rfl) den_int rfl) (denS_cons (denS_ret (den_call (CK.ok O.o_fraction_of) ct (Nat.le_refl _) rfl (denA_cons den_int (denA_cons (den_var (i := 1) rfl (by first | exact Or.inl rfl | exact Or.inr (Or.inl rfl) | exact Or.inr (Or.inr rfl)) rfl rfl) denA_nil rfl) rfl) rfl rfl rfl))
    denS_nil) denS_nil)
    (denS_cons (denS_if (denT_cmp (sem_eq ct) (den_var (i := 0) rfl (by first | exact Or.inl rfl | exact Or.inr (Or.inl rfl) | exact Or.inr (Or.inr rfl)) rfl rfl) den_int rfl) (denS_cons (denS_ret (den_call (CK.ok O.o_sum_of) ct (Nat.le_refl _) rfl (denA_cons (den_var (i := 1) rfl (by first | exact Or.inl rfl | exact Or.inr (Or.inl rfl) | exact Or.inr (Or.inr rfl)) rfl rfl) denA_nil rfl) rfl rfl rfl))
    denS_nil) denS_nil)
    (denS_cons (denS_if (denT_cmp (sem_eq ct) (den_var (i := 0) rfl (by first | exact Or.inl rfl | exact Or.inr (Or.inl rfl) | exact Or.inr (Or.inr rfl)) rfl rfl) den_int rfl) (denS_cons (denS_ret (den_call (CK.ok O.o_sum_of) ct (Nat.le_refl _) rfl (denA_cons (den_fz (den_lst (denA_cons (den_lit 99 (by kernel_rfl)) (denA_cons (den_var (i := 1) rfl (by first | exact Or.inl rfl | exact Or.inr (Or.inl rfl) | exact Or.inr (Or.inr rfl)) rfl rfl) (denA_cons den_non denA_nil rfl) rfl) rfl))) denA_nil rfl) rfl rfl rfl))
    denS_nil) denS_nil)
    (denS_cons (denS_if (denT_cmp (sem_eq ct) (den_var (i := 0) rfl (by first | exact Or.inl rfl | exact Or.inr (Or.inl rfl) | exact Or.inr (Or.inr rfl)) rfl rfl) den_int rfl) (denS_cons (denS_ret (den_call (CK.ok O.o_product_of) ct (Nat.le_refl _) rfl (denA_cons (den_var (i := 1) rfl (by first | exact Or.inl rfl | exact Or.inr (Or.inl rfl) | exact Or.inr (Or.inr rfl)) rfl rfl) denA_nil rfl) rfl rfl rfl))
    denS_nil) denS_nil)
    (denS_cons (denS_if (denT_cmp (sem_eq ct) (den_var (i := 0) rfl (by first | exact Or.inl rfl | exact Or.inr (Or.inl rfl) | exact Or.inr (Or.inr rfl)) rfl rfl) den_int rfl) (denS_cons (denS_ret (den_call (CK.ok O.o_product_of) ct (Nat.le_refl _) rfl (denA_cons (den_fz (den_lst (denA_cons (den_lit 99 (by kernel_rfl)) (denA_cons (den_lit 99 (by kernel_rfl)) (denA_cons (den_var (i := 1) rfl (by first | exact Or.inl rfl | exact Or.inr (Or.inl rfl) | exact Or.inr (Or.inr rfl)) rfl rfl) (denA_cons (den_lit 99 (by kernel_rfl)) denA_nil rfl) rfl) rfl) rfl))) denA_nil rfl) rfl rfl rfl))
    denS_nil) denS_nil)
    (denS_cons (denS_if (denT_cmp (sem_eq ct) (den_var (i := 0) rfl (by first | exact Or.inl rfl | exact Or.inr (Or.inl rfl) | exact Or.inr (Or.inr rfl)) rfl rfl) den_int rfl) (denS_cons (denS_ret (den_call (CK.ok O.o_is_less) ct (Nat.le_refl _) rfl (denA_cons (den_var (i := 1) rfl (by first | exact Or.inl rfl | exact Or.inr (Or.inl rfl) | exact Or.inr (Or.inr rfl)) rfl rfl) (denA_cons den_non denA_nil rfl) rfl) rfl rfl rfl))
    denS_nil) denS_nil)
    (denS_cons (denS_if (denT_cmp (sem_eq ct) (den_var (i := 0) rfl (by first | exact Or.inl rfl | exact Or.inr (Or.inl rfl) | exact Or.inr (Or.inr rfl)) rfl rfl) den_int rfl) (denS_cons (denS_ret (den_call (CK.ok O.o_is_less) ct (Nat.le_refl _) rfl (denA_cons (den_lit 99 (by kernel_rfl)) (denA_cons (den_var (i := 1) rfl (by first | exact Or.inl rfl | exact Or.inr (Or.inl rfl) | exact Or.inr (Or.inr rfl)) rfl rfl) denA_nil rfl) rfl) rfl rfl rfl))
    denS_nil) denS_nil)
    (denS_cons (denS_if (denT_cmp (sem_eq ct) (den_var (i := 0) rfl (by first | exact Or.inl rfl | exact Or.inr (Or.inl rfl) | exact Or.inr (Or.inr rfl)) rfl rfl) den_int rfl) (denS_cons (denS_ret (den_call (CK.ok O.o_fraction_of) ct (Nat.le_refl _) rfl (denA_cons den_int (denA_cons (den_var (i := 1) rfl (by first | exact Or.inl rfl | exact Or.inr (Or.inl rfl) | exact Or.inr (Or.inr rfl)) rfl rfl) denA_nil rfl) rfl) rfl rfl rfl))
    denS_nil) denS_nil)
    (denS_cons (denS_set ct (i := 2) rfl (by first | exact Or.inl rfl | exact Or.inr rfl) (by first | exact Or.inl rfl | exact Or.inr rfl) (den_fz (den_bin sem_add (den_bin sem_add (den_rep (den_lit 99 (by kernel_rfl)) (den_ix (den_var (i := 1) rfl (by first | exact Or.inl rfl | exact Or.inr (Or.inl rfl) | exact Or.inr (Or.inr rfl)) rfl rfl) den_int (by intro _ _; rfl))) (den_lst (denA_cons (den_ix (den_var (i := 1) rfl (by first | exact Or.inl rfl | exact Or.inr (Or.inl rfl) | exact Or.inr (Or.inr rfl)) rfl rfl) den_int (by intro _ _; rfl)) denA_nil rfl))) (den_rep (den_lit 99 (by kernel_rfl)) (den_bin sem_sub den_int (den_ix (den_var (i := 1) rfl (by first | exact Or.inl rfl | exact Or.inr (Or.inl rfl) | exact Or.inr (Or.inr rfl)) rfl rfl) den_int (by intro _ _; rfl)))))) rfl)
    (denS_cons (denS_ret (den_if (denT_cmp (sem_eq ct) (den_var (i := 0) rfl (by first | exact Or.inl rfl | exact Or.inr (Or.inl rfl) | exact Or.inr (Or.inr rfl)) rfl rfl) den_int rfl) (den_call (CK.ok O.o_sum_of) ct (Nat.le_refl _) rfl (denA_cons (den_var (i := 2) rfl (by first | exact Or.inl rfl | exact Or.inr (Or.inl rfl) | exact Or.inr (Or.inr rfl)) rfl rfl) denA_nil rfl) rfl rfl rfl) (den_call (CK.ok O.o_product_of) ct (Nat.le_refl _) rfl (denA_cons (den_var (i := 2) rfl (by first | exact Or.inl rfl | exact Or.inr (Or.inl rfl) | exact Or.inr (Or.inr rfl)) rfl rfl) denA_nil rfl) rfl rfl rfl)))
    denS_nil)))))))))))
theorem d__law_right_call {P : Program} {w : World} {K : PySem.W.Frag} {mg : Str → Option Value} {base : Heap} {R0 fI : Addr} {n : Nat} {L : Nat → FF} (M : MF P w K mg R0 fI) (O : Oks P w K mg base n L) {f : Addr} {cdv : Value} {A : Around} {outer : List Env} {s : Shared} {H : Hp} {E : XK}
    (ct : Ct (BX P w K mg base ["door", "other"] "_law_right_call" (defScope (tp 54)) f cdv A outer s H E) n) : DenS (BX P w K mg base ["door", "other"] "_law_right_call" (defScope (tp 54)) f cdv A outer s H E) (defBody (tp 54)) (b__law_right_call L) :=
    (denS_cons (denS_if (denT_cmp (sem_eq ct) (den_var (i := 0) rfl (by first | exact Or.inl rfl | exact Or.inr (Or.inl rfl) | exact Or.inr (Or.inr rfl)) rfl rfl) den_int rfl) (denS_cons (denS_ret (den_call (CK.ok O.o_fraction_of) ct (Nat.le_refl _) rfl (denA_cons (den_var (i := 1) rfl (by first | exact Or.inl rfl | exact Or.inr (Or.inl rfl) | exact Or.inr (Or.inr rfl)) rfl rfl) (denA_cons den_int denA_nil rfl) rfl) rfl rfl rfl))
    denS_nil) denS_nil)
    (denS_cons (denS_ret (den_if (denT_cmp (sem_eq ct) (den_var (i := 0) rfl (by first | exact Or.inl rfl | exact Or.inr (Or.inl rfl) | exact Or.inr (Or.inr rfl)) rfl rfl) den_int rfl) (den_call (CK.ok O.o_is_less) ct (Nat.le_refl _) rfl (denA_cons (den_var (i := 1) rfl (by first | exact Or.inl rfl | exact Or.inr (Or.inl rfl) | exact Or.inr (Or.inr rfl)) rfl rfl) (denA_cons (den_lit 99 (by kernel_rfl)) denA_nil rfl) rfl) rfl rfl rfl) (den_call (CK.ok O.o__law_call) ct (Nat.le_refl _) rfl (denA_cons (den_var (i := 0) rfl (by first | exact Or.inl rfl | exact Or.inr (Or.inl rfl) | exact Or.inr (Or.inr rfl)) rfl rfl) (denA_cons (den_var (i := 1) rfl (by first | exact Or.inl rfl | exact Or.inr (Or.inl rfl) | exact Or.inr (Or.inr rfl)) rfl rfl) denA_nil rfl) rfl) rfl rfl rfl)))
    denS_nil))
theorem d__law_caught {P : Program} {w : World} {K : PySem.W.Frag} {mg : Str → Option Value} {base : Heap} {R0 fI : Addr} {n : Nat} {L : Nat → FF} (M : MF P w K mg R0 fI) (O : Oks P w K mg base n L) {f : Addr} {cdv : Value} {A : Around} {outer : List Env} {s : Shared} {H : Hp} {E : XK}
    (ct : Ct (BX P w K mg base ["door", "other", "found", "way", "caught", "error", "kinds"] "_law_caught" (defScope (tp 55)) f cdv A outer s H E) n) : DenS (BX P w K mg base ["door", "other", "found", "way", "caught", "error", "kinds"] "_law_caught" (defScope (tp 55)) f cdv A outer s H E) (defBody (tp 55)) (b__law_caught L) :=
    (denS_cons (denS_set ct (i := 2) rfl (by first | exact Or.inl rfl | exact Or.inr rfl) (by first | exact Or.inl rfl | exact Or.inr rfl) (den_lit 99 (by kernel_rfl)) rfl)
    (denS_cons (denS_for ct bx_po (denI_seq (den_fz (den_lit 99 (by kernel_rfl)))) (denG_name ct (i := 3) rfl (by first | exact Or.inl rfl | exact Or.inr rfl) (by first | exact Or.inl rfl | exact Or.inr rfl)) (denS_cons (denS_set ct (i := 4) rfl (by first | exact Or.inl rfl | exact Or.inr rfl) (by first | exact Or.inl rfl | exact Or.inr rfl) den_non rfl)
    (denS_cons (denS_keep ct rfl rfl rfl (i := 5) (j := 4) rfl rfl (by decide) rfl rfl rfl M.g_ReasonError rfl (fun c h => ErrsOk.at M.errs h) rfl rfl rfl (fun pn xe po => (denS_cons (denS_if (denT_cmp (sem_eq (Ct.tr ct)) (den_var (i := 3) rfl (by first | exact Or.inl rfl | exact Or.inr (Or.inl rfl) | exact Or.inr (Or.inr rfl)) rfl rfl) den_int rfl) (denS_cons (denS_expr (den_call (CK.ok O.o__law_call) (Ct.tr ct) (Nat.le_refl _) rfl (denA_cons (den_var (i := 0) rfl (by first | exact Or.inl rfl | exact Or.inr (Or.inl rfl) | exact Or.inr (Or.inr rfl)) rfl rfl) (denA_cons (den_var (i := 1) rfl (by first | exact Or.inl rfl | exact Or.inr (Or.inl rfl) | exact Or.inr (Or.inr rfl)) rfl rfl) denA_nil rfl) rfl) rfl rfl rfl) rfl)
    denS_nil) (denS_cons (denS_expr (den_call (CK.ok O.o__law_right_call) (Ct.tr ct) (Nat.le_refl _) rfl (denA_cons (den_var (i := 0) rfl (by first | exact Or.inl rfl | exact Or.inr (Or.inl rfl) | exact Or.inr (Or.inr rfl)) rfl rfl) (denA_cons (den_var (i := 1) rfl (by first | exact Or.inl rfl | exact Or.inr (Or.inl rfl) | exact Or.inr (Or.inr rfl)) rfl rfl) denA_nil rfl) rfl) rfl rfl rfl) rfl)
    denS_nil))
    denS_nil)))
    (denS_cons (denS_set ct (i := 6) rfl (by first | exact Or.inl rfl | exact Or.inr rfl) (by first | exact Or.inl rfl | exact Or.inr rfl) (den_fz (den_lst (denA_cons (den_isiG (den_var (i := 4) rfl (by first | exact Or.inl rfl | exact Or.inr (Or.inl rfl) | exact Or.inr (Or.inr rfl)) rfl rfl) rfl M.f_isinstance rfl rfl M.isi_InvalidNumber rfl rfl rfl) (denA_cons (den_isiG (den_var (i := 4) rfl (by first | exact Or.inl rfl | exact Or.inr (Or.inl rfl) | exact Or.inr (Or.inr rfl)) rfl rfl) rfl M.f_isinstance rfl rfl M.isi_InvalidList rfl rfl rfl) (denA_cons (den_isiG (den_var (i := 4) rfl (by first | exact Or.inl rfl | exact Or.inr (Or.inl rfl) | exact Or.inr (Or.inr rfl)) rfl rfl) rfl M.f_isinstance rfl rfl M.isi_InvalidFraction rfl rfl rfl) denA_nil rfl) rfl) rfl))) rfl)
    (denS_cons (denS_append (i := 2) rfl (by first | exact Or.inl rfl | exact Or.inr (Or.inl rfl) | exact Or.inr (Or.inr rfl)) rfl rfl (denA_cons (den_fz (den_lst (denA_cons (den_var (i := 6) rfl (by first | exact Or.inl rfl | exact Or.inr (Or.inl rfl) | exact Or.inr (Or.inr rfl)) rfl rfl) (denA_cons (den_if (denT_isN (den_var (i := 4) rfl (by first | exact Or.inl rfl | exact Or.inr (Or.inl rfl) | exact Or.inr (Or.inr rfl)) rfl rfl)) den_non (den_callB (sem_repr2 ct) rfl M.f_repr (by decide +kernel) (denA_cons (den_errVal (den_var (i := 4) rfl (by first | exact Or.inl rfl | exact Or.inr (Or.inl rfl) | exact Or.inr (Or.inr rfl)) rfl rfl) (fun c h => ErrsOk.at M.errs h) rfl) denA_nil rfl) (by decide) rfl rfl rfl)) denA_nil rfl) rfl))) denA_nil rfl) rfl rfl rfl rfl rfl rfl)
    denS_nil)))) (fun _ => rfl))
    (denS_cons (denS_ret (den_if (denT_cmp (sem_eq ct) (den_ix (den_var (i := 2) rfl (by first | exact Or.inl rfl | exact Or.inr (Or.inl rfl) | exact Or.inr (Or.inr rfl)) rfl rfl) den_int (by intro _ _; rfl)) (den_ix (den_var (i := 2) rfl (by first | exact Or.inl rfl | exact Or.inr (Or.inl rfl) | exact Or.inr (Or.inr rfl)) rfl rfl) den_int (by intro _ _; rfl)) rfl) (den_ix (den_var (i := 2) rfl (by first | exact Or.inl rfl | exact Or.inr (Or.inl rfl) | exact Or.inr (Or.inr rfl)) rfl rfl) den_int (by intro _ _; rfl)) (den_var (i := 2) rfl (by first | exact Or.inl rfl | exact Or.inr (Or.inl rfl) | exact Or.inr (Or.inr rfl)) rfl rfl)))
    denS_nil)))
theorem d__law_alone {P : Program} {w : World} {K : PySem.W.Frag} {mg : Str → Option Value} {base : Heap} {R0 fI : Addr} {n : Nat} {L : Nat → FF} (M : MF P w K mg R0 fI) (O : Oks P w K mg base n L) {f : Addr} {cdv : Value} {A : Around} {outer : List Env} {s : Shared} {H : Hp} {E : XK}
    (ct : Ct (BX P w K mg base ["call", "odd", "caught", "error"] "_law_alone" (defScope (tp 56)) f cdv A outer s H E) n) : DenS (BX P w K mg base ["call", "odd", "caught", "error"] "_law_alone" (defScope (tp 56)) f cdv A outer s H E) (defBody (tp 56)) (b__law_alone L) :=
    (denS_cons (denS_set ct (i := 2) rfl (by first | exact Or.inl rfl | exact Or.inr rfl) (by first | exact Or.inl rfl | exact Or.inr rfl) den_non rfl)
    (denS_cons (denS_keep ct rfl rfl rfl (i := 3) (j := 2) rfl rfl (by decide) rfl rfl rfl M.g_ReasonError rfl (fun c h => ErrsOk.at M.errs h) rfl rfl rfl (fun pn xe po => (denS_cons (denS_expr (den_callL (i := 0) (fs := fs__law_alone L) rfl (by first | exact Or.inl rfl | exact Or.inr (Or.inl rfl) | exact Or.inr (Or.inr rfl)) (fs__law_alone_ok O) (Ct.tr ct) (Nat.le_refl _) (denA_cons (den_fz (den_lst (denA_cons (den_var (i := 1) rfl (by first | exact Or.inl rfl | exact Or.inr (Or.inl rfl) | exact Or.inr (Or.inr rfl)) rfl rfl) denA_nil rfl))) denA_nil rfl) rfl rfl rfl rfl) rfl)
    denS_nil)))
    (denS_cons (denS_ret (den_and (den_isiG (den_var (i := 2) rfl (by first | exact Or.inl rfl | exact Or.inr (Or.inl rfl) | exact Or.inr (Or.inr rfl)) rfl rfl) rfl M.f_isinstance rfl rfl M.isi_InvalidFraction rfl rfl rfl) (den_one (den_cmp (sem_eq ct) (den_errVal (den_var (i := 2) rfl (by first | exact Or.inl rfl | exact Or.inr (Or.inl rfl) | exact Or.inr (Or.inr rfl)) rfl rfl) (fun c h => ErrsOk.at M.errs h) rfl) (den_var (i := 1) rfl (by first | exact Or.inl rfl | exact Or.inr (Or.inl rfl) | exact Or.inr (Or.inr rfl)) rfl rfl) rfl))))
    denS_nil)))
theorem d__law_refusals_right {P : Program} {w : World} {K : PySem.W.Frag} {mg : Str → Option Value} {base : Heap} {R0 fI : Addr} {n : Nat} {L : Nat → FF} (M : MF P w K mg R0 fI) (O : Oks P w K mg base n L) {f : Addr} {cdv : Value} {A : Around} {outer : List Env} {s : Shared} {H : Hp} {E : XK}
    (ct : Ct (BX P w K mg base ["script", "index", "generator", "number", "strange", "door", "kind", "odd", "call", "good", "at"] "_law_refusals_right" (defScope (tp 57)) f cdv A outer s H E) n) : DenS (BX P w K mg base ["script", "index", "generator", "number", "strange", "door", "kind", "odd", "call", "good", "at"] "_law_refusals_right" (defScope (tp 57)) f cdv A outer s H E) (defBody (tp 57)) (b__law_refusals_right L) :=
    (denS_cons (denS_for ct bx_po (denI_rg1 rfl M.f_range (denA_cons den_int denA_nil rfl) rfl) (denG_name ct (i := 1) rfl (by first | exact Or.inl rfl | exact Or.inr rfl) (by first | exact Or.inl rfl | exact Or.inr rfl)) (denS_cons (denS_setBox ct (i := 2) rfl (by first | exact Or.inl rfl | exact Or.inr rfl) (by first | exact Or.inl rfl | exact Or.inr rfl) (den_call (CK.ok O.o__law_generator) ct (Nat.le_refl _) rfl (denA_cons (den_var (i := 0) rfl (by first | exact Or.inl rfl | exact Or.inr (Or.inl rfl) | exact Or.inr (Or.inr rfl)) rfl rfl) (denA_cons (den_var (i := 1) rfl (by first | exact Or.inl rfl | exact Or.inr (Or.inl rfl) | exact Or.inr (Or.inr rfl)) rfl rfl) denA_nil rfl) rfl) rfl rfl rfl) rfl)
    (denS_cons (denS_set ct (i := 3) rfl (by first | exact Or.inl rfl | exact Or.inr rfl) (by first | exact Or.inl rfl | exact Or.inr rfl) (den_fz (den_bin sem_add den_int (den_call (CK.ok O.o__law_random) ct (Nat.le_refl _) rfl (denA_cons (den_var (i := 2) rfl (by first | exact Or.inl rfl | exact Or.inr (Or.inl rfl) | exact Or.inr (Or.inr rfl)) rfl rfl) (denA_cons (den_bin sem_pow den_int den_int) denA_nil rfl) rfl) rfl rfl rfl))) rfl)
    (denS_cons (denS_set ct (i := 4) rfl (by first | exact Or.inl rfl | exact Or.inr rfl) (by first | exact Or.inl rfl | exact Or.inr rfl) (den_fz (den_lst (denA_cons den_non (denA_cons den_bl (denA_cons den_bl (denA_cons den_str (denA_cons den_str (denA_cons (den_fz den_dnew) (denA_cons (den_lit 99 (by kernel_rfl)) (denA_cons (den_lit 99 (by kernel_rfl)) (denA_cons (den_fz (den_lit 99 (by kernel_rfl))) (denA_cons (den_lit 99 (by kernel_rfl)) (denA_cons (den_lit 99 (by kernel_rfl)) (denA_cons (den_lit 99 (by kernel_rfl)) (denA_cons (den_tup (denA_cons den_int (denA_cons (den_bin sem_sub den_int den_int) denA_nil rfl) rfl)) (denA_cons (den_lit 99 (by kernel_rfl)) (denA_cons (den_lit 99 (by kernel_rfl)) (denA_cons (den_lit 99 (by kernel_rfl)) (denA_cons (den_tup (denA_cons (den_var (i := 3) rfl (by first | exact Or.inl rfl | exact Or.inr (Or.inl rfl) | exact Or.inr (Or.inr rfl)) rfl rfl) (denA_cons (den_var (i := 3) rfl (by first | exact Or.inl rfl | exact Or.inr (Or.inl rfl) | exact Or.inr (Or.inr rfl)) rfl rfl) denA_nil rfl) rfl)) (denA_cons (den_tup (denA_cons (den_bin sem_mul (den_var (i := 3) rfl (by first | exact Or.inl rfl | exact Or.inr (Or.inl rfl) | exact Or.inr (Or.inr rfl)) rfl rfl) den_int) (denA_cons den_int denA_nil rfl) rfl)) denA_nil rfl) rfl) rfl) rfl) rfl) rfl) rfl) rfl) rfl) rfl) rfl) rfl) rfl) rfl) rfl) rfl) rfl) rfl))) rfl)
    (denS_cons (denS_lock 4 (denS_setLc ct (i := 4) rfl rfl (sw_true rfl rfl rfl rfl) (own := [("odd", 7)]) (blkOk_by rfl) (denI_seq (den_var (i := 4) rfl (by first | exact Or.inl rfl | exact Or.inr (Or.inl rfl) | exact Or.inr (Or.inr rfl)) rfl rfl)) (by decide) (fun s H C cl fp => (denG_name (Ct.blk ct) (i := 7) rfl (by first | exact Or.inl rfl | exact Or.inr rfl) (by first | exact Or.inl rfl | exact Or.inr rfl))) (fun s H C cl fp => (denTs_one (denT_cmp (sem_ne (Ct.blk ct)) (den_callB (sem_repr2 (Ct.blk ct)) rfl M.f_repr (by decide +kernel) (denA_cons (den_var (i := 7) rfl (by first | exact Or.inl rfl | exact Or.inr (Or.inl rfl) | exact Or.inr (Or.inr rfl)) rfl rfl) denA_nil rfl) (by decide) rfl rfl rfl) den_str rfl))) (fun s H C cl fp => (den_var (i := 7) rfl (by first | exact Or.inl rfl | exact Or.inr (Or.inl rfl) | exact Or.inr (Or.inr rfl)) rfl rfl)) (fun _ => rfl)))
    (denS_cons (denS_for ct bx_po (denI_enum rfl M.f_enumerate (denA_cons (den_fz (den_lit 99 (by kernel_rfl))) denA_nil rfl) rfl) (denG_tup ct (denGs_cons (denG_name ct (i := 5) rfl (by first | exact Or.inl rfl | exact Or.inr rfl) (by first | exact Or.inl rfl | exact Or.inr rfl)) (denGs_cons (denG_name ct (i := 6) rfl (by first | exact Or.inl rfl | exact Or.inr rfl) (by first | exact Or.inl rfl | exact Or.inr rfl)) denGs_nil rfl) rfl) rfl rfl) (denS_cons (denS_for ct bx_po (denI_seq (den_fz (den_bin sem_add (den_bin sem_add (den_var (i := 4) rfl (by first | exact Or.inl rfl | exact Or.inr (Or.inl rfl) | exact Or.inr (Or.inr rfl)) rfl rfl) (den_if (denT_cmp (sem_eq ct) (den_var (i := 5) rfl (by first | exact Or.inl rfl | exact Or.inr (Or.inl rfl) | exact Or.inr (Or.inr rfl)) rfl rfl) den_int rfl) (den_lit 99 (by kernel_rfl)) (den_lit 99 (by kernel_rfl)))) (den_if (denT_cmp sem_gt (den_var (i := 6) rfl (by first | exact Or.inl rfl | exact Or.inr (Or.inl rfl) | exact Or.inr (Or.inr rfl)) rfl rfl) den_int rfl) (den_lst (denA_cons (den_var (i := 3) rfl (by first | exact Or.inl rfl | exact Or.inr (Or.inl rfl) | exact Or.inr (Or.inr rfl)) rfl rfl) (denA_cons (den_bin sem_sub den_int (den_var (i := 3) rfl (by first | exact Or.inl rfl | exact Or.inr (Or.inl rfl) | exact Or.inr (Or.inr rfl)) rfl rfl)) (denA_cons den_int denA_nil rfl) rfl) rfl)) (den_lit 99 (by kernel_rfl)))))) (denG_name ct (i := 7) rfl (by first | exact Or.inl rfl | exact Or.inr rfl) (by first | exact Or.inl rfl | exact Or.inr rfl)) (denS_cons (denS_if (denW_t (denW_or (denT_cmp (sem_ne ct) (den_var (i := 6) rfl (by first | exact Or.inl rfl | exact Or.inr (Or.inl rfl) | exact Or.inr (Or.inr rfl)) rfl rfl) den_int rfl) (denW_or1 (denT_not (denT_val (den_isi (t := .list) (den_var (i := 7) rfl (by first | exact Or.inl rfl | exact Or.inr (Or.inl rfl) | exact Or.inr (Or.inr rfl)) rfl rfl) rfl M.f_isinstance rfl M.f_list (by decide +kernel) (by decide) rfl rfl rfl rfl) (fun _ => rfl)))))) (denS_cons (denS_if (denT_cmp (sem_ne ct) (den_call (CK.ok O.o__law_caught) ct (Nat.le_refl _) rfl (denA_cons (den_var (i := 5) rfl (by first | exact Or.inl rfl | exact Or.inr (Or.inl rfl) | exact Or.inr (Or.inr rfl)) rfl rfl) (denA_cons (den_var (i := 7) rfl (by first | exact Or.inl rfl | exact Or.inr (Or.inl rfl) | exact Or.inr (Or.inr rfl)) rfl rfl) denA_nil rfl) rfl) rfl rfl rfl) (den_lst (denA_cons (den_fz (den_lc ct (own := [("at", 10)]) (blkOk_by rfl) (denI_rg1 rfl M.f_range (denA_cons den_int denA_nil rfl) rfl) (by decide) (fun s H C cl fp => (denG_name (Ct.blk ct) (i := 10) rfl (by first | exact Or.inl rfl | exact Or.inr rfl) (by first | exact Or.inl rfl | exact Or.inr rfl))) (fun s H C cl fp => denTs_nil) (fun s H C cl fp => (den_cmp (sem_eq (Ct.blk ct)) (den_var (i := 10) rfl (by first | exact Or.inl rfl | exact Or.inr (Or.inl rfl) | exact Or.inr (Or.inr rfl)) rfl rfl) (den_var (i := 6) rfl (by first | exact Or.inl rfl | exact Or.inr (Or.inl rfl) | exact Or.inr (Or.inr rfl)) rfl rfl) rfl)) (fun _ => rfl))) (denA_cons (den_callB (sem_repr2 ct) rfl M.f_repr (by decide +kernel) (denA_cons (den_var (i := 7) rfl (by first | exact Or.inl rfl | exact Or.inr (Or.inl rfl) | exact Or.inr (Or.inr rfl)) rfl rfl) denA_nil rfl) (by decide) rfl rfl rfl) denA_nil rfl) rfl)) rfl) (denS_cons (denS_ret den_bl)
    denS_nil) denS_nil)
    denS_nil) denS_nil)
    denS_nil) (fun _ => rfl))
    denS_nil) (fun _ => rfl))
    (denS_cons (denS_for ct bx_po (denI_seq (den_fz (den_lit 99 (by kernel_rfl)))) (denG_name ct (i := 7) rfl (by first | exact Or.inl rfl | exact Or.inr rfl) (by first | exact Or.inl rfl | exact Or.inr rfl)) (denS_cons (denS_if (denT_cmp (sem_ne ct) (den_call (CK.ok O.o__law_caught) ct (Nat.le_refl _) rfl (denA_cons den_int (denA_cons (den_var (i := 7) rfl (by first | exact Or.inl rfl | exact Or.inr (Or.inl rfl) | exact Or.inr (Or.inr rfl)) rfl rfl) denA_nil rfl) rfl) rfl rfl rfl) (den_lst (denA_cons (den_fz (den_lit 99 (by kernel_rfl))) (denA_cons (den_callB (sem_repr2 ct) rfl M.f_repr (by decide +kernel) (denA_cons (den_var (i := 7) rfl (by first | exact Or.inl rfl | exact Or.inr (Or.inl rfl) | exact Or.inr (Or.inr rfl)) rfl rfl) denA_nil rfl) (by decide) rfl rfl rfl) denA_nil rfl) rfl)) rfl) (denS_cons (denS_ret den_bl)
    denS_nil) denS_nil)
    denS_nil) (fun _ => rfl))
    (denS_cons (denS_for ct bx_po (denI_seq (den_fz (den_bin sem_add (den_var (i := 4) rfl (by first | exact Or.inl rfl | exact Or.inr (Or.inl rfl) | exact Or.inr (Or.inr rfl)) rfl rfl) (den_lst (denA_cons (den_var (i := 3) rfl (by first | exact Or.inl rfl | exact Or.inr (Or.inl rfl) | exact Or.inr (Or.inr rfl)) rfl rfl) denA_nil rfl))))) (denG_name ct (i := 7) rfl (by first | exact Or.inl rfl | exact Or.inr rfl) (by first | exact Or.inl rfl | exact Or.inr rfl)) (denS_cons (denS_for ct bx_po (denI_seq (den_fz (den_lit 99 (by kernel_rfl)))) (denG_name ct (i := 5) rfl (by first | exact Or.inl rfl | exact Or.inr rfl) (by first | exact Or.inl rfl | exact Or.inr rfl)) (denS_cons (denS_if (denT_cmp (sem_ne ct) (den_call (CK.ok O.o__law_caught) ct (Nat.le_refl _) rfl (denA_cons (den_var (i := 5) rfl (by first | exact Or.inl rfl | exact Or.inr (Or.inl rfl) | exact Or.inr (Or.inr rfl)) rfl rfl) (denA_cons (den_tup (denA_cons (den_var (i := 7) rfl (by first | exact Or.inl rfl | exact Or.inr (Or.inl rfl) | exact Or.inr (Or.inr rfl)) rfl rfl) (denA_cons (den_call (CK.ok O.o__law_pick) ct (Nat.le_refl _) rfl (denA_cons (den_var (i := 2) rfl (by first | exact Or.inl rfl | exact Or.inr (Or.inl rfl) | exact Or.inr (Or.inr rfl)) rfl rfl) (denA_cons (den_fz (den_lst (denA_cons den_int (denA_cons den_int (denA_cons (den_call (CK.ok O.o__law_random) ct (Nat.le_refl _) rfl (denA_cons (den_var (i := 2) rfl (by first | exact Or.inl rfl | exact Or.inr (Or.inl rfl) | exact Or.inr (Or.inr rfl)) rfl rfl) (denA_cons den_int denA_nil rfl) rfl) rfl rfl rfl) denA_nil rfl) rfl) rfl))) denA_nil rfl) rfl) rfl rfl rfl) denA_nil rfl) rfl)) denA_nil rfl) rfl) rfl rfl rfl) (den_lst (denA_cons (den_fz (den_lit 99 (by kernel_rfl))) (denA_cons (den_callB (sem_repr2 ct) rfl M.f_repr (by decide +kernel) (denA_cons (den_var (i := 7) rfl (by first | exact Or.inl rfl | exact Or.inr (Or.inl rfl) | exact Or.inr (Or.inr rfl)) rfl rfl) denA_nil rfl) (by decide) rfl rfl rfl) denA_nil rfl) rfl)) rfl) (denS_cons (denS_ret den_bl)
    denS_nil) denS_nil)
    denS_nil) (fun _ => rfl))
    denS_nil) (fun _ => rfl))
    (denS_cons (denS_forV ct bx_po (i := 8) rfl (by first | exact Or.inl rfl | exact Or.inr rfl) (by first | exact Or.inl rfl | exact Or.inr rfl) (denA_cons (den_fnE rfl M.g_sum_of rfl) (denA_cons (den_fnE rfl M.g_product_of rfl) denA_nil rfl) rfl) (denS_cons (denS_if (denT_not (denT_val (den_call (CK.ok O.o__law_alone) ct (Nat.le_refl _) rfl (denA_cons (den_var (i := 8) rfl (by first | exact Or.inl rfl | exact Or.inr (Or.inl rfl) | exact Or.inr (Or.inr rfl)) rfl rfl) (denA_cons (den_lit 99 (by kernel_rfl)) denA_nil rfl) rfl) rfl rfl rfl) (fun _ => rfl))) (denS_cons (denS_ret den_bl)
    denS_nil) denS_nil)
    denS_nil) (fun _ => rfl))
    (denS_cons (denS_for ct bx_po (denI_seq (den_fz (den_lst (denA_cons (den_tup (denA_cons den_int (denA_cons (den_bin sem_sub den_int (den_var (i := 3) rfl (by first | exact Or.inl rfl | exact Or.inr (Or.inl rfl) | exact Or.inr (Or.inr rfl)) rfl rfl)) denA_nil rfl) rfl)) (denA_cons (den_tup (denA_cons den_int (denA_cons (den_fz (den_lst (denA_cons (den_tup (denA_cons (den_var (i := 3) rfl (by first | exact Or.inl rfl | exact Or.inr (Or.inl rfl) | exact Or.inr (Or.inr rfl)) rfl rfl) (denA_cons den_int denA_nil rfl) rfl)) denA_nil rfl))) denA_nil rfl) rfl)) denA_nil rfl) rfl)))) (denG_tup ct (denGs_cons (denG_name ct (i := 5) rfl (by first | exact Or.inl rfl | exact Or.inr rfl) (by first | exact Or.inl rfl | exact Or.inr rfl)) (denGs_cons (denG_name ct (i := 9) rfl (by first | exact Or.inl rfl | exact Or.inr rfl) (by first | exact Or.inl rfl | exact Or.inr rfl)) denGs_nil rfl) rfl) rfl rfl) (denS_cons (denS_if (denT_cmp (sem_ne ct) (den_call (CK.ok O.o__law_caught) ct (Nat.le_refl _) rfl (denA_cons (den_var (i := 5) rfl (by first | exact Or.inl rfl | exact Or.inr (Or.inl rfl) | exact Or.inr (Or.inr rfl)) rfl rfl) (denA_cons (den_var (i := 9) rfl (by first | exact Or.inl rfl | exact Or.inr (Or.inl rfl) | exact Or.inr (Or.inr rfl)) rfl rfl) denA_nil rfl) rfl) rfl rfl rfl) (den_lst (denA_cons (den_fz (den_rep (den_lit 99 (by kernel_rfl)) den_int)) (denA_cons den_non denA_nil rfl) rfl)) rfl) (denS_cons (denS_ret den_bl)
    denS_nil) denS_nil)
    denS_nil) (fun _ => rfl))
    (denS_cons (denS_if (denT_cmp (sem_ne ct) (den_call (CK.ok O.o__law_caught) ct (Nat.le_refl _) rfl (denA_cons den_int (denA_cons (den_tup (denA_cons (den_var (i := 3) rfl (by first | exact Or.inl rfl | exact Or.inr (Or.inl rfl) | exact Or.inr (Or.inr rfl)) rfl rfl) (denA_cons den_int denA_nil rfl) rfl)) denA_nil rfl) rfl) rfl rfl rfl) (den_lst (denA_cons (den_fz (den_lit 99 (by kernel_rfl))) (denA_cons (den_callB (sem_repr2 ct) rfl M.f_repr (by decide +kernel) (denA_cons den_non denA_nil rfl) (by decide) rfl rfl rfl) denA_nil rfl) rfl)) rfl) (denS_cons (denS_ret den_bl)
    denS_nil) denS_nil)
    denS_nil)))))))))) (fun _ => rfl))
    (denS_cons (denS_ret den_bl)
    denS_nil))
theorem d_law {P : Program} {w : World} {K : PySem.W.Frag} {mg : Str → Option Value} {base : Heap} {R0 fI : Addr} {n : Nat} {L : Nat → FF} (M : MF P w K mg R0 fI) (O : Oks P w K mg base n L) {f : Addr} {cdv : Value} {A : Around} {outer : List Env} {s : Shared} {H : Hp} {E : XK}
    (ct : Ct (BX P w K mg base ["script"] "law" (defScope (tp 58)) f cdv A outer s H E) n) : DenS (BX P w K mg base ["script"] "law" (defScope (tp 58)) f cdv A outer s H E) (defBody (tp 58)) (b_law L) :=
    (denS_cons (denS_ret (den_and (den_call (CK.ok O.o__law_names_right) ct (Nat.le_refl _) rfl (denA_cons (den_var (i := 0) rfl (by first | exact Or.inl rfl | exact Or.inr (Or.inl rfl) | exact Or.inr (Or.inr rfl)) rfl rfl) denA_nil rfl) rfl rfl rfl) (den_and (den_call (CK.ok O.o__law_fractions_right) ct (Nat.le_refl _) rfl (denA_cons (den_var (i := 0) rfl (by first | exact Or.inl rfl | exact Or.inr (Or.inl rfl) | exact Or.inr (Or.inr rfl)) rfl rfl) denA_nil rfl) rfl rfl rfl) (den_one (den_call (CK.ok O.o__law_refusals_right) ct (Nat.le_refl _) rfl (denA_cons (den_var (i := 0) rfl (by first | exact Or.inl rfl | exact Or.inr (Or.inl rfl) | exact Or.inr (Or.inr rfl)) rfl rfl) denA_nil rfl) rfl rfl rfl)))))
    denS_nil)
end K02
set_option Elab.async false
set_option linter.all false
set_option maxRecDepth 100000
set_option maxHeartbeats 4000000
namespace K02
/-! ## Euclid's steps, told by the count of figures -/
def stp (p : Nat × Nat) : Nat × Nat := if 0 < p.2 then (p.2, p.1 % p.2) else (p.1, 0)
def itr : Nat → Nat × Nat → Nat × Nat
  | 0, p => p
  | n + 1, p => itr n (stp p)
theorem stp_gcd (a b : Nat) : Nat.gcd (stp (a, b)).1 (stp (a, b)).2 = Nat.gcd a b := by
  unfold stp
  by_cases h : 0 < b
  · rw [if_pos h]
    show Nat.gcd b (a % b) = Nat.gcd a b
    rw [Nat.gcd_comm a b, Nat.gcd_rec b a, Nat.gcd_comm]
  · rw [if_neg h]
    have : b = 0 := by omega
    subst this
    rfl
theorem itr_gcd : ∀ (n a b : Nat), Nat.gcd (itr n (a, b)).1 (itr n (a, b)).2 = Nat.gcd a b
  | 0, _, _ => rfl
  | n + 1, a, b => by
    show Nat.gcd (itr n (stp (a, b))).1 (itr n (stp (a, b))).2 = _
    rw [itr_gcd n (stp (a, b)).1 (stp (a, b)).2, stp_gcd]
theorem itr_zero : ∀ (n a : Nat), itr n (a, 0) = (a, 0)
  | 0, _ => rfl
  | n + 1, a => by
    show itr n (stp (a, 0)) = _
    have : stp (a, 0) = (a, 0) := rfl
    rw [this]
    exact itr_zero n a
def fb : Nat → Nat
  | 0 => 0
  | 1 => 1
  | n + 2 => fb n + fb (n + 1)
theorem lame : ∀ (k a b : Nat), b < a → b < fb (k + 2) → (itr k (a, b)).2 = 0
  | 0, a, b, _, h => by
    have : fb 2 = 1 := rfl
    have h : b < fb 2 := h
    show b = 0
    omega
  | 1, a, b, _, h => by
    have h3 : fb 3 = 2 := rfl
    show (stp (a, b)).2 = 0
    unfold stp
    by_cases h0 : 0 < b
    · rw [if_pos h0]
      show a % b = 0
      have : b = 1 := by
        have h : b < fb 3 := h
        omega
      subst this
      exact Nat.mod_one a
    · rw [if_neg h0]
  | k + 2, a, b, hl, h => by
    by_cases h0 : 0 < b
    · have e1 : itr (k + 2) (a, b) = itr (k + 1) (b, a % b) := by
        show itr (k + 1) (stp (a, b)) = _
        unfold stp
        rw [if_pos h0]
      rw [e1]
      have hr : a % b < b := Nat.mod_lt _ h0
      by_cases h1 : a % b < fb (k + 3)
      · exact lame (k + 1) b (a % b) hr h1
      · have hf : fb (k + 4) = fb (k + 2) + fb (k + 3) := rfl
        have h : b < fb (k + 4) := h
        by_cases h2 : 0 < a % b
        · have e2 : itr (k + 1) (b, a % b) = itr k (a % b, b % (a % b)) := by
            show itr k (stp (b, a % b)) = _
            unfold stp
            rw [if_pos h2]
          rw [e2]
          have hm : b % (a % b) ≤ b - a % b := by
            rw [Nat.mod_eq_sub_mod (by omega)]
            exact Nat.mod_le _ _
          exact lame k _ _ (Nat.mod_lt _ h2) (by omega)
        · have : a % b = 0 := by omega
          rw [this, itr_zero]
    · have : b = 0 := by omega
      subst this
      rw [itr_zero]
theorem fb_ratio : ∀ n : Nat, 2 ≤ n → 3 * fb n ≤ 2 * fb (n + 1) ∧ fb (n + 1) ≤ 2 * fb n
  | 0, h => by omega
  | 1, h => by omega
  | 2, _ => by decide
  | n + 3, _ => by
    obtain ⟨h1, h2⟩ := fb_ratio (n + 2) (by omega)
    have e : fb (n + 4) = fb (n + 2) + fb (n + 3) := rfl
    show 3 * fb (n + 3) ≤ 2 * fb (n + 4) ∧ fb (n + 4) ≤ 2 * fb (n + 3)
    have h1 : 3 * fb (n + 2) ≤ 2 * fb (n + 3) := h1
    have h2 : fb (n + 3) ≤ 2 * fb (n + 2) := h2
    omega
theorem fb_ten : ∀ d : Nat, 10 ^ d ≤ fb (5 * d + 2)
  | 0 => by decide
  | d + 1 => by
    have ih := fb_ten d
    obtain ⟨h1, _⟩ := fb_ratio (5 * d + 2) (by omega)
    have a1 : fb (5 * d + 4) = fb (5 * d + 2) + fb (5 * d + 3) := rfl
    have a2 : fb (5 * d + 5) = fb (5 * d + 3) + fb (5 * d + 4) := rfl
    have a3 : fb (5 * d + 6) = fb (5 * d + 4) + fb (5 * d + 5) := rfl
    have a4 : fb (5 * d + 7) = fb (5 * d + 5) + fb (5 * d + 6) := rfl
    have e : 5 * (d + 1) + 2 = 5 * d + 7 := by omega
    rw [e, Nat.pow_succ]
    have h1 : 3 * fb (5 * d + 2) ≤ 2 * fb (5 * d + 3) := h1
    omega
/-- five steps a figure of the second number, and one more, are enough -/
theorem steps_enough (a b d : Nat) (h : b < 10 ^ d) : itr (5 * d + 1) (a, b) = (Nat.gcd a b, 0) := by
  have key : (itr (5 * d + 1) (a, b)).2 = 0 := by
    by_cases hb : 0 < b
    · have e1 : itr (5 * d + 1) (a, b) = itr (5 * d) (b, a % b) := by
        show itr (5 * d) (stp (a, b)) = _
        unfold stp
        rw [if_pos hb]
      rw [e1]
      have hr := Nat.mod_lt a hb
      exact lame (5 * d) b (a % b) hr (by have := fb_ten d; omega)
    · have : b = 0 := by omega
      subst this
      rw [itr_zero]
  have g := itr_gcd (5 * d + 1) a b
  generalize itr (5 * d + 1) (a, b) = p at key g
  obtain ⟨x, y⟩ := p
  have key : y = 0 := key
  subst key
  rw [Nat.gcd_zero_right] at g
  have g : x = Nat.gcd a b := g
  rw [g]
/-- the while's: down to 0 -/
def whl : Nat → Nat × Nat → Option Nat
  | 0, _ => none
  | n + 1, p => if 0 < p.2 then whl n (p.2, p.1 % p.2) else some p.1
theorem whl_of : ∀ (n a b : Nat), (itr n (a, b)).2 = 0 → whl (n + 1) (a, b) = some (Nat.gcd a b)
  | 0, a, b, h => by
    have h : b = 0 := h
    subst h
    show some a = some (Nat.gcd a 0)
    rw [Nat.gcd_zero_right]
  | n + 1, a, b, h => by
    by_cases hb : 0 < b
    · have e1 : itr (n + 1) (a, b) = itr n (b, a % b) := by
        show itr n (stp (a, b)) = _
        unfold stp
        rw [if_pos hb]
      rw [e1] at h
      have := whl_of n b (a % b) h
      show (if 0 < b then whl (n + 1) (b, a % b) else some a) = _
      rw [if_pos hb, this, Nat.gcd_comm a b, Nat.gcd_rec b a, Nat.gcd_comm]
    · have h0 : b = 0 := by omega
      subst h0
      show (if 0 < 0 then _ else some a) = _
      rw [if_neg (by omega), Nat.gcd_zero_right]
/-! ## fractions in lowest terms -/
def low (a b : Int) : Int × Int := (a / (Int.gcd a b : Int), b / (Int.gcd a b : Int))
/-- the fraction of a and b, b not 0 -/
def frc (a b : Int) : Int × Int := if b < 0 then low (-a) (-b) else low a b
theorem gcd_pos {a b : Int} (h : b ≠ 0) : 0 < Int.gcd a b := Nat.pos_of_ne_zero fun e => h (Int.gcd_eq_zero_iff.mp e).2
theorem low_pos {a b : Int} (h : 0 < b) : 0 < (low a b).2 := by
  have g := gcd_pos (a := a) (b := b) (by omega)
  have d : (Int.gcd a b : Int) ∣ b := Int.gcd_dvd_right ..
  exact Int.ediv_pos_of_pos_of_dvd h (by omega) d
theorem low_gcd {a b : Int} (h : b ≠ 0) : Int.gcd (low a b).1 (low a b).2 = 1 := by
  have g := gcd_pos (a := a) (b := b) h
  exact Int.gcd_ediv_gcd_ediv_gcd g
theorem low_self {a b : Int} (g : Int.gcd a b = 1) : low a b = (a, b) := by
  unfold low
  rw [g]
  simp
theorem low_mul {a b t : Int} (ht : 0 < t) : low (a * t) (b * t) = low a b := by
  unfold low
  have e : (Int.gcd (a * t) (b * t) : Int) = (Int.gcd a b : Int) * t := by
    rw [Int.gcd_mul_right]
    rw [Int.natCast_mul, Int.natAbs_of_nonneg (by omega)]
  rw [e, Int.mul_ediv_mul_of_pos_left _ _ ht, Int.mul_ediv_mul_of_pos_left _ _ ht]
end K02
set_option Elab.async false
set_option linter.all false
set_option maxRecDepth 100000
set_option maxHeartbeats 4000000
namespace PP
open PySem L2 PySem.Spec PyProof.Rows
/-! ## reckoning with what the defs do: one equation a construct -/
theorem ofString_inj {a b : String} : Str.ofString a = Str.ofString b ↔ a = b := by
  constructor
  · intro h
    rw [Str.ofString_eq_toList, Str.ofString_eq_toList] at h
    have h2 : a.toList.map Char.toNat = b.toList.map Char.toNat := by
      have := congrArg (fun s : Str => s.cps.toList) h
      simpa using this
    have h3 : a.toList = b.toList := by
      have inj : ∀ (l m : List Char), l.map Char.toNat = m.map Char.toNat → l = m := by
        intro l
        induction l with
        | nil => intro m h; cases m with
          | nil => rfl
          | cons c m => cases h
        | cons c l ih => intro m h; cases m with
          | nil => cases h
          | cons d m =>
            simp only [List.map_cons, List.cons.injEq] at h
            rw [ih m h.2, Char.toNat_inj.mp h.1]
      exact inj _ _ h2
    exact String.toList_inj.mp h3
  · intro h; rw [h]
theorem ofString_beq {a b : String} : (Str.ofString a == Str.ofString b) = decide (a = b) := by
  by_cases h : a = b
  · subst h; simp
  · have : Str.ofString a ≠ Str.ofString b := fun e => h (ofString_inj.mp e)
    rw [decide_eq_false h]
    exact beq_false_of_ne this

/-! eliminators: what stands on a truth value goes on as an if -/
def kT {α : Type} (r : Option TR) (f g : SS → Option α) (e : Str → PyData → SS → Option α) : Option α := match r with
  | some (.tb b S) => if b = true then f S else g S
  | some (.exn c d S) => e c d S
  | none => none
def kB {α : Type} (v : Vl) (f g : Option α) : Option α := match v with
  | .py (.bool b) => if b = true then f else g
  | _ => none
def tE (r : Option ER) : Option TR := match r with
  | some (.val _ (.py (.bool b)) S') => some (.tb b S')
  | some (.exn c d S') => some (.exn c d S')
  | _ => none
def tN (r : Option TR) : Option TR := match r with
  | some (.tb b S') => some (.tb (!b) S')
  | some (.exn c d S') => some (.exn c d S')
  | none => none
def tAnd (r : Option TR) (k : SS → Option TR) : Option TR := match r with
  | some (.tb b S') => if b = true then k S' else some (.tb false S')
  | r => r
def tOr (r : Option TR) (k : SS → Option TR) : Option TR := match r with
  | some (.tb b S') => if b = true then some (.tb true S') else k S'
  | r => r
def sB (r : Option SR) (k : Sl → SS → Option SR) : Option SR := match r with
  | some (.nx sl' S') => k sl' S'
  | r => r
section
variable {α : Type} {c : Prop} [Decidable c]
@[simp] theorem kT_tb {b : Bool} {S : SS} {f g : SS → Option α} {e : Str → PyData → SS → Option α} : kT (some (.tb b S)) f g e = if b = true then f S else g S := rfl
@[simp] theorem kT_exn {x : Str} {d : PyData} {S : SS} {f g : SS → Option α} {e : Str → PyData → SS → Option α} : kT (some (.exn x d S)) f g e = e x d S := rfl
@[simp] theorem kT_none {f g : SS → Option α} {e : Str → PyData → SS → Option α} : kT none f g e = none := rfl
@[simp] theorem kT_ite {a b : Option TR} {f g : SS → Option α} {e : Str → PyData → SS → Option α} : kT (if c then a else b) f g e = if c then kT a f g e else kT b f g e := by split <;> rfl
@[simp] theorem kB_b {b : Bool} {f g : Option α} : kB (.py (.bool b)) f g = if b = true then f else g := rfl
@[simp] theorem tE_b {t : Tg} {b : Bool} {S : SS} : tE (some (.val t (.py (.bool b)) S)) = some (.tb b S) := rfl
@[simp] theorem tE_exn {x : Str} {d : PyData} {S : SS} : tE (some (.exn x d S)) = some (.exn x d S) := rfl
@[simp] theorem tE_none : tE none = none := rfl
@[simp] theorem tE_ite {a b : Option ER} : tE (if c then a else b) = if c then tE a else tE b := by split <;> rfl
@[simp] theorem tN_b {b : Bool} {S : SS} : tN (some (.tb b S)) = some (.tb (!b) S) := rfl
@[simp] theorem tN_exn {x : Str} {d : PyData} {S : SS} : tN (some (.exn x d S)) = some (.exn x d S) := rfl
@[simp] theorem tN_none : tN none = none := rfl
@[simp] theorem tN_ite {a b : Option TR} : tN (if c then a else b) = if c then tN a else tN b := by split <;> rfl
@[simp] theorem tAnd_b {b : Bool} {S : SS} {k : SS → Option TR} : tAnd (some (.tb b S)) k = if b = true then k S else some (.tb false S) := rfl
@[simp] theorem tAnd_exn {x : Str} {d : PyData} {S : SS} {k : SS → Option TR} : tAnd (some (.exn x d S)) k = some (.exn x d S) := rfl
@[simp] theorem tAnd_none {k : SS → Option TR} : tAnd none k = none := rfl
@[simp] theorem tAnd_ite {a b : Option TR} {k : SS → Option TR} : tAnd (if c then a else b) k = if c then tAnd a k else tAnd b k := by split <;> rfl
@[simp] theorem tOr_b {b : Bool} {S : SS} {k : SS → Option TR} : tOr (some (.tb b S)) k = if b = true then some (.tb true S) else k S := rfl
@[simp] theorem tOr_exn {x : Str} {d : PyData} {S : SS} {k : SS → Option TR} : tOr (some (.exn x d S)) k = some (.exn x d S) := rfl
@[simp] theorem tOr_none {k : SS → Option TR} : tOr none k = none := rfl
@[simp] theorem tOr_ite {a b : Option TR} {k : SS → Option TR} : tOr (if c then a else b) k = if c then tOr a k else tOr b k := by split <;> rfl
@[simp] theorem sB_nx {sl : Sl} {S : SS} {k : Sl → SS → Option SR} : sB (some (.nx sl S)) k = k sl S := rfl
@[simp] theorem sB_rt {t : Tg} {v : Vl} {S : SS} {k : Sl → SS → Option SR} : sB (some (.rt t v S)) k = some (.rt t v S) := rfl
@[simp] theorem sB_bk {sl : Sl} {S : SS} {k : Sl → SS → Option SR} : sB (some (.bk sl S)) k = some (.bk sl S) := rfl
@[simp] theorem sB_ct {sl : Sl} {S : SS} {k : Sl → SS → Option SR} : sB (some (.ct sl S)) k = some (.ct sl S) := rfl
@[simp] theorem sB_exn {x : Str} {d : PyData} {sl : Sl} {S : SS} {k : Sl → SS → Option SR} : sB (some (.exn x d sl S)) k = some (.exn x d sl S) := rfl
@[simp] theorem sB_none {k : Sl → SS → Option SR} : sB none k = none := rfl
@[simp] theorem sB_ite {a b : Option SR} {k : Sl → SS → Option SR} : sB (if c then a else b) k = if c then sB a k else sB b k := by split <;> rfl
@[simp] theorem bindE_ite {a b : Option ER} {K : Tg → Vl → SS → Option ER} : bindE (if c then a else b) K = if c then bindE a K else bindE b K := by split <;> rfl
@[simp] theorem bindS_ite {a b : Option ER} {sl : Sl} {K : Tg → Vl → SS → Option SR} : bindS (if c then a else b) sl K = if c then bindS a sl K else bindS b sl K := by split <;> rfl
/-! two truth values make one -/
@[simp] theorem and_val {b1 b2 : Bool} {S : SS} : (if b1 = true then some (ER.val .pure (.py (.bool b2)) S) else some (ER.val .pure (.py (.bool false)) S)) = some (ER.val .pure (.py (.bool (b1 && b2))) S) := by cases b1 <;> rfl
@[simp] theorem or_val {b1 b2 : Bool} {S : SS} : (if b1 = true then some (ER.val .pure (.py (.bool true)) S) else some (ER.val .pure (.py (.bool b2)) S)) = some (ER.val .pure (.py (.bool (b1 || b2))) S) := by cases b1 <;> rfl
@[simp] theorem and_tb {b1 b2 : Bool} {S : SS} : (if b1 = true then some (TR.tb b2 S) else some (TR.tb false S)) = some (TR.tb (b1 && b2) S) := by cases b1 <;> rfl
@[simp] theorem or_tb {b1 b2 : Bool} {S : SS} : (if b1 = true then some (TR.tb true S) else some (TR.tb b2 S)) = some (TR.tb (b1 || b2) S) := by cases b1 <;> rfl
end
def rgOk (j : Int) : Bool := decide (-(2 ^ 62) ≤ j ∧ j < 2 ^ 62)
theorem rg_ite {α : Type} {j : Int} {x y : α} : (if -(2 ^ 62) ≤ j ∧ j < 2 ^ 62 then x else y) = if rgOk j = true then x else y := by
  by_cases h : -(2 ^ 62) ≤ j ∧ j < 2 ^ 62
  · rw [if_pos h, if_pos (show rgOk j = true from decide_eq_true h)]
  · rw [if_neg h, if_neg (show ¬ rgOk j = true from fun e => h (of_decide_eq_true e))]
theorem rg_ite2 {α : Type} {i j : Int} {x y : α} : (if -(2 ^ 62) ≤ i ∧ i < 2 ^ 62 ∧ -(2 ^ 62) ≤ j ∧ j < 2 ^ 62 then x else y) = if rgOk i = true ∧ rgOk j = true then x else y := by
  have e : (-(2 ^ 62) ≤ i ∧ i < 2 ^ 62 ∧ -(2 ^ 62) ≤ j ∧ j < 2 ^ 62) ↔ (rgOk i = true ∧ rgOk j = true) := by
    unfold rgOk
    rw [decide_eq_true_iff, decide_eq_true_iff, and_assoc]
  by_cases h : rgOk i = true ∧ rgOk j = true
  · rw [if_pos h, if_pos (e.mpr h)]
  · rw [if_neg h, if_neg (fun z => h (e.mp z))]
theorem rgOk_of {j : Int} (h : -1000000 ≤ j) (g : j ≤ 1000000) : rgOk j = true := decide_eq_true (by
  have e : (2 : Int) ^ 62 = 4611686018427387904 := by decide
  rw [e]
  omega)
section
variable {sl sl' : Sl} {S S' : SS} {t : Tg} {v : Vl} {c : Str} {d : PyData} {i j k n m : Nat} {f g h : FE} {fs gs : FS} {ga : FA} {ft gt : FT} {fi : FI}
@[simp] theorem bindE_val {K : Tg → Vl → SS → Option ER} : bindE (some (.val t v S)) K = K t v S := rfl
@[simp] theorem bindE_exn {K : Tg → Vl → SS → Option ER} : bindE (some (.exn c d S)) K = some (.exn c d S) := rfl
@[simp] theorem bindE_none {K : Tg → Vl → SS → Option ER} : bindE none K = none := rfl
@[simp] theorem bindS_val {K : Tg → Vl → SS → Option SR} : bindS (some (.val t v S)) sl K = K t v S := rfl
@[simp] theorem bindS_exn {K : Tg → Vl → SS → Option SR} : bindS (some (.exn c d S)) sl K = some (.exn c d sl S) := rfl
@[simp] theorem bindS_none {K : Tg → Vl → SS → Option SR} : bindS none sl K = none := rfl
@[simp] theorem ap_C : fC d sl S = some (.val .pure (.py d) S) := rfl
@[simp] theorem ap_Lit : fLit t d sl S = some (.val t (.py d) S) := rfl
@[simp] theorem ap_Fn {x : Str} : fFn x sl S = some (.val .pure (.fn x) S) := rfl
theorem ap_Var : fVar i sl S = (match sl[i]? with
  | some (.p v) => some (.val .pure v S)
  | some (.own d) => some (.val .mine (.py d) S)
  | _ => none) := rfl
@[simp] theorem ap_Var0 {r : Sl} {x : Slot} : fVar 0 (x :: r) S = (match x with
  | .p v => some (.val .pure v S)
  | .own d => some (.val .mine (.py d) S)
  | _ => none) := by cases x <;> rfl
@[simp] theorem ap_VarS {r : Sl} {x : Slot} {i : Nat} : fVar (i + 1) (x :: r) S = fVar i r S := rfl
@[simp] theorem ap_Fz : fFz f sl S = bindE (f sl S) fun t v S1 => (match t with
  | .mine => none
  | _ => some (.val .pure v S1)) := rfl
@[simp] theorem ap_Bin {sem : PyData → PyData → Option (Tg × PyData)} : fBin sem f g sl S = bindE (f sl S) fun _ v1 S1 => bindE (g sl S1) fun _ v2 S2 =>
    (match cont S2 v1, cont S2 v2 with
    | some d1, some d2 => match sem d1 d2 with
      | some (t, d) => some (.val t (.py d) S2)
      | none => none
    | _, _ => none) := rfl
@[simp] theorem cont_py : cont S (.py d) = some d := rfl
@[simp] theorem cont_box : cont S (.box k) = S[k]? := rfl
@[simp] theorem ap_faNil : faNil sl S = some (.vals [] S) := rfl
@[simp] theorem ap_faCons : faCons f ga sl S = (match f sl S with
  | some (.val t v S1) => match ga sl S1 with
    | some (.vals xs S2) => some (.vals ((t, v) :: xs) S2)
    | some (.exn c d S2) => some (.exn c d S2)
    | none => none
  | some (.exn c d S1) => some (.exn c d S1)
  | none => none) := rfl
@[simp] theorem pys_nil : pys [] = some [] := rfl
@[simp] theorem pys_cons {r : List (Tg × Vl)} : pys ((.pure, .py d) :: r) = (match pys r with
    | some ds => some (d :: ds)
    | none => none) := rfl
@[simp] theorem ap_Seq {mk : List PyData → PyData} : fSeq mk t ga sl S = (match ga sl S with
  | some (.vals xs S1) => match pys xs with
    | some ds => if ds.length ≤ LIM then some (.val t (.py (mk ds)) S1) else none
    | none => none
  | some (.exn c d S1) => some (.exn c d S1)
  | none => none) := rfl
@[simp] theorem ap_Tb : fTb f sl S = tE (f sl S) := rfl
@[simp] theorem ap_NotT : fNotT ft sl S = tN (ft sl S) := rfl
@[simp] theorem ap_AndT : fAndT ft gt sl S = tAnd (ft sl S) fun S' => gt sl S' := by
  unfold fAndT tAnd; cases ft sl S with
  | none => rfl
  | some r => cases r with
    | exn c d S' => rfl
    | tb b S' => cases b <;> rfl
@[simp] theorem ap_OrT : fOrT ft gt sl S = tOr (ft sl S) fun S' => gt sl S' := by
  unfold fOrT tOr; cases ft sl S with
  | none => rfl
  | some r => cases r with
    | exn c d S' => rfl
    | tb b S' => cases b <;> rfl
@[simp] theorem ap_And : fAnd f g sl S = bindE (f sl S) fun _ v S1 => kB v (g sl S1) (some (.val .pure (.py (.bool false)) S1)) := by
  unfold fAnd; congr 1; funext _ v S1; unfold kB; cases v with
  | py d => cases d with
    | bool b => cases b <;> rfl
    | _ => rfl
  | _ => rfl
@[simp] theorem ap_Or : fOr f g sl S = bindE (f sl S) fun _ v S1 => kB v (some (.val .pure (.py (.bool true)) S1)) (g sl S1) := by
  unfold fOr; congr 1; funext _ v S1; unfold kB; cases v with
  | py d => cases d with
    | bool b => cases b <;> rfl
    | _ => rfl
  | _ => rfl
@[simp] theorem ap_Not : fNot f sl S = bindE (f sl S) fun _ v S1 => (match v with
  | .py (.bool k) => some (.val .pure (.py (.bool (!k))) S1)
  | _ => none) := rfl
@[simp] theorem ap_If : fIf ft f g sl S = kT (ft sl S) (fun S' => f sl S') (fun S' => g sl S') (fun c d S' => some (.exn c d S')) := by
  unfold fIf kT; cases ft sl S with
  | none => rfl
  | some r => cases r with
    | exn c d S' => rfl
    | tb b S' => cases b <;> rfl
@[simp] theorem ap_IsN {neg : Bool} : fIsN neg f sl S = bindE (f sl S) fun _ v S1 => some (.val .pure (.py (.bool (neg ^^ isNon v))) S1) := rfl
@[simp] theorem ap_Ix : fIx f g sl S = fBin (fun x y => (ixP x y).map fun d => (.pure, d)) f g sl S := rfl
@[simp] theorem ap_oNone : foNone sl S = some (none, S) := rfl
@[simp] theorem ap_oSome : foSome f sl S = (match f sl S with
  | some (.val _ (.py (.int i)) S') => some (some i, S')
  | _ => none) := rfl
@[simp] theorem ap_Sl {fl fh : FO} : fSl f fl fh sl S = bindE (f sl S) fun _ v S1 => (match fl sl S1 with
  | some (lo, S2) => match fh sl S2 with
    | some (hi, S3) => match cont S3 v with
      | some d => match slP d lo hi with
        | some (t, d') => some (.val t (.py d') S3)
        | none => none
      | none => none
    | none => none
  | none => none) := rfl
@[simp] theorem conts_nil : conts S [] = some [] := rfl
@[simp] theorem conts_cons {r : List (Tg × Vl)} : conts S ((t, v) :: r) = (match cont S v, conts S r with
    | some d, some ds => some (d :: ds)
    | _, _ => none) := rfl
@[simp] theorem ap_Call {sem : List PyData → Option (Tg × PyData)} : fCall sem ga sl S = (match ga sl S with
  | some (.vals xs S1) => match conts S1 xs with
    | some ds => match sem ds with
      | some (t, d) => some (.val t (.py d) S1)
      | none => none
    | none => none
  | some (.exn c d S1) => some (.exn c d S1)
  | none => none) := rfl
@[simp] theorem ap_Isi {t : Ty} : fIsi t f sl S = bindE (f sl S) fun _ v S1 => (match cont S1 v with
  | some d => some (.val .pure (.py (.bool (isTy t d))) S1)
  | none => none) := rfl
@[simp] theorem ap_Isi2 {t1 t2 : Ty} : fIsi2 t1 t2 f sl S = bindE (f sl S) fun _ v S1 => (match cont S1 v with
  | some d => some (.val .pure (.py (.bool (isTy t1 d || isTy t2 d))) S1)
  | none => none) := rfl
@[simp] theorem argsOf_nil : argsOf [] = some [] := rfl
@[simp] theorem argsOf_cons {r : List (Tg × Vl)} : argsOf ((.pure, v) :: r) = (match argsOf r with
    | some vs => some (v :: vs)
    | none => none) := rfl
/-- what a call hands on -/
def outE : Option ER → Option ER
  | some (.val .pure v S2) => some (.val .pure v S2)
  | some (.val _ v S2) => some (.val .fresh v S2)
  | some (.exn c d S2) => some (.exn c d S2)
  | none => none
@[simp] theorem outE_pure : outE (some (.val .pure v S)) = some (.val .pure v S) := rfl
@[simp] theorem outE_fresh : outE (some (.val .fresh v S)) = some (.val .fresh v S) := rfl
@[simp] theorem outE_mine : outE (some (.val .mine v S)) = some (.val .fresh v S) := rfl
@[simp] theorem outE_exn : outE (some (.exn c d S)) = some (.exn c d S) := rfl
@[simp] theorem outE_none : outE none = none := rfl
@[simp] theorem ap_CallF {F : FF} : fCallF n F ga sl S = (match ga sl S with
  | some (.vals xs S1) => match argsOf xs with
    | some as => if as.length = n then outE (F as S1) else none
    | none => none
  | some (.exn c d S1) => some (.exn c d S1)
  | none => none) := by
  unfold fCallF
  cases ga sl S with
  | none => rfl
  | some r =>
    cases r with
    | exn c d S1 => rfl
    | vals xs S1 =>
      dsimp only
      cases argsOf xs with
      | none => rfl
      | some as =>
        dsimp only
        split
        · cases F as S1 with
          | none => rfl
          | some r => cases r with
            | exn c d S2 => rfl
            | val t v S2 => cases t <;> rfl
        · rfl
theorem callRes_eq {F : FF} {xs : List (Tg × Vl)} : callRes n F xs S = (match argsOf xs with
    | some as => if as.length = n then outE (F as S) else none
    | none => none) := by
  unfold callRes
  cases argsOf xs with
  | none => rfl
  | some as =>
    dsimp only
    split
    · cases F as S with
      | none => rfl
      | some r => cases r with
        | exn c d S2 => rfl
        | val t v S2 => cases t <;> rfl
    · rfl
@[simp] theorem ap_CallK {F : FF} {perm : List Nat} : fCallK perm m n F ga sl S = (match ga sl S with
  | some (.vals xs S1) => if xs.length = m then (match argsOf (pick perm xs) with
    | some as => if as.length = n then outE (F as S1) else none
    | none => none) else none
  | some (.exn c d S1) => some (.exn c d S1)
  | none => none) := by
  unfold fCallK
  simp only [callRes_eq]
  all_goals rfl
@[simp] theorem ap_CallL {fs : List (Str × Nat × FF)} : fCallL i fs ga sl S = (match sl[i]? with
  | some (.p (.fn f)) => match fs.lookup f with
    | some (n, F) => match ga sl S with
      | some (.vals xs S1) => (match argsOf xs with
        | some as => if as.length = n then outE (F as S1) else none
        | none => none)
      | some (.exn c d S1) => some (.exn c d S1)
      | none => none
    | none => none
  | _ => none) := by
  unfold fCallL
  simp only [callRes_eq]
  all_goals rfl
@[simp] theorem ap_Nil : fNil sl S = some (.nx sl S) := rfl
@[simp] theorem ap_Then : fThen fs gs sl S = sB (fs sl S) fun sl' S' => gs sl' S' := rfl
@[simp] theorem ap_Drop : fDrop f sl S = bindS (f sl S) sl fun _ _ S1 => some (.nx sl S1) := rfl
@[simp] theorem slotOf_pure : slotOf .pure v = some (.p v) := rfl
@[simp] theorem slotOf_fresh : slotOf .fresh (.py d) = some (.own d) := rfl
@[simp] theorem ap_Set : fSet i f sl S = bindS (f sl S) sl fun t v S1 => (match slotOf t v with
  | some s => some (.nx (sl.set i s) S1)
  | none => none) := rfl
@[simp] theorem ap_Ret : fRet f sl S = bindS (f sl S) sl fun t v S1 => some (.rt t v S1) := rfl
@[simp] theorem ap_RetN : fRetN sl S = some (.rt .pure (.py .none) S) := rfl
@[simp] theorem ap_Break : fBreak sl S = some (.bk sl S) := rfl
@[simp] theorem ap_Cont : fCont sl S = some (.ct sl S) := rfl
@[simp] theorem ap_IfS : fIfS ft fs gs sl S = kT (ft sl S) (fun S' => fs sl S') (fun S' => gs sl S') (fun c d S' => some (.exn c d sl S')) := by
  unfold fIfS kT; cases ft sl S with
  | none => rfl
  | some r => cases r with
    | exn c d S' => rfl
    | tb b S' => cases b <;> rfl
@[simp] theorem ap_Nm : gNm i d sl = some (sl.set i (.p (.py d))) := rfl
@[simp] theorem ap_gsNil : gsNil [] sl = some sl := rfl
@[simp] theorem ap_gsCons {g1 : PyData → Sl → Option Sl} {g2 : List PyData → Sl → Option Sl} {ds : List PyData} : gsCons g1 g2 (d :: ds) sl = (match g1 d sl with
    | some sl' => g2 ds sl'
    | none => none) := rfl
@[simp] theorem ap_Tp {g2 : List PyData → Sl → Option Sl} {ds : List PyData} : gTp n g2 (.tuple ds) sl = if ds.length = n then g2 ds sl else none := rfl
@[simp] theorem ap_iSeq : fiSeq f sl S = (match f sl S with
  | some (.val .pure (.py (.list ds)) S') => some (ds, S')
  | some (.val .pure (.py (.tuple ds)) S') => some (ds, S')
  | some (.val .pure (.py (.str s)) S') => some (chars s, S')
  | some (.val .pure (.py (.dict kvs)) S') => some (kvs.map (·.1), S')
  | _ => none) := rfl
@[simp] theorem ap_iRg1 : fiRg1 ga sl S = (match ga sl S with
  | some (.vals [(_, .py (.int j))] S') => if rgOk j = true then some (rng 0 j.toNat, S') else none
  | _ => none) := by
  unfold fiRg1
  simp only [rg_ite]
  all_goals rfl
@[simp] theorem ap_iRg2 : fiRg2 ga sl S = (match ga sl S with
  | some (.vals [(_, .py (.int i)), (_, .py (.int j))] S') => if rgOk i = true ∧ rgOk j = true then some (rng i (j - i).toNat, S') else none
  | _ => none) := by
  unfold fiRg2
  simp only [rg_ite2]
  all_goals rfl
@[simp] theorem ap_iEn : fiEn ga sl S = (match ga sl S with
  | some (.vals [(.pure, .py (.list ds))] S') => some (enumD ds, S')
  | _ => none) := rfl
@[simp] theorem ap_iZip : fiZip ga sl S = (match ga sl S with
  | some (.vals [(.pure, .py (.list ds)), (.pure, .py (.list ds2))] S') => some (zipD ds ds2, S')
  | some (.vals [(.pure, .py (.tuple ds)), (.pure, .py (.tuple ds2))] S') => some (zipD ds ds2, S')
  | _ => none) := rfl
@[simp] theorem ap_For {g2 : PyData → Sl → Option Sl} : fFor fi g2 fs sl S = (match fi sl S with
  | some (ds, S1) => forLoop g2 fs ds sl S1
  | none => none) := rfl
@[simp] theorem for_nil {g2 : PyData → Sl → Option Sl} : forLoop g2 fs [] sl S = some (.nx sl S) := rfl
theorem for_cons {g2 : PyData → Sl → Option Sl} {ds : List PyData} : forLoop g2 fs (d :: ds) sl S = (match g2 d sl with
    | none => none
    | some sl1 => match fs sl1 S with
      | some (.nx sl2 S2) => forLoop g2 fs ds sl2 S2
      | some (.ct sl2 S2) => forLoop g2 fs ds sl2 S2
      | some (.bk sl2 S2) => some (.nx sl2 S2)
      | r => r) := rfl
@[simp] theorem lc_nil {g2 : PyData → Sl → Option Sl} {acc : List PyData} : lcLoop g2 ft f sl [] acc S = some (acc, S) := rfl
theorem lc_cons {g2 : PyData → Sl → Option Sl} {acc ds : List PyData} : lcLoop g2 ft f sl (d :: ds) acc S = (match g2 d sl with
    | none => none
    | some sl1 => match ft sl1 S with
      | some (.tb false S1) => lcLoop g2 ft f sl ds acc S1
      | some (.tb true S1) => match f sl1 S1 with
        | some (.val .pure (.py y) S2) => if acc.length < LIM then lcLoop g2 ft f sl ds (acc ++ [y]) S2 else none
        | _ => none
      | _ => none) := rfl
@[simp] theorem ap_Yes : fYes sl S = some (.tb true S) := rfl
@[simp] theorem ap_Lc {g2 : PyData → Sl → Option Sl} {vs : List Nat} : fLc fi g2 ft f vs sl S = (match fi sl S with
  | some (ds, S1) => match lcLoop g2 ft f (wipeSl sl vs) ds [] S1 with
    | some (acc, S2) => some (.val .fresh (.py (.list acc)) S2)
    | none => none
  | none => none) := rfl
@[simp] theorem ap_Lock : fLock i fs sl S = (match fs sl S with
  | some (.nx sl' S') => some (.nx (lockSl i sl') S')
  | r => r) := rfl
@[simp] theorem ap_Lend : fLend i ft sl S = (match ft (lockSl i sl) S with
  | some (.tb b S') => if boxInts S' = true then some (.tb b S') else none
  | _ => none) := rfl
@[simp] theorem ap_SetBox : fSetBox i f sl S = bindS (f sl S) sl fun t v S1 => (match t, v with
  | .fresh, .py d => some (.nx (sl.set i (.p (.box S1.length))) (S1 ++ [d]))
  | _, _ => none) := rfl
@[simp] theorem ap_BoxSet : fBoxSet i j f sl S = bindS (f sl S) sl fun t v S1 => (match t, v, sl[i]? with
  | .pure, .py y, some (.p (.box k)) => match S1[k]? with
    | some (.list ds) => if j < ds.length then some (.nx sl (S1.set k (.list (ds.set j y)))) else none
    | _ => none
  | _, _, _ => none) := rfl
@[simp] theorem ap_App : fApp i ga sl S = (match ga sl S with
  | some (.vals [(.pure, .py y)] S1) => match sl[i]? with
    | some (.own (.list ds)) => if ds.length < LIM then some (.nx (sl.set i (.own (.list (ds ++ [y])))) S1) else none
    | _ => none
  | _ => none) := rfl
@[simp] theorem ap_TabIn {neg : Bool} {kvs : List (Str × PyData)} : fTabIn neg kvs f sl S = bindE (f sl S) fun _ v S1 => (match v with
  | .py (.str z) => some (.val .pure (.py (.bool (neg ^^ (kvs.lookup z).isSome))) S1)
  | _ => none) := rfl
@[simp] theorem ap_TabIx {kvs : List (Str × PyData)} : fTabIx kvs f sl S = bindE (f sl S) fun _ v S1 => (match v with
  | .py (.str z) => match kvs.lookup z with
    | some d => some (.val .pure (.py d) S1)
    | none => none
  | _ => none) := rfl
@[simp] theorem ap_TabGet {kvs : List (Str × PyData)} : fTabGet kvs f g sl S = bindE (f sl S) fun _ v S1 => (match v with
  | .py (.str z) => bindE (g sl S1) fun t2 v2 S2 => match t2 with
    | .pure => match kvs.lookup z with
      | some d => some (.val .pure (.py d) S2)
      | none => some (.val .pure v2 S2)
    | _ => none
  | _ => none) := rfl
@[simp] theorem ap_Bits : fBits f sl S = bindE (f sl S) fun _ v S1 => (match v with
  | .py (.int i) => some (.val .pure (.py (.int ((Builtin.Int.intBits i : Nat) : Int))) S1)
  | _ => none) := rfl
@[simp] theorem ap_IsiC {tab : List (Str × Bool)} : fIsiC tab f sl S = bindE (f sl S) fun t v S1 => (match t, v with
  | .pure, .err c _ => match tab.lookup c with
    | some b => some (.val .pure (.py (.bool b)) S1)
    | none => none
  | .pure, .py .none => some (.val .pure (.py (.bool false)) S1)
  | _, _ => none) := rfl
@[simp] theorem ap_ErrVal {cs : List Str} : fErrVal cs f sl S = bindE (f sl S) fun t v S1 => (match t, v with
  | .pure, .err c d => if cs.contains c = true then some (.val .pure (.py d) S1) else none
  | _, _ => none) := rfl
@[simp] theorem ap_Raise : fRaise c ga sl S = (match ga sl S with
  | some (.vals [(.pure, .py d)] S1) => some (.exn c d sl S1)
  | some (.exn c' d S1) => some (.exn c' d sl S1)
  | _ => none) := rfl
@[simp] theorem ap_Keep {cs : List Str} : fKeep cs i j fs sl S = (match fs sl S with
  | some (.exn c d sl' S') => if cs.contains c then some (.nx ((sl'.set j (.p (.err c d))).set i .un) S') else none
  | r => r) := rfl
@[simp] theorem ap_Par : fPar i j f g sl S = bindS (f sl S) sl fun t1 v1 S1 => bindS (g sl S1) sl fun t2 v2 S2 => (match slotOf t1 v1, slotOf t2 v2 with
  | some s1, some s2 => if i < sl.length ∧ j < sl.length then some (.nx ((sl.set i s1).set j s2) S2) else none
  | _, _ => none) := rfl
@[simp] theorem ap_Chain {s1 s2 : PyData → PyData → Option (Tg × PyData)} : fChain s1 s2 f g h sl S = bindE (f sl S) fun _ v1 S1 => bindE (g sl S1) fun t2 v2 S2 =>
  (match t2, cont S2 v1, cont S2 v2 with
  | .pure, some d1, some d2 => match s1 d1 d2 with
    | some (_, .bool true) => bindE (h sl S2) fun _ v3 S3 => match cont S3 v2, cont S3 v3 with
      | some d2', some d3 => match s2 d2' d3 with
        | some (_, .bool e) => some (.val .pure (.py (.bool e)) S3)
        | _ => none
      | _, _ => none
    | some (_, .bool false) => some (.val .pure (.py (.bool false)) S2)
    | _ => none
  | _, _, _ => none) := rfl
@[simp] theorem ap_Neg : fNeg f sl S = bindE (f sl S) fun _ v S1 => (match v with
  | .py (.int i) => some (.val .pure (.py (.int (-i))) S1)
  | _ => none) := rfl
@[simp] theorem ap_Asg {g2 : PyData → Sl → Option Sl} : fAsg f g2 sl S = bindS (f sl S) sl fun t v S1 => (match t, v with
  | .pure, .py d => match g2 d sl with
    | some sl' => some (.nx sl' S1)
    | none => none
  | _, _ => none) := rfl
/-! a def's end -/
def outF : Option SR → Option ER
  | some (.rt t v S') => some (.val t v S')
  | some (.nx _ S') => some (.val .pure (.py .none) S')
  | some (.exn c d _ S') => some (.exn c d S')
  | _ => none
@[simp] theorem outF_rt : outF (some (.rt t v S)) = some (.val t v S) := rfl
@[simp] theorem outF_nx : outF (some (.nx sl S)) = some (.val .pure (.py .none) S) := rfl
@[simp] theorem outF_exn : outF (some (.exn c d sl S)) = some (.exn c d S) := rfl
@[simp] theorem outF_none : outF none = none := rfl
@[simp] theorem outF_ite {c : Prop} [Decidable c] {a b : Option SR} : outF (if c then a else b) = if c then outF a else outF b := by split <;> rfl
@[simp] theorem outE_ite {c : Prop} [Decidable c] {a b : Option ER} : outE (if c then a else b) = if c then outE a else outE b := by split <;> rfl
theorem funF1 {N : Nat} {a : Vl} : funF N 1 fs [a] S = outF (fs (.p a :: List.replicate (N - 1) .un) S) := by
  unfold funF; simp only [List.length_cons, List.length_nil, if_true, List.map_cons, List.map_nil, List.cons_append, List.nil_append]; unfold outF; split <;> simp_all
theorem funF2 {N : Nat} {a b : Vl} : funF N 2 fs [a, b] S = outF (fs (.p a :: .p b :: List.replicate (N - 2) .un) S) := by
  unfold funF; simp only [List.length_cons, List.length_nil, if_true, List.map_cons, List.map_nil, List.cons_append, List.nil_append]; unfold outF; split <;> simp_all
theorem funF3 {N : Nat} {a b c : Vl} : funF N 3 fs [a, b, c] S = outF (fs (.p a :: .p b :: .p c :: List.replicate (N - 3) .un) S) := by
  unfold funF; simp only [List.length_cons, List.length_nil, if_true, List.map_cons, List.map_nil, List.cons_append, List.nil_append]; unfold outF; split <;> simp_all
theorem funF4 {N : Nat} {a b c d : Vl} : funF N 4 fs [a, b, c, d] S = outF (fs (.p a :: .p b :: .p c :: .p d :: List.replicate (N - 4) .un) S) := by
  unfold funF; simp only [List.length_cons, List.length_nil, if_true, List.map_cons, List.map_nil, List.cons_append, List.nil_append]; unfold outF; split <;> simp_all
theorem funF0 {N : Nat} : funF N 0 fs [] S = outF (fs (List.replicate N .un) S) := by
  unfold funF; simp only [List.length_nil, if_true, List.map_nil, List.nil_append, Nat.sub_zero]; unfold outF; split <;> simp_all
end
/-! statement by statement -/
theorem then_nx {f g : FS} {sl sl' : Sl} {S S' : SS} {r : Option SR} (h : f sl S = some (.nx sl' S')) (q : g sl' S' = r) : fThen f g sl S = r := by
  unfold fThen
  rw [h]
  exact q
theorem then_rt {f g : FS} {sl : Sl} {S S' : SS} {t : Tg} {v : Vl} (h : f sl S = some (.rt t v S')) : fThen f g sl S = some (.rt t v S') := by
  unfold fThen
  rw [h]
theorem then_exn {f g : FS} {sl sl' : Sl} {S S' : SS} {c : Str} {d : PyData} (h : f sl S = some (.exn c d sl' S')) : fThen f g sl S = some (.exn c d sl' S') := by
  unfold fThen
  rw [h]
theorem for_nx {fi : FI} {g : PyData → Sl → Option Sl} {b : FS} {sl sl' : Sl} {S S1 S' : SS} {ds : List PyData} (h : fi sl S = some (ds, S1)) (q : forLoop g b ds sl S1 = some (.nx sl' S')) : fFor fi g b sl S = some (.nx sl' S') := by
  unfold fFor
  rw [h]
  exact q
/-! data -/
@[simp] theorem ixP_t0 {a : PyData} {r : List PyData} : ixP (.tuple (a :: r)) (.int 0) = some a := by
  unfold ixP atI ixN; simp
@[simp] theorem ixP_l0 {a : PyData} {r : List PyData} : ixP (.list (a :: r)) (.int 0) = some a := by
  unfold ixP atI ixN; simp
theorem atI_nat' {α : Type} {xs : List α} {i : Nat} : atI xs (i : Int) = xs[i]? := by
  unfold atI ixN
  by_cases h : i < xs.length
  · rw [if_pos (by omega), if_pos (by omega)]
    simp
  · by_cases h2 : (0 : Int) ≤ i
    · rw [if_pos h2, if_neg (by omega)]
      simp; omega
    · omega
theorem ixP_tn {xs : List PyData} {i : Nat} : ixP (.tuple xs) (.int (i : Int)) = xs[i]? := atI_nat'
theorem ixP_ln {xs : List PyData} {i : Nat} : ixP (.list xs) (.int (i : Int)) = xs[i]? := atI_nat'
@[simp] theorem ixP_t1 {a b : PyData} {r : List PyData} : ixP (.tuple (a :: b :: r)) (.int 1) = some b := ixP_tn (i := 1)
@[simp] theorem ixP_t2 {a b c : PyData} {r : List PyData} : ixP (.tuple (a :: b :: c :: r)) (.int 2) = some c := ixP_tn (i := 2)
@[simp] theorem ixP_t3 {a b c d : PyData} {r : List PyData} : ixP (.tuple (a :: b :: c :: d :: r)) (.int 3) = some d := ixP_tn (i := 3)
@[simp] theorem ixP_l1 {a b : PyData} {r : List PyData} : ixP (.list (a :: b :: r)) (.int 1) = some b := ixP_ln (i := 1)
@[simp] theorem ixP_l2 {a b c : PyData} {r : List PyData} : ixP (.list (a :: b :: c :: r)) (.int 2) = some c := ixP_ln (i := 2)
@[simp] theorem ixP_l3 {a b c d : PyData} {r : List PyData} : ixP (.list (a :: b :: c :: d :: r)) (.int 3) = some d := ixP_ln (i := 3)
@[simp] theorem eqP_str {a b : String} : eqP (.str (Str.ofString a)) (.str (Str.ofString b)) = some (.pure, .bool (decide (a = b))) := by
  unfold eqP; rw [if_pos (by unfold eqOk; simp [PyData.plain, PyData.depth, DEEP])]; simp [PyData.eqv, ofString_beq]
@[simp] theorem neP_str {a b : String} : neP (.str (Str.ofString a)) (.str (Str.ofString b)) = some (.pure, .bool (!decide (a = b))) := by
  unfold neP; rw [if_pos (by unfold eqOk; simp [PyData.plain, PyData.depth, DEEP])]; simp [PyData.eqv, ofString_beq]
@[simp] theorem eqP_int {a b : Int} : eqP (.int a) (.int b) = some (.pure, .bool (decide (a = b))) := by
  unfold eqP; rw [if_pos (by unfold eqOk; simp [PyData.plain, PyData.depth, DEEP])]; simp [PyData.eqv]; rfl
@[simp] theorem neP_int {a b : Int} : neP (.int a) (.int b) = some (.pure, .bool (!decide (a = b))) := by
  unfold neP; rw [if_pos (by unfold eqOk; simp [PyData.plain, PyData.depth, DEEP])]; simp [PyData.eqv]; rfl
@[simp] theorem eqP_bool {a b : Bool} : eqP (.bool a) (.bool b) = some (.pure, .bool (a == b)) := by
  unfold eqP; rw [if_pos (by unfold eqOk; simp [PyData.plain, PyData.depth, DEEP])]; simp [PyData.eqv]
@[simp] theorem neP_bool {a b : Bool} : neP (.bool a) (.bool b) = some (.pure, .bool (!(a == b))) := by
  unfold neP; rw [if_pos (by unfold eqOk; simp [PyData.plain, PyData.depth, DEEP])]; simp [PyData.eqv]
theorem eqP_of {a b : PyData} (h : eqOk a b = true) : eqP a b = some (.pure, .bool (PyData.eqv a b)) := if_pos h
theorem neP_of {a b : PyData} (h : eqOk a b = true) : neP a b = some (.pure, .bool (!PyData.eqv a b)) := if_pos h
@[simp] theorem ltP_int {g : Int → Int → Bool} {a b : Int} : ltP g (.int a) (.int b) = some (.pure, .bool (g a b)) := rfl
@[simp] theorem isNon_none : isNon (.py .none) = true := rfl
@[simp] theorem isNon_bool {b : Bool} : isNon (.py (.bool b)) = false := rfl
@[simp] theorem isNon_int {b : Int} : isNon (.py (.int b)) = false := rfl
@[simp] theorem isNon_str {b : Str} : isNon (.py (.str b)) = false := rfl
@[simp] theorem isNon_list {b : List PyData} : isNon (.py (.list b)) = false := rfl
@[simp] theorem isNon_tuple {b : List PyData} : isNon (.py (.tuple b)) = false := rfl
@[simp] theorem isNon_err {c : Str} {d : PyData} : isNon (.err c d) = false := rfl
@[simp] theorem addP_int {a b : Int} : addP (.int a) (.int b) = some (.pure, .int (a + b)) := rfl
@[simp] theorem subP_int {a b : Int} : subP (.int a) (.int b) = some (.pure, .int (a - b)) := rfl
@[simp] theorem intP_int {a : Int} : intP [.int a] = some (.pure, .int a) := rfl
@[simp] theorem lenP_list {xs : List PyData} : lenP [.list xs] = some (.pure, .int xs.length) := rfl
@[simp] theorem lenP_tuple {xs : List PyData} : lenP [.tuple xs] = some (.pure, .int xs.length) := rfl
end PP
set_option Elab.async false
set_option linter.all false
set_option maxRecDepth 100000
set_option maxHeartbeats 4000000
namespace PP
open PySem L2 PySem.Spec PyProof.Rows
/-! ## loops -/
@[simp] theorem LIM_eq : LIM = 100000 := rfl
theorem for_inv {g : PyData → Sl → Option Sl} {body : FS} (P : Nat → Sl → SS → Prop) : ∀ (ds : List PyData) (k : Nat) (sl : Sl) (S : SS), P k sl S →
    (∀ i d sl S, ds[i]? = some d → P (k + i) sl S → ∃ sl1 sl2 S2, g d sl = some sl1 ∧ (body sl1 S = some (.nx sl2 S2) ∨ body sl1 S = some (.ct sl2 S2)) ∧ P (k + i + 1) sl2 S2) →
    ∃ sl' S', forLoop g body ds sl S = some (.nx sl' S') ∧ P (k + ds.length) sl' S'
  | [], k, sl, S, h, _ => ⟨sl, S, rfl, h⟩
  | d :: ds, k, sl, S, h, st => by
    obtain ⟨sl1, sl2, S2, e1, e2, h2⟩ := st 0 d sl S rfl h
    obtain ⟨sl', S', e3, h3⟩ := for_inv P ds (k + 1) sl2 S2 h2 (fun i d' sl S e q => by
      have := st (i + 1) d' sl S (by simpa using e) (by rw [show k + (i + 1) = k + 1 + i by omega]; exact q)
      rw [show k + (i + 1) + 1 = k + 1 + i + 1 by omega] at this
      exact this)
    refine ⟨sl', S', ?_, by rw [show k + (d :: ds).length = k + 1 + ds.length by simp; omega]; exact h3⟩
    rw [for_cons, e1]
    rcases e2 with e2 | e2 <;> (dsimp only; rw [e2]; exact e3)
/-- a comprehension that draws nothing -/
theorem lc_pure {g : PyData → Sl → Option Sl} {t : FT} {f : FE} {sl : Sl} {S : SS} (p : PyData → Bool) (y : PyData → PyData) : ∀ (ds acc : List PyData),
    (∀ d ∈ ds, ∃ sl1, g d sl = some sl1 ∧ t sl1 S = some (.tb (p d) S) ∧ (p d = true → f sl1 S = some (.val .pure (.py (y d)) S))) → acc.length + ds.length ≤ LIM →
    lcLoop g t f sl ds acc S = some (acc ++ (ds.filter p).map y, S)
  | [], acc, _, _ => by simp
  | d :: ds, acc, h, hl => by
    obtain ⟨sl1, e1, e2, e3⟩ := h d (List.mem_cons_self ..)
    have hl' : acc.length + ds.length + 1 ≤ LIM := by simpa [Nat.add_assoc] using hl
    rw [lc_cons, e1]
    dsimp only
    rw [e2]
    cases q : p d with
    | false =>
      dsimp only
      rw [lc_pure p y ds acc (fun d hd => h d (List.mem_cons_of_mem _ hd)) (by omega), List.filter_cons, q]
      rfl
    | true =>
      dsimp only
      rw [e3 q]
      dsimp only
      rw [if_pos (by omega), lc_pure p y ds _ (fun d hd => h d (List.mem_cons_of_mem _ hd)) (by rw [List.length_append]; simp only [List.length_singleton]; omega), List.filter_cons, q]
      simp
theorem lc_map {g : PyData → Sl → Option Sl} {f : FE} {sl : Sl} {S : SS} (y : PyData → PyData) (ds : List PyData)
    (h : ∀ d ∈ ds, ∃ sl1, g d sl = some sl1 ∧ f sl1 S = some (.val .pure (.py (y d)) S)) (hl : ds.length ≤ LIM) :
    lcLoop g fYes f sl ds [] S = some (ds.map y, S) := by
  rw [lc_pure (fun _ => true) y ds [] (fun d hd => let ⟨sl1, e1, e2⟩ := h d hd; ⟨sl1, e1, rfl, fun _ => e2⟩) (by simpa using hl), List.filter_eq_self.mpr (fun _ _ => rfl), List.nil_append]
/-- a comprehension that draws -/
theorem lc_inv {g : PyData → Sl → Option Sl} {t : FT} {f : FE} {sl : Sl} (P : Nat → List PyData → SS → Prop) : ∀ (ds : List PyData) (k : Nat) (acc : List PyData) (S : SS), P k acc S → acc.length + ds.length ≤ LIM →
    (∀ i d acc S, ds[i]? = some d → P (k + i) acc S → ∃ sl1, g d sl = some sl1 ∧ ((∃ S1, t sl1 S = some (.tb false S1) ∧ P (k + i + 1) acc S1) ∨ ∃ S1 y S2, t sl1 S = some (.tb true S1) ∧ f sl1 S1 = some (.val .pure (.py y) S2) ∧ P (k + i + 1) (acc ++ [y]) S2)) →
    ∃ acc' S', lcLoop g t f sl ds acc S = some (acc', S') ∧ P (k + ds.length) acc' S' ∧ acc'.length ≤ acc.length + ds.length
  | [], k, acc, S, h, _, _ => ⟨acc, S, rfl, h, Nat.le_refl _⟩
  | d :: ds, k, acc, S, h, hl, st => by
    have hl' : acc.length + ds.length + 1 ≤ LIM := by simpa [Nat.add_assoc] using hl
    have st' : ∀ i d' acc S, ds[i]? = some d' → P (k + 1 + i) acc S → ∃ sl1, g d' sl = some sl1 ∧ ((∃ S1, t sl1 S = some (.tb false S1) ∧ P (k + 1 + i + 1) acc S1) ∨ ∃ S1 y S2, t sl1 S = some (.tb true S1) ∧ f sl1 S1 = some (.val .pure (.py y) S2) ∧ P (k + 1 + i + 1) (acc ++ [y]) S2) := fun i d' acc S e q => by
      have := st (i + 1) d' acc S (by simpa using e) (by rw [show k + (i + 1) = k + 1 + i by omega]; exact q)
      rw [show k + (i + 1) + 1 = k + 1 + i + 1 by omega] at this
      exact this
    obtain ⟨sl1, e1, e2⟩ := st 0 d acc S rfl h
    rw [lc_cons, e1]
    dsimp only
    rcases e2 with ⟨S1, e2, h2⟩ | ⟨S1, y, S2, e2, e3, h2⟩
    · rw [e2]
      dsimp only
      obtain ⟨acc', S', e4, h4, hl4⟩ := lc_inv P ds (k + 1) acc S1 h2 (by omega) st'
      exact ⟨acc', S', e4, by rw [show k + (d :: ds).length = k + 1 + ds.length by simp; omega]; exact h4, by simp only [List.length_cons]; omega⟩
    · rw [e2]
      dsimp only
      rw [e3]
      dsimp only
      rw [if_pos (by omega)]
      obtain ⟨acc', S', e4, h4, hl4⟩ := lc_inv P ds (k + 1) (acc ++ [y]) S2 h2 (by rw [List.length_append]; simp only [List.length_singleton]; omega) st'
      rw [List.length_append] at hl4
      simp only [List.length_singleton] at hl4
      exact ⟨acc', S', e4, by rw [show k + (d :: ds).length = k + 1 + ds.length by simp; omega]; exact h4, by simp only [List.length_cons]; omega⟩
/-! ## sizes of numbers -/
def LG (k : Nat) (i : Int) : Prop := i.natAbs.log2 ≤ k
theorem LG.of_lt {k : Nat} {i : Int} (h : i.natAbs < 2 ^ (k + 1)) : LG k i := by
  unfold LG
  by_cases z : i.natAbs = 0
  · rw [z]; simp
  · have := (Nat.log2_lt z).mpr h
    omega
theorem LG.lt {k : Nat} {i : Int} (h : LG k i) : i.natAbs < 2 ^ (k + 1) := by
  by_cases z : i.natAbs = 0
  · rw [z]; exact Nat.two_pow_pos _
  · exact (Nat.log2_lt z).mp (Nat.lt_succ_of_le h)
theorem LG.mono {k m : Nat} {i : Int} (h : LG k i) (l : k ≤ m) : LG m i := Nat.le_trans h l
theorem LG.mul {k m : Nat} {i j : Int} (h : LG k i) (g : LG m j) : LG (k + m + 1) (i * j) := by
  refine .of_lt ?_
  rw [Int.natAbs_mul, show k + m + 1 + 1 = (k + 1) + (m + 1) by omega, Nat.pow_add]
  exact Nat.mul_lt_mul'' h.lt g.lt
theorem LG.add {k m : Nat} {i j : Int} (h : LG k i) (g : LG m j) : LG (max k m + 1) (i + j) := by
  refine .of_lt ?_
  have a := (h.mono (Nat.le_max_left k m)).lt
  have b := (g.mono (Nat.le_max_right k m)).lt
  have c := Int.natAbs_add_le i j
  rw [Nat.pow_succ]
  omega
theorem mulP_ok {k m : Nat} {i j : Int} (h : LG k i) (g : LG m j) (l : k + m < 1000000) : mulP (.int i) (.int j) = some (.pure, .int (i * j)) := if_pos (by unfold LG at h g; omega)
theorem fdivP_ok {k : Nat} {i j : Int} (h : 0 < j) (g : LG k j) (l : k < 9000) : fdivP (.int i) (.int j) = some (.pure, .int (i / j)) := if_pos ⟨h, by unfold LG at g; omega⟩
theorem modP_ok {i j : Int} (h : 0 < j) : modP (.int i) (.int j) = some (.pure, .int (i % j)) := if_pos h
/-! ## the laws' own helpers, alike in every law -/
def g_hash : FS :=
    (fThen (fSet 2 (fBin modP (fCall intP (faCons (fBin addP (fBin addP (fBin addP (fBin mulP (fVar 0) (fC (.int (1140671)))) (fBin mulP (fBin mulP (fC (.int (27644437))) (fVar 1)) (fVar 1))) (fBin mulP (fC (.int (131))) (fVar 1))) (fC (.int (19)))) faNil)) (fC (.int (2147483629)))))
    (fThen (fSet 2 (fBin modP (fCall intP (faCons (fBin addP (fBin addP (fBin mulP (fVar 2) (fVar 2)) (fBin mulP (fC (.int (62089))) (fVar 1))) (fC (.int (32416187)))) faNil)) (fC (.int (2147483587)))))
    (fThen (fRet (fBin modP (fCall intP (faCons (fBin mulP (fVar 2) (fC (.int (48271)))) faNil)) (fC (.int (2147483647)))))
    fNil)))
def g_random (H : FF) : FS :=
    (fThen (fIfS (fTb (fBin (ltP fun i j => decide (j < i)) (fIx (fVar 0) (fC (.int (0)))) (fC (.int (0))))) (fThen (fSet 2 (fBin modP (fCall intP (faCons (fIx (fVar 0) (fC (.int (0)))) faNil)) (fVar 1)))
    (fThen (fBoxSet 0 0 (fBin fdivP (fIx (fVar 0) (fC (.int (0)))) (fVar 1)))
    (fThen (fRet (fVar 2))
    fNil))) fNil)
    (fThen (fSet 2 (fC (.int (0))))
    (fThen (fFor (fiRg1 (faCons (fFz (fBin addP (fC (.int (1))) (fBin fdivP (fBits (fVar 1)) (fC (.int (30)))))) faNil)) (gNm 3) (fThen (fBoxSet 0 2 (fFz (fBin addP (fIx (fVar 0) (fC (.int (2)))) (fC (.int (1))))))
    (fThen (fSet 2 (fFz (fBin addP (fBin mulP (fVar 2) (fC (.int (2147483587)))) (fCallF 2 H (faCons (fIx (fVar 0) (fC (.int (1)))) (faCons (fIx (fVar 0) (fC (.int (2)))) faNil))))))
    fNil)))
    (fThen (fRet (fBin modP (fCall intP (faCons (fVar 2) faNil)) (fVar 1)))
    fNil))))
def g_cell : FS :=
    (fThen (fIfS (fTb (fBin (ltP fun i j => decide (i < j)) (fVar 1) (fCall lenP (faCons (fVar 0) faNil)))) (fThen (fRet (fIx (fVar 0) (fVar 1)))
    fNil) fNil)
    (fThen (fRet (fBin modP (fCall sumP (faCons (fSl (fVar 0) foNone (foSome (fC (.int (1))))) faNil)) (fC (.int (1000003)))))
    fNil))
def g_generator (C : FF) : FS :=
    (fThen (fSet 2 (fCallF 2 C (faCons (fVar 0) (faCons (fVar 1) faNil))))
    (fThen (fRet (fSeq .list .fresh (faCons (fBin modP (fCall intP (faCons (fCall maxP (faCons (fBin subP (fVar 2) (fBin powP (fC (.int (10))) (fC (.int (18))))) (faCons (fC (.int (0))) faNil))) faNil)) (fBin powP (fBin powP (fC (.int (10))) (fC (.int (60)))) (fC (.int (10))))) (faCons (fBin modP (fCall intP (faCons (fVar 2) faNil)) (fC (.int (2147483647)))) (faCons (fBin mulP (fC (.int (1000))) (fVar 1)) faNil)))))
    fNil))
def g_pick (R : FF) : FS :=
    (fThen (fRet (fIx (fVar 1) (fCallF 2 R (faCons (fVar 0) (faCons (fCall lenP (faCons (fVar 1) faNil)) faNil)))))
    fNil)
def g_same (F : FF) : FS :=
    (fThen (fIfS (fTb (fIsi2 .list .tuple (fVar 1))) (fThen (fIfS (fOrT (fTb (fBin neP (fIsi .list (fVar 0)) (fIsi .list (fVar 1)))) (fTb (fBin neP (fIsi .tuple (fVar 0)) (fIsi .tuple (fVar 1))))) (fThen (fRet (fC (.bool false)))
    fNil) fNil)
    (fThen (fRet (fAnd (fBin eqP (fCall lenP (faCons (fVar 0) faNil)) (fCall lenP (faCons (fVar 1) faNil))) (fCall allP (faCons (fLc (fiZip (faCons (fVar 0) (faCons (fVar 1) faNil))) (gTp 2 (gsCons (gNm 2) (gsCons (gNm 3) gsNil))) fYes (fCallF 2 F (faCons (fVar 2) (faCons (fVar 3) faNil))) [2, 3]) faNil))))
    fNil)) fNil)
    (fThen (fIfS (fTb (fIsi .dict (fVar 1))) (fThen (fIfS (fOrT (fNotT (fTb (fIsi .dict (fVar 0)))) (fTb (fBin neP (fCall lenP (faCons (fVar 0) faNil)) (fCall lenP (faCons (fVar 1) faNil))))) (fThen (fRet (fC (.bool false)))
    fNil) fNil)
    (fThen (fRet (fCall allP (faCons (fLc (fiSeq (fVar 1)) (gNm 4) fYes (fAnd (fBin (inP false) (fVar 4) (fVar 0)) (fCallF 2 F (faCons (fIx (fVar 0) (fVar 4)) (faCons (fIx (fVar 1) (fVar 4)) faNil)))) [4]) faNil)))
    fNil)) fNil)
    (fThen (fIfS (fTb (fIsi .str (fVar 1))) (fThen (fRet (fAnd (fIsi .str (fVar 0)) (fBin eqP (fVar 0) (fVar 1))))
    fNil) fNil)
    (fThen (fIfS (fTb (fIsN false (fVar 1))) (fThen (fRet (fIsN false (fVar 0)))
    fNil) fNil)
    (fThen (fRet (fAnd (fIsi .int (fVar 0)) (fAnd (fBin eqP (fIsi .bool (fVar 0)) (fIsi .bool (fVar 1))) (fBin eqP (fVar 0) (fVar 1)))))
    fNil)))))
theorem hash_ok {b c : Int} (hb : LG 3000 b) (hc : LG 3000 c) (S : SS) : ∃ r, funF 3 2 g_hash [.py (.int b), .py (.int c)] S = some (.val .pure (.py (.int r)) S) ∧ 0 ≤ r ∧ r < 2147483647 := by
  have l1 : LG 40 1140671 := .of_lt (by decide)
  have l2 : LG 40 27644437 := .of_lt (by decide)
  have l3 : LG 40 131 := .of_lt (by decide)
  have l4 : LG 40 62089 := .of_lt (by decide)
  have l5 : LG 40 48271 := .of_lt (by decide)
  have e1 := mulP_ok hb l1 (by decide)
  have e2 := mulP_ok l2 hc (by decide)
  have e3 := mulP_ok (l2.mul hc) hc (by decide)
  have e4 := mulP_ok l3 hc (by decide)
  rw [funF2]
  let m1 := (b * 1140671 + 27644437 * c * c + 131 * c + 19) % 2147483629
  have b1 : 0 ≤ m1 := Int.emod_nonneg _ (by decide)
  have b2 : m1 < 2147483629 := Int.emod_lt_of_pos _ (by decide)
  have lm1 : LG 40 m1 := .of_lt (by omega)
  have e5 := mulP_ok lm1 lm1 (by decide)
  have e6 := mulP_ok l4 hc (by decide)
  let m2 := (m1 * m1 + 62089 * c + 32416187) % 2147483587
  have b3 : 0 ≤ m2 := Int.emod_nonneg _ (by decide)
  have b4 : m2 < 2147483587 := Int.emod_lt_of_pos _ (by decide)
  have lm2 : LG 40 m2 := .of_lt (by omega)
  have e7 := mulP_ok lm2 l5 (by decide)
  refine ⟨(m2 * 48271) % 2147483647, ?_, Int.emod_nonneg _ (by decide), Int.emod_lt_of_pos _ (by decide)⟩
  have f1 : modP (.int (b * 1140671 + 27644437 * c * c + 131 * c + 19)) (.int 2147483629) = some (.pure, .int m1) := modP_ok (by decide)
  have f2 : modP (.int (m1 * m1 + 62089 * c + 32416187)) (.int 2147483587) = some (.pure, .int m2) := modP_ok (by decide)
  have f3 : modP (.int (m2 * 48271)) (.int 2147483647) = some (.pure, .int (m2 * 48271 % 2147483647)) := modP_ok (by decide)
  clear_value m1 m2
  simp [g_hash, e1, e2, e3, e4, e5, e6, e7, f1, f2, f3]

/-! ### the numbers' generator -/
def bigN : Nat := 2 ^ 2000
def topN : Nat := 10 ^ 600
@[irreducible] def BIG : Int := (bigN : Nat)
@[irreducible] def TOP : Int := (topN : Nat)
theorem bigN_lt : bigN < 2 ^ 3001 := Nat.pow_lt_pow_right (by decide) (by decide)
theorem bigN_ge : 2 ^ 201 ≤ bigN := Nat.pow_le_pow_right (by decide) (by decide)
theorem LG_big {c : Int} (h : 0 ≤ c) (g : c ≤ BIG) : LG 3000 c := .of_lt (by
  unfold BIG at g
  have h7 := bigN_lt
  generalize bigN = x at *
  generalize (2 : Nat) ^ (3000 + 1) = y at *
  omega)
/-- a generator from which B more may be drawn -/
def GOk (B : Nat) (d : PyData) : Prop := ∃ a b c : Int, d = .list [.int a, .int b, .int c] ∧ 0 ≤ a ∧ a < TOP ∧ 0 ≤ b ∧ b < 2147483647 ∧ 0 ≤ c ∧ c + B ≤ BIG
theorem GOk.mono {B B' : Nat} {d : PyData} (h : GOk B d) (l : B' ≤ B) : GOk B' d := by
  obtain ⟨a, b, c, e, h1, h2, h3, h4, h5, h6⟩ := h
  exact ⟨a, b, c, e, h1, h2, h3, h4, h5, by omega⟩
/-- box k holds a generator, all else stands -/
def Gs (k B : Nat) (S S' : SS) : Prop := ∃ d, S' = S.set k d ∧ k < S.length ∧ GOk B d
theorem Gs.trans {k B B' : Nat} {S S1 S2 : SS} (h : Gs k B S S1) (g : Gs k B' S1 S2) : Gs k B' S S2 := by
  obtain ⟨d, rfl, h2, h3⟩ := h
  obtain ⟨d', rfl, g2, g3⟩ := g
  exact ⟨d', by rw [List.set_set], h2, g3⟩
theorem Gs.mono {k B B' : Nat} {S S1 : SS} (h : Gs k B S S1) (l : B' ≤ B) : Gs k B' S S1 := by
  obtain ⟨d, rfl, h2, h3⟩ := h
  exact ⟨d, rfl, h2, h3.mono l⟩
theorem Gs.at {k B : Nat} {S S1 : SS} (h : Gs k B S S1) : ∃ d, S1[k]? = some d ∧ GOk B d := by
  obtain ⟨d, rfl, h2, h3⟩ := h
  exact ⟨d, by rw [List.getElem?_set_self h2], h3⟩
theorem Gs.refl {k B : Nat} {S : SS} {d : PyData} (h : S[k]? = some d) (g : GOk B d) : Gs k B S S := by
  obtain ⟨hl, hd⟩ := List.getElem?_eq_some_iff.mp h
  exact ⟨d, by rw [← hd, List.set_getElem_self], hl, g⟩
def HashOk (H : FF) : Prop := ∀ (b c : Int) (S : SS), LG 3000 b → LG 3000 c → ∃ r, H [.py (.int b), .py (.int c)] S = some (.val .pure (.py (.int r)) S) ∧ 0 ≤ r ∧ r < 2147483647
def RandOk (R : FF) : Prop := ∀ (k B : Nat) (m : Int) (S S0 : SS), Gs k (B + 20) S0 S → 0 < m → m < 2 ^ 200 → ∃ r S', R [.box k, .py (.int m)] S = some (.val .pure (.py (.int r)) S') ∧ 0 ≤ r ∧ r < m ∧ Gs k B S0 S'
theorem bits_le {m : Int} (h0 : 0 < m) (h : m < 2 ^ 200) : 0 ≤ ((Builtin.Int.intBits m : Nat) : Int) / 30 ∧ ((Builtin.Int.intBits m : Nat) : Int) / 30 ≤ 6 := by
  have : Builtin.Int.intBits m ≤ 200 := by
    unfold Builtin.Int.intBits
    split
    · decide
    · have : m.natAbs ≠ 0 := by omega
      have := (Nat.log2_lt this (k := 200)).mpr (by omega)
      omega
  omega
def rBody (H : FF) : FS := (fThen (fBoxSet 0 2 (fFz (fBin addP (fIx (fVar 0) (fC (.int (2)))) (fC (.int (1))))))
      (fThen (fSet 2 (fFz (fBin addP (fBin mulP (fVar 2) (fC (.int (2147483587)))) (fCallF 2 H (faCons (fIx (fVar 0) (fC (.int (1)))) (faCons (fIx (fVar 0) (fC (.int (2)))) faNil))))))
      fNil))
theorem rBody_ok {H : FF} (hH : HashOk H) {k j : Nat} {m a b c dr : Int} {x : Slot} {S0 : SS} (hk : k < S0.length) (h3 : 0 ≤ b) (h4 : b < 2147483647) (h5 : 0 ≤ c) (h6 : c + 1 ≤ BIG) (ld : LG j dr) (hj : j < 1000) :
    ∃ r, rBody H [.p (.box k), .p (.py (.int m)), .p (.py (.int dr)), x] (S0.set k (.list [.int a, .int b, .int c])) = some (.nx [.p (.box k), .p (.py (.int m)), .p (.py (.int r)), x] (S0.set k (.list [.int a, .int b, .int (c + 1)]))) ∧ LG (j + 50) r := by
  have lM : LG 40 2147483587 := .of_lt (by decide)
  have lb : LG 3000 b := LG.mono (LG.of_lt (k := 32) (by omega)) (by decide)
  have hs1 : (S0.set k (PyData.list [PyData.int a, .int b, .int c]))[k]? = some (PyData.list [PyData.int a, .int b, .int c]) := List.getElem?_set_self hk
  have hs2 : (S0.set k (PyData.list [PyData.int a, .int b, .int (c + 1)]))[k]? = some (PyData.list [PyData.int a, .int b, .int (c + 1)]) := List.getElem?_set_self hk
  obtain ⟨r, eh, r0, r1⟩ := hH b (c + 1) (S0.set k (.list [.int a, .int b, .int (c + 1)])) lb (LG_big (by omega) h6)
  have em := mulP_ok ld lM (by omega)
  refine ⟨dr * 2147483587 + r, ?_, ?_⟩
  · simp [rBody, hs1, hs2, em, eh, hk]
  · exact ((ld.mul lM).add (LG.of_lt (k := 40) (i := r) (by omega))).mono (by omega)
theorem rLoop_ok {H : FF} (hH : HashOk H) {k B : Nat} {m a b c : Int} {S0 : SS} {ds : List PyData} (hk : k < S0.length) (h3 : 0 ≤ b) (h4 : b < 2147483647) (h5 : 0 ≤ c) (h6 : c + 10 ≤ BIG) (hr : ds.length ≤ 7) :
    ∃ r x, forLoop (gNm 3) (rBody H) ds [.p (.box k), .p (.py (.int m)), .p (.py (.int 0)), .un] (S0.set k (.list [.int a, .int b, .int c])) = some (.nx [.p (.box k), .p (.py (.int m)), .p (.py (.int r)), x] (S0.set k (.list [.int a, .int b, .int (c + (ds.length : Nat))]))) := by
  obtain ⟨sl', S', e, x, dr, rfl, rfl, _⟩ := for_inv (g := gNm 3) (body := rBody H) (fun i sl S' => ∃ x dr, sl = [.p (.box k), .p (.py (.int m)), .p (.py (.int dr)), x] ∧ S' = S0.set k (.list [.int a, .int b, .int (c + (i : Nat))]) ∧ LG (50 * (i + 1)) dr) ds 0
    [.p (.box k), .p (.py (.int m)), .p (.py (.int 0)), .un] (S0.set k (.list [.int a, .int b, .int c])) ⟨.un, 0, rfl, by simp, Nat.zero_le _⟩ (by
      rintro i d sl S ed ⟨x, dr, rfl, rfl, ld⟩
      have hi : i < 7 := Nat.lt_of_lt_of_le (List.getElem?_eq_some_iff.mp ed).1 hr
      rw [Nat.zero_add] at ld
      obtain ⟨r, e, lr⟩ := rBody_ok hH (m := m) (a := a) (x := .p (.py d)) hk h3 h4 (c := c + ((i : Nat) : Int)) (by omega) (by omega) ld (by omega)
      rw [Nat.zero_add]
      exact ⟨_, _, _, rfl, .inl e, _, r, rfl, by rw [show c + ((i + 1 : Nat) : Int) = c + (i : Int) + 1 by omega], lr.mono (by omega)⟩)
  rw [Nat.zero_add] at e
  exact ⟨dr, x, e⟩
theorem rand_ok {H : FF} (hH : HashOk H) : RandOk (funF 4 2 (g_random H)) := by
  intro k B m S S0 hg h0 hm
  obtain ⟨d, rfl, hk, a, b, c, rfl, h1, h2, h3, h4, h5, h6⟩ := hg
  have lm : LG 300 m := LG.mono (LG.of_lt (k := 200) (by omega)) (by decide)
  have e0 : (S0.set k (.list [.int a, .int b, .int c]))[k]? = some (.list [.int a, .int b, .int c]) := List.getElem?_set_self hk
  rw [funF2]
  by_cases ha : 0 < a
  · refine ⟨a % m, S0.set k (.list [.int (a / m), .int b, .int c]), ?_, Int.emod_nonneg _ (by omega), Int.emod_lt_of_pos _ h0, _, rfl, hk, a / m, b, c, rfl, Int.ediv_nonneg h1 (by omega), ?_, h3, h4, h5, by omega⟩
    · have e1 := modP_ok (i := a) h0
      have e2 := fdivP_ok (i := a) h0 lm (by decide)
      simp [g_random, e0, ha, e1, e2, hk]
    · exact Int.lt_of_le_of_lt (Int.ediv_le_self _ h1) h2
  · obtain ⟨q0, q1⟩ := bits_le h0 hm
    have e2 := fdivP_ok (i := ((Builtin.Int.intBits m : Nat) : Int)) (j := 30) (by decide) (LG.of_lt (k := 40) (by decide)) (by decide)
    generalize hq : ((Builtin.Int.intBits m : Nat) : Int) / 30 = q at q0 q1 e2
    have hr : (rng 0 (1 + q).toNat).length ≤ 7 := by
      unfold rng
      rw [List.length_map, List.length_range]
      omega
    have hb : rgOk (1 + q) = true := rgOk_of (by omega) (by omega)
    obtain ⟨dr, x, e3⟩ := rLoop_ok hH (B := B) (m := m) (a := a) hk h3 h4 h5 (by omega) hr
    refine ⟨dr % m, _, ?_, Int.emod_nonneg _ (by omega), Int.emod_lt_of_pos _ h0, _, rfl, hk, a, b, c + ((rng 0 (1 + q).toNat).length : Nat), rfl, h1, h2, h3, h4, by omega, by omega⟩
    have e4 := modP_ok (i := dr) h0
    unfold rBody at e3
    unfold g_random
    have x1 : ∀ r, outF (some (.rt .pure (.py (.int (dr % m))) (S0.set k (.list [.int a, .int b, .int (c + ((rng 0 (1 + q).toNat).length : Nat))])))) = r → outF (some (.rt .pure (.py (.int (dr % m))) (S0.set k (.list [.int a, .int b, .int (c + ((rng 0 (1 + q).toNat).length : Nat))])))) = r := fun r h => h
    refine (congrArg outF (then_nx (sl' := [.p (.box k), .p (.py (.int m)), .un, .un]) (S' := S0.set k (.list [.int a, .int b, .int c])) ?_ (then_nx (sl' := [.p (.box k), .p (.py (.int m)), .p (.py (.int 0)), .un]) (S' := S0.set k (.list [.int a, .int b, .int c])) ?_ (then_nx (for_nx (ds := rng 0 (1 + q).toNat) (S1 := S0.set k (.list [.int a, .int b, .int c])) ?_ e3) (then_rt (t := .pure) (v := .py (.int (dr % m))) (S' := S0.set k (.list [.int a, .int b, .int (c + ((rng 0 (1 + q).toNat).length : Nat))])) ?_))))).trans rfl
    · simp [e0, ha]
    · simp
    · simp [e2, hb]
    · simp [e4]

theorem hashOk : HashOk (funF 3 2 g_hash) := fun b c S hb hc => hash_ok hb hc S
/-! ### a cell of the script, a new generator, a thing out of a list -/
theorem atI_some {α : Type} {xs : List α} {i : Int} (h0 : 0 ≤ i) (h : i < xs.length) : ∃ x, atI xs i = some x ∧ x ∈ xs ∧ xs[i.toNat]? = some x := by
  obtain ⟨n, rfl⟩ := Int.eq_ofNat_of_zero_le h0
  have hn : n < xs.length := by omega
  refine ⟨xs[n], ?_, List.getElem_mem _, ?_⟩
  · rw [atI_nat', List.getElem?_eq_getElem hn]
  · simp [hn]
theorem intsOf_map (ns : List Int) : intsOf (ns.map PyData.int) = some ns := by
  induction ns with
  | nil => rfl
  | cons i r ih => simp [intsOf, ih]
def CellOk (C : FF) : Prop := ∀ (ns : List Int) (i : Int) (S : SS), 0 ≤ i → ∃ r, C [.py (.list (ns.map PyData.int)), .py (.int i)] S = some (.val .pure (.py (.int r)) S)
theorem cell_ok : CellOk (funF 2 2 g_cell) := by
  intro ns i S h0
  rw [funF2]
  by_cases h : i < ns.length
  · obtain ⟨x, e, hx, _⟩ := atI_some (xs := ns.map PyData.int) h0 (by simpa using h)
    obtain ⟨v, _, rfl⟩ := List.mem_map.mp hx
    have e' : ixP (.list (ns.map PyData.int)) (.int i) = some (.int v) := e
    exact ⟨v, by simp [g_cell, h, e']⟩
  · have ec : cutD (ns.map PyData.int) none (some 1) = (ns.take 1).map PyData.int := by
      unfold cutD
      rw [show HT.sIx (ns.map PyData.int).length 0 none = 0 from rfl, show (some (1 : Int)) = some ((1 : Nat) : Int) from rfl, HT.sIx_nat, List.drop_zero, Nat.sub_zero, List.map_take]
      cases ns with
      | nil => rfl
      | cons a r => simp
    have es : sumP [.list ((ns.take 1).map PyData.int)] = some (.pure, .int (ns.take 1).sum) := by
      show (match intsOf ((ns.take 1).map PyData.int) with
        | some ns => some (Tg.pure, PyData.int ns.sum)
        | none => none) = _
      rw [intsOf_map]
    have em := modP_ok (i := (ns.take 1).sum) (j := 1000003) (by decide)
    exact ⟨(ns.take 1).sum % 1000003, by simp [g_cell, h, slP, ec, es, em, ← List.map_take]⟩

def GenOk (G : FF) : Prop := ∀ (ns : List Int) (i : Int) (B : Nat) (S : SS), 0 ≤ i → i ≤ 1000 → (B : Int) ≤ 2 ^ 200 → ∃ d, G [.py (.list (ns.map PyData.int)), .py (.int i)] S = some (.val .fresh (.py d) S) ∧ GOk B d
theorem gen_ok {C : FF} (hC : CellOk C) : GenOk (funF 3 2 (g_generator C)) := by
  intro ns i B S h0 h1 hB
  obtain ⟨r, e⟩ := hC ns i S h0
  rw [funF2]
  have p1 : powP (.int 10) (.int 18) = some (.pure, .int (10 ^ 18)) := rfl
  have p2 : powP (.int 10) (.int 60) = some (.pure, .int (10 ^ 60)) := rfl
  have p3 : powP (.int (10 ^ 60)) (.int 10) = some (.pure, .int TOP) := by
    have e : ((10 : Int) ^ 60) ^ (Int.toNat 10) = TOP := by
      unfold TOP topN
      decide +kernel
    have h : 0 ≤ (10 : Int) ∧ (10 : Int) ≤ 1000 ∧ Builtin.Int.intBits (10 ^ 60) ≤ 10000 := by decide +kernel
    show (if 0 ≤ (10 : Int) ∧ (10 : Int) ≤ 1000 ∧ Builtin.Int.intBits (10 ^ 60) ≤ 10000 then some (Tg.pure, PyData.int ((10 ^ 60) ^ (Int.toNat 10))) else none) = _
    rw [if_pos h, e]
  have m1 : maxP [.int (r - 10 ^ 18), .int 0] = some (.pure, .int (max (r - 10 ^ 18) 0)) := by
    show some (Tg.pure, PyData.int (if 0 > r - 10 ^ 18 then 0 else r - 10 ^ 18)) = _
    rw [show (if 0 > r - 10 ^ 18 then 0 else r - 10 ^ 18) = max (r - 10 ^ 18) 0 by split <;> omega]
  have ht : 0 < TOP := by unfold TOP topN; decide +kernel
  have m2 := modP_ok (i := max (r - 10 ^ 18) 0) ht
  have m3 := modP_ok (i := r) (j := 2147483647) (by decide)
  have m4 := mulP_ok (i := 1000) (j := i) (k := 40) (m := 40) (.of_lt (by decide)) (.of_lt (by omega)) (by decide)
  have hbig : (1000 : Int) * i + B ≤ BIG := by
    have h2 := bigN_ge
    unfold BIG
    generalize bigN = x at *
    omega
  refine ⟨.list [.int (max (r - 10 ^ 18) 0 % TOP), .int (r % 2147483647), .int (1000 * i)], ?_, _, _, _, rfl, Int.emod_nonneg _ (by omega), Int.emod_lt_of_pos _ ht, Int.emod_nonneg _ (by decide), Int.emod_lt_of_pos _ (by decide), by omega, hbig⟩
  simp only [Int.reducePow] at *
  simp [g_generator, e, p1, p2, p3, m1, m2, m3, m4]
end PP
set_option Elab.async false
set_option linter.all false
set_option maxRecDepth 100000
set_option maxHeartbeats 4000000
namespace PP
open PySem L2 PySem.Spec PyProof.Rows
/-! ## data without dicts, of bounded depth and size -/
inductive Fine : Nat → PyData → Prop
  | none {k : Nat} : Fine k .none
  | bool {k : Nat} {b : Bool} : Fine k (.bool b)
  | int {k : Nat} {i : Int} : Fine k (.int i)
  | str {k : Nat} {s : Str} : Fine k (.str s)
  | list {k : Nat} {ds : List PyData} : ds.length ≤ LIM → (∀ d ∈ ds, Fine k d) → Fine (k + 1) (.list ds)
  | tuple {k : Nat} {ds : List PyData} : ds.length ≤ LIM → (∀ d ∈ ds, Fine k d) → Fine (k + 1) (.tuple ds)
theorem Fine.mono {k m : Nat} {d : PyData} (h : Fine k d) (l : k ≤ m) : Fine m d := by
  induction h generalizing m with
  | none => exact .none
  | bool => exact .bool
  | int => exact .int
  | str => exact .str
  | @list k ds hl _ ih =>
    obtain ⟨m, rfl⟩ : ∃ j, m = j + 1 := ⟨m - 1, by omega⟩
    exact .list hl fun d hd => ih d hd (by omega)
  | @tuple k ds hl _ ih =>
    obtain ⟨m, rfl⟩ : ∃ j, m = j + 1 := ⟨m - 1, by omega⟩
    exact .tuple hl fun d hd => ih d hd (by omega)
theorem plainAll_of {ds : List PyData} (h : ∀ d ∈ ds, d.plain = true) : PyData.plainAll ds = true := by
  induction ds with
  | nil => rfl
  | cons d r ih =>
    simp only [PyData.plainAll, Bool.and_eq_true]
    exact ⟨h d (List.mem_cons_self ..), ih fun x hx => h x (List.mem_cons_of_mem _ hx)⟩
theorem depthAll_of {k : Nat} {ds : List PyData} (h : ∀ d ∈ ds, d.depth ≤ k) : PyData.depthAll ds ≤ k := by
  induction ds with
  | nil => exact Nat.zero_le _
  | cons d r ih =>
    simp only [PyData.depthAll]
    exact Nat.max_le.mpr ⟨h d (List.mem_cons_self ..), ih fun x hx => h x (List.mem_cons_of_mem _ hx)⟩
theorem Fine.plain {k : Nat} {d : PyData} (h : Fine k d) : d.plain = true := by
  induction h with
  | list _ _ ih => simp only [PyData.plain]; exact plainAll_of ih
  | tuple _ _ ih => simp only [PyData.plain]; exact plainAll_of ih
  | _ => rfl
theorem Fine.depth {k : Nat} {d : PyData} (h : Fine k d) : d.depth ≤ k := by
  induction h with
  | list _ _ ih => simp only [PyData.depth]; exact Nat.succ_le_succ (depthAll_of ih)
  | tuple _ _ ih => simp only [PyData.depth]; exact Nat.succ_le_succ (depthAll_of ih)
  | _ => exact Nat.zero_le _
theorem eqOk_fine {k m : Nat} {a b : PyData} (h : Fine k a) (g : Fine m b) (l : min k m ≤ 60) : eqOk a b = true := by
  unfold eqOk
  rw [h.plain, g.plain, Bool.true_and, Bool.true_and]
  have := h.depth
  have := g.depth
  exact decide_eq_true (by simp only [DEEP]; omega)
theorem eqv_refl {k : Nat} {a : PyData} (h : Fine k a) : PyData.eqv a a = true := PySem.SeqAt.eqv_refl_plain a h.plain
theorem eqP_refl {k : Nat} {a : PyData} (h : Fine k a) (l : k ≤ 60) : eqP a a = some (.pure, .bool true) := by
  rw [eqP_of (eqOk_fine h h (by omega)), eqv_refl h]
theorem neP_refl {k : Nat} {a : PyData} (h : Fine k a) (l : k ≤ 60) : neP a a = some (.pure, .bool false) := by
  rw [neP_of (eqOk_fine h h (by omega)), eqv_refl h]
  rfl
theorem inP_list {neg : Bool} {x : PyData} {xs : List PyData} (h : inOk x xs = true) : inP neg x (.list xs) = some (.pure, .bool (neg ^^ xs.any fun y => PyData.eqv y x)) := by
  cases x <;> exact if_pos h
theorem inP_tuple {neg : Bool} {x : PyData} {xs : List PyData} (h : inOk x xs = true) : inP neg x (.tuple xs) = some (.pure, .bool (neg ^^ xs.any fun y => PyData.eqv y x)) := by
  cases x <;> exact if_pos h
theorem allP_of {xs : List PyData} (h : xs.all isB = true) : allP [.list xs] = some (.pure, .bool (xs.all PyData.truthy)) := if_pos h
/-! ### _law_same of a thing and itself -/
theorem same_fine {F : Nat → FF} (hF : ∀ n, F (n + 1) = funF 5 2 (g_same (F n))) {k : Nat} {d : PyData} (h : Fine k d) : k ≤ 60 → ∀ (n : Nat) (S : SS), k + 1 ≤ n → F n [.py d, .py d] S = some (.val .pure (.py (.bool true)) S) := by
  have seq : ∀ (ds : List PyData) (S : SS) (n : Nat), ds.length ≤ LIM → (∀ d ∈ ds, F n [.py d, .py d] S = some (.val .pure (.py (.bool true)) S)) → ∀ (sl : Sl), 4 ≤ sl.length →
      lcLoop (gTp 2 (gsCons (gNm 2) (gsCons (gNm 3) gsNil))) fYes (fCallF 2 (F n) (faCons (fVar 2) (faCons (fVar 3) faNil))) sl (zipD ds ds) [] S = some ((zipD ds ds).map (fun _ => .bool true), S) := by
    intro ds S n hl hds sl h4
    have hz : (zipD ds ds).length = ds.length := by simp [zipD]
    refine lc_map (fun _ => .bool true) _ (fun p hp => ?_) (by rw [hz]; exact hl)
    unfold zipD at hp
    obtain ⟨⟨a, b⟩, hab, rfl⟩ := List.mem_map.mp hp
    have e : a = b ∧ a ∈ ds := by
      clear hp hl hz hds
      induction ds with
      | nil => cases hab
      | cons x r ih =>
        rw [List.zip_cons_cons] at hab
        rcases List.mem_cons.mp hab with q | q
        · cases q; exact ⟨rfl, List.mem_cons_self ..⟩
        · obtain ⟨e1, e2⟩ := ih q; exact ⟨e1, List.mem_cons_of_mem _ e2⟩
    obtain ⟨rfl, ha⟩ := e
    obtain ⟨x0, x1, x2, x3, r, rfl⟩ : ∃ x0 x1 x2 x3 r, sl = x0 :: x1 :: x2 :: x3 :: r := match sl, h4 with
      | x0 :: x1 :: x2 :: x3 :: r, _ => ⟨x0, x1, x2, x3, r, rfl⟩
    refine ⟨x0 :: x1 :: .p (.py a) :: .p (.py a) :: r, by simp, ?_⟩
    simp [hds a ha]
  have allT : ∀ ds : List PyData, allP [.list ((zipD ds ds).map fun _ => PyData.bool true)] = some (.pure, .bool true) := by
    intro ds
    rw [allP_of (by simp [isB])]
    simp [PyData.truthy]
  induction h with
  | none =>
    intro _ n S hn
    obtain ⟨n, rfl⟩ : ∃ j, n = j + 1 := ⟨n - 1, by omega⟩
    rw [hF, funF2]
    simp [g_same, isTy]
  | bool =>
    intro _ n S hn
    obtain ⟨n, rfl⟩ : ∃ j, n = j + 1 := ⟨n - 1, by omega⟩
    rw [hF, funF2]
    simp [g_same, isTy]
  | int =>
    intro _ n S hn
    obtain ⟨n, rfl⟩ : ∃ j, n = j + 1 := ⟨n - 1, by omega⟩
    rw [hF, funF2]
    simp [g_same, isTy]
  | @str k s =>
    intro _ n S hn
    obtain ⟨n, rfl⟩ : ∃ j, n = j + 1 := ⟨n - 1, by omega⟩
    rw [hF, funF2]
    have := eqP_refl (k := 0) (a := .str s) .str (by omega)
    simp [g_same, isTy, this]
  | @list k ds hl _ ih =>
    intro hk n S hn
    obtain ⟨n, rfl⟩ : ∃ j, n = j + 1 := ⟨n - 1, by omega⟩
    rw [hF, funF2]
    have q := seq ds S n hl fun d hd => ih d hd (by omega) n S (by omega)
    have q2 := allT ds
    simp [g_same, isTy, q, q2, wipeSl]
  | @tuple k ds hl _ ih =>
    intro hk n S hn
    obtain ⟨n, rfl⟩ : ∃ j, n = j + 1 := ⟨n - 1, by omega⟩
    rw [hF, funF2]
    have q := seq ds S n hl fun d hd => ih d hd (by omega) n S (by omega)
    have q2 := allT ds
    simp [g_same, isTy, q, q2, wipeSl]
/-! ### a thing out of a list -/
def PickOk (P : FF) : Prop := ∀ (k B : Nat) (xs : List PyData) (S S0 : SS), Gs k (B + 20) S0 S → xs ≠ [] → xs.length ≤ 1000000 → ∃ x S', P [.box k, .py (.list xs)] S = some (.val .pure (.py x) S') ∧ x ∈ xs ∧ Gs k B S0 S'
theorem pick_ok {R : FF} (hR : RandOk R) : PickOk (funF 2 2 (g_pick R)) := by
  intro k B xs S S0 hg hn hl
  have hl0 : 0 < xs.length := List.length_pos_iff.mpr hn
  obtain ⟨r, S', e, r0, r1, g⟩ := hR k B (xs.length : Int) S S0 hg (by omega) (by omega)
  obtain ⟨x, ex, hx, _⟩ := atI_some (xs := xs) r0 r1
  have ex' : ixP (.list xs) (.int r) = some x := ex
  refine ⟨x, S', ?_, hx, g⟩
  rw [funF2]
  simp [g_pick, e, ex']
theorem atI_last' {α : Type} {xs : List α} (h : xs ≠ []) : atI xs (-1) = some (xs.getLast h) := by
  have hl : 0 < xs.length := List.length_pos_iff.mpr h
  unfold atI ixN
  rw [if_neg (by omega)]
  simp only [List.getLast_eq_getElem]
  have : ((-1 : Int) + xs.length).toNat = xs.length - 1 := by omega
  split
  · rw [this]
    show xs[xs.length - 1]? = _
    simp [hl]
  · omega
theorem ixP_tlast {xs : List PyData} (h : xs ≠ []) : ixP (.tuple xs) (.int (-1)) = some (xs.getLast h) := atI_last' h
theorem ixP_llast {xs : List PyData} (h : xs ≠ []) : ixP (.list xs) (.int (-1)) = some (xs.getLast h) := atI_last' h
theorem cut_init {xs : List PyData} : cutD xs none (some (-1)) = xs.dropLast := by
  unfold cutD HT.sIx
  simp only [List.drop_zero, Nat.sub_zero]
  rw [List.dropLast_eq_take]
  congr 1
  split <;> omega
end PP
set_option Elab.async false
set_option linter.all false
set_option maxRecDepth 100000
set_option maxHeartbeats 4000000
namespace PP
open PySem L2 PySem.Spec PyProof.Rows
section
variable {sl sl' : Sl} {S S' : SS} {t : Tg} {v : Vl} {c : Str} {d : PyData} {i j k l n m : Nat} {f g h : FE} {fs gs : FS} {ga : FA} {ft gt : FT} {fi : FI}
@[simp] theorem ap_Rep : fRep f g sl S = bindE (f sl S) fun t v S1 => bindE (g sl S1) fun _ v2 S2 => (match t, v, v2 with
  | .fresh, .py (.list xs), .py (.int n) => if n ≤ 10000 ∧ -10000 ≤ n ∧ xs.length ≤ 9 then some (.val .fresh (.py (.list (List.replicate n.toNat xs).flatten)) S2) else none
  | _, _, _ => none) := rfl
@[simp] theorem ap_IsB {neg b : Bool} : fIsB neg b f sl S = bindE (f sl S) fun _ v S1 => some (.val .pure (.py (.bool (neg ^^ isBl b v))) S1) := rfl
@[simp] theorem isBl_b {b c : Bool} : isBl b (.py (.bool c)) = (c == b) := rfl
@[simp] theorem isBl_n {b : Bool} : isBl b (.py .none) = false := rfl
@[simp] theorem isBl_i {b : Bool} {i : Int} : isBl b (.py (.int i)) = false := rfl
@[simp] theorem isBl_s {b : Bool} {i : Str} : isBl b (.py (.str i)) = false := rfl
@[simp] theorem isBl_l {b : Bool} {i : List PyData} : isBl b (.py (.list i)) = false := rfl
@[simp] theorem isBl_t {b : Bool} {i : List PyData} : isBl b (.py (.tuple i)) = false := rfl
@[simp] theorem ap_Join : fJoin f g sl S = bindE (f sl S) fun _ v S1 => (match v with
  | .py (.str z) => bindE (g sl S1) fun _ v2 S2 => match v2 with
    | .py (.list ds) => match strsOf ds with
      | some ys => if (ys.map (·.length)).sum + ys.length * z.length ≤ LIM then some (.val .pure (.py (.str (Txt.join z ys))) S2) else none
      | none => none
    | _ => none
  | _ => none) := rfl
@[simp] theorem ap_Rev : fRev f sl S = bindE (f sl S) fun _ v S1 => (match cont S1 v with
  | some (.list ds) => some (.val .fresh (.py (.list ds.reverse)) S1)
  | _ => none) := rfl
@[simp] theorem ap_Disp {ks : List Str} : fDisp ks ga sl S = (match ga sl S with
  | some (.vals xs S1) => match pys xs with
    | some ds => if ks.Nodup ∧ ds.length = ks.length then some (.val .fresh (.py (.dict ((ks.map PyData.str).zip ds))) S1) else none
    | none => none
  | some (.exn c d S1) => some (.exn c d S1)
  | none => none) := rfl
@[simp] theorem ap_Dget : fDget f g sl S = bindE (f sl S) fun _ v1 S1 => bindE (g sl S1) fun _ v2 S2 =>
  (match cont S2 v1, v2 with
  | some (.dict kvs), .py y => match keyOf y with
    | some k => match lookK kvs k with
      | some d => some (.val .pure (.py d) S2)
      | none => none
    | none => none
  | _, _ => none) := rfl
@[simp] theorem ap_ForV : fForV i ga fs sl S = (match ga sl S with
  | some (.vals xs S1) => match argsOf xs with
    | some vs => if xs.length ≤ LIM ∧ vs.all noBox = true then forLoopV i fs vs sl S1 else none
    | none => none
  | _ => none) := rfl
@[simp] theorem forV_nil : forLoopV i fs [] sl S = some (.nx sl S) := rfl
@[simp] theorem ap_Par3 : fPar3 i j l ga sl S = (match ga sl S with
  | some (.vals xs S1) => match argsOf xs with
    | some [v1, v2, v3] => some (.nx (((sl.set i (.p v1)).set j (.p v2)).set l (.p v3)) S1)
    | _ => none
  | _ => none) := rfl
end
end PP
set_option Elab.async false
set_option linter.all false
set_option maxRecDepth 100000
set_option maxHeartbeats 4000000
namespace K02
open PySem PP
theorem hashK (n : Nat) : HashOk (sem (n + 1) 18) := hashOk
theorem randK (n : Nat) : RandOk (sem (n + 2) 21) := rand_ok (hashK n)
theorem cellK (n : Nat) : CellOk (sem (n + 1) 19) := cell_ok
theorem genK (n : Nat) : GenOk (sem (n + 2) 20) := gen_ok (cellK n)
theorem pickK (n : Nat) : PickOk (sem (n + 3) 22) := pick_ok (randK n)
theorem s_is_whole (n : Nat) (d : PyData) (S : SS) : sem (n+1) 0 [.py d] S = some (.val .pure (.py (.bool (isTy .int d && !isTy .bool d))) S) := by
  rw [sem_is_whole, funF1]
  simp [b_is_whole]
/-! ## the greatest common divisor -/
theorem absP_int {i : Int} : absP [.int i] = some (.pure, .int (i.natAbs : Nat)) := by
  show some (Tg.pure, PyData.int (if i < 0 then -i else i)) = _
  split <;> congr 3 <;> omega
def cW : FT := fTb (fBin (ltP fun i j => decide (j < i)) (fVar 1) (fC (.int (0))))
def cB : FS := fThen (fPar 0 1 (fVar 1) (fBin modP (fVar 0) (fVar 1))) fNil
theorem common_loop (S : SS) : ∀ (m a b g : Nat), whl m (a, b) = some g → whileLoop cW cB m [.p (.py (.int a)), .p (.py (.int b))] S = some (.nx [.p (.py (.int g)), .p (.py (.int 0))] S)
  | 0, _, _, _, h => by cases h
  | m + 1, a, b, g, h => by
    rw [whileLoop_succ]
    change (if 0 < b then whl m (b, a % b) else some a) = some g at h
    by_cases hb : 0 < b
    · rw [if_pos hb] at h
      have ih := common_loop S m b (a % b) g h
      have e1 : cW [.p (.py (.int a)), .p (.py (.int b))] S = some (.tb true S) := by
        simp [cW, hb]
      have em := modP_ok (i := (a : Int)) (j := (b : Int)) (by omega)
      have e2 : cB [.p (.py (.int a)), .p (.py (.int b))] S = some (.nx [.p (.py (.int b)), .p (.py (.int ((a % b : Nat) : Int)))] S) := by
        simp [cB, em]
      rw [e1]
      dsimp only
      rw [e2]
      exact ih
    · rw [if_neg hb] at h
      cases h
      have hb : b = 0 := by omega
      subst hb
      have e1 : cW [.p (.py (.int a)), .p (.py (.int ((0 : Nat) : Int)))] S = some (.tb false S) := by
        simp [cW]
      rw [e1]
      rfl
theorem ten_big : (2 : Nat) ^ 4501 ≤ 10 ^ 1400 := by decide +kernel
theorem s_common (n : Nat) {a b : Int} (hb : LG 4500 b) (S : SS) : sem (n + 1) 6 [.py (.int a), .py (.int b)] S = some (.val .pure (.py (.int (Int.gcd a b : Nat))) S) := by
  rw [sem_common_of, funF2]
  have hlt : b.natAbs < 10 ^ 1400 := Nat.lt_of_lt_of_le hb.lt ten_big
  have st := steps_enough a.natAbs b.natAbs 1400 hlt
  have h0 : (itr 19999 (a.natAbs, b.natAbs)).2 = 0 := by
    have split : ∀ (m k : Nat) (p : Nat × Nat), itr (m + k) p = itr k (itr m p) := by
      intro m
      induction m with
      | zero => intro k p; rw [Nat.zero_add]; rfl
      | succ m ih => intro k p; rw [Nat.succ_add]; exact ih k (stp p)
    rw [show 19999 = (5 * 1400 + 1) + 12998 by decide, split, st, itr_zero]
  have w := whl_of 19999 a.natAbs b.natAbs h0
  have lp := common_loop S 20000 a.natAbs b.natAbs _ w
  unfold b_common_of
  refine (congrArg outF (then_nx (sl' := [.p (.py (.int (a.natAbs : Nat))), .p (.py (.int (b.natAbs : Nat)))]) (S' := S) (by simp [absP_int]) (then_nx lp (then_rt (t := .pure) (v := .py (.int (Int.gcd a b : Nat))) (S' := S) (by simp [Int.gcd]))))).trans rfl
end K02
set_option Elab.async false
set_option linter.all false
set_option maxRecDepth 100000
set_option maxHeartbeats 4000000
namespace PP
open PySem L2 PySem.Spec PyProof.Rows
/-! ### _law_exact of a thing and itself -/
def g_exact (F : FF) : FS :=
    (fThen (fIfS (fTb (fIsi .dict (fVar 1))) (fThen (fRet (fAnd (fIsi .dict (fVar 0)) (fAnd (fBin eqP (fCall lenP (faCons (fVar 0) faNil)) (fCall lenP (faCons (fVar 1) faNil))) (fBin eqP (fLc (fiSeq (fVar 1)) (gNm 2) (fOrT (fTb (fDin true (fVar 2) (fVar 0))) (fNotT (fTb (fCallF 2 F (faCons (fDget (fVar 0) (fVar 2)) (faCons (fDget (fVar 1) (fVar 2)) faNil)))))) (fVar 2) [2]) (fLit .fresh (.list []))))))
    fNil) fNil)
    (fThen (fIfS (fTb (fIsi .list (fVar 1))) (fThen (fRet (fAnd (fIsi .list (fVar 0)) (fAnd (fBin eqP (fCall lenP (faCons (fVar 0) faNil)) (fCall lenP (faCons (fVar 1) faNil))) (fBin (inP true) (fC (.bool false)) (fLc (fiZip (faCons (fVar 0) (faCons (fVar 1) faNil))) (gTp 2 (gsCons (gNm 3) (gsCons (gNm 4) gsNil))) fYes (fCallF 2 F (faCons (fVar 3) (faCons (fVar 4) faNil))) [3, 4])))))
    fNil) fNil)
    (fThen (fIfS (fTb (fIsi .tuple (fVar 1))) (fThen (fRet (fAnd (fIsi .tuple (fVar 0)) (fAnd (fBin eqP (fCall lenP (faCons (fVar 0) faNil)) (fCall lenP (faCons (fVar 1) faNil))) (fBin (inP true) (fC (.bool false)) (fLc (fiZip (faCons (fVar 0) (faCons (fVar 1) faNil))) (gTp 2 (gsCons (gNm 3) (gsCons (gNm 4) gsNil))) fYes (fCallF 2 F (faCons (fVar 3) (faCons (fVar 4) faNil))) [3, 4])))))
    fNil) fNil)
    (fThen (fIfS (fTb (fIsN false (fVar 1))) (fThen (fRet (fIsN false (fVar 0)))
    fNil) fNil)
    (fThen (fIfS (fTb (fIsB false true (fVar 1))) (fThen (fRet (fIsB false true (fVar 0)))
    fNil) fNil)
    (fThen (fIfS (fTb (fIsB false false (fVar 1))) (fThen (fRet (fIsB false false (fVar 0)))
    fNil) fNil)
    (fThen (fIfS (fTb (fIsi .int (fVar 1))) (fThen (fRet (fAnd (fIsi .int (fVar 0)) (fAnd (fNot (fIsi .bool (fVar 0))) (fBin eqP (fVar 0) (fVar 1)))))
    fNil) fNil)
    (fThen (fRet (fAnd (fIsi .str (fVar 0)) (fBin eqP (fVar 0) (fVar 1))))
    fNil))))))))
theorem exact_fine {F : Nat → FF} (hF : ∀ n, F (n + 1) = funF 5 2 (g_exact (F n))) {k : Nat} {d : PyData} (h : Fine k d) : k ≤ 60 → ∀ (n : Nat) (S : SS), k + 1 ≤ n → F n [.py d, .py d] S = some (.val .pure (.py (.bool true)) S) := by
  have seq : ∀ (ds : List PyData) (S : SS) (n : Nat), ds.length ≤ LIM → (∀ d ∈ ds, F n [.py d, .py d] S = some (.val .pure (.py (.bool true)) S)) → ∀ (sl : Sl), 5 ≤ sl.length →
      lcLoop (gTp 2 (gsCons (gNm 3) (gsCons (gNm 4) gsNil))) fYes (fCallF 2 (F n) (faCons (fVar 3) (faCons (fVar 4) faNil))) sl (zipD ds ds) [] S = some ((zipD ds ds).map (fun _ => .bool true), S) := by
    intro ds S n hl hds sl h4
    have hz : (zipD ds ds).length = ds.length := by simp [zipD]
    refine lc_map (fun _ => .bool true) _ (fun p hp => ?_) (by rw [hz]; exact hl)
    unfold zipD at hp
    obtain ⟨⟨a, b⟩, hab, rfl⟩ := List.mem_map.mp hp
    have e : a = b ∧ a ∈ ds := by
      clear hp hl hz hds
      induction ds with
      | nil => cases hab
      | cons x r ih =>
        rw [List.zip_cons_cons] at hab
        rcases List.mem_cons.mp hab with q | q
        · cases q; exact ⟨rfl, List.mem_cons_self ..⟩
        · obtain ⟨e1, e2⟩ := ih q; exact ⟨e1, List.mem_cons_of_mem _ e2⟩
    obtain ⟨rfl, ha⟩ := e
    obtain ⟨x0, x1, x2, x3, x4, r, rfl⟩ : ∃ x0 x1 x2 x3 x4 r, sl = x0 :: x1 :: x2 :: x3 :: x4 :: r := match sl, h4 with
      | x0 :: x1 :: x2 :: x3 :: x4 :: r, _ => ⟨x0, x1, x2, x3, x4, r, rfl⟩
    refine ⟨x0 :: x1 :: x2 :: .p (.py a) :: .p (.py a) :: r, by simp, ?_⟩
    simp [hds a ha]
  have noF : ∀ ds : List PyData, inP true (.bool false) (.list ((zipD ds ds).map fun _ => PyData.bool true)) = some (.pure, .bool true) := by
    intro ds
    rw [inP_list (by
      unfold inOk
      rw [plainAll_of (by
        intro x hx
        obtain ⟨_, _, rfl⟩ := List.mem_map.mp hx
        rfl)]
      simp [PyData.plain, PyData.depth, DEEP])]
    have : (((zipD ds ds).map fun _ => PyData.bool true).any fun y => PyData.eqv y (.bool false)) = false := by
      rw [List.any_eq_false]
      intro x hx
      obtain ⟨_, _, rfl⟩ := List.mem_map.mp hx
      simp [PyData.eqv]
    rw [this]
    rfl
  induction h with
  | none =>
    intro _ n S hn
    obtain ⟨n, rfl⟩ : ∃ j, n = j + 1 := ⟨n - 1, by omega⟩
    rw [hF, funF2]
    simp [g_exact, isTy]
  | @bool k b =>
    intro _ n S hn
    obtain ⟨n, rfl⟩ : ∃ j, n = j + 1 := ⟨n - 1, by omega⟩
    rw [hF, funF2]
    cases b <;> simp [g_exact, isTy]
  | int =>
    intro _ n S hn
    obtain ⟨n, rfl⟩ : ∃ j, n = j + 1 := ⟨n - 1, by omega⟩
    rw [hF, funF2]
    simp [g_exact, isTy]
  | @str k s =>
    intro _ n S hn
    obtain ⟨n, rfl⟩ : ∃ j, n = j + 1 := ⟨n - 1, by omega⟩
    rw [hF, funF2]
    have := eqP_refl (k := 0) (a := .str s) .str (by omega)
    simp [g_exact, isTy, this]
  | @list k ds hl _ ih =>
    intro hk n S hn
    obtain ⟨n, rfl⟩ : ∃ j, n = j + 1 := ⟨n - 1, by omega⟩
    rw [hF, funF2]
    have q := seq ds S n hl fun d hd => ih d hd (by omega) n S (by omega)
    have q2 := noF ds
    simp [g_exact, isTy, q, q2, wipeSl]
  | @tuple k ds hl _ ih =>
    intro hk n S hn
    obtain ⟨n, rfl⟩ : ∃ j, n = j + 1 := ⟨n - 1, by omega⟩
    rw [hF, funF2]
    have q := seq ds S n hl fun d hd => ih d hd (by omega) n S (by omega)
    have q2 := noF ds
    simp [g_exact, isTy, q, q2, wipeSl]
/-! ### sizes of texts -/
def SgnOk (x : Str) : Prop := ∀ c ∈ x.cps.toList, c < 16 ^ 8
/-- things that are shown within m signs -/
inductive Shw : Nat → PyData → Prop
  | none {m : Nat} : 5 ≤ m → Shw m .none
  | bool {m : Nat} {b : Bool} : 5 ≤ m → Shw m (.bool b)
  | int {m k : Nat} {i : Int} : LG k i → k < 1900 → k + 3 ≤ m → Shw m (.int i)
  | str {m : Nat} {x : Str} : SgnOk x → 10 * x.length + 2 ≤ m → Shw m (.str x)
  | list {m k : Nat} {ds : List PyData} : (∀ d ∈ ds, Shw k d) → 3 + ds.length * (k + 2) ≤ m → Shw m (.list ds)
  | tuple {m k : Nat} {ds : List PyData} : (∀ d ∈ ds, Shw k d) → 3 + ds.length * (k + 2) ≤ m → Shw m (.tuple ds)
theorem joined_len (m : Nat) (ts : List Str) (h : ∀ t ∈ ts, t.length ≤ m) : (Str.join ", " ts).length ≤ ts.length * (m + 2) := by
  have hp : ∀ ts : List Str, (∀ t ∈ ts, t.length ≤ m) → piled ts ≤ ts.length * (m + 2) := by
    intro ts h
    induction ts with
    | nil => simp [piled]
    | cons t r ih =>
      have h1 := h t (List.mem_cons_self ..)
      have h2 := ih fun x hx => h x (List.mem_cons_of_mem _ hx)
      simp only [piled, List.map_cons, List.sum_cons, List.length_cons] at *
      rw [Nat.add_mul]
      omega
  by_cases hn : ts = []
  · subst hn; simp [Str.join]; decide +kernel
  · have := join_length_add ts hn
    have := hp ts h
    omega
theorem tuple_len2 (m : Nat) (ts : List Str) (h : ∀ t ∈ ts, t.length ≤ m) : (tupleText ts).length ≤ 3 + ts.length * (m + 2) := by
  have hj := joined_len m ts h
  unfold tupleText
  rw [strLen_append, strLen_append]
  have l1 : (Str.ofString "(").length = 1 := by decide +kernel
  have l2 : (Str.ofString ",)").length = 2 := by decide +kernel
  have l3 : (Str.ofString ")").length = 1 := by decide +kernel
  split <;> simp only [l1, l2, l3] <;> omega
theorem sum_len (m : Nat) : ∀ ts : List Str, (∀ t ∈ ts, t.length ≤ m) → (ts.map (·.length)).sum ≤ ts.length * m
  | [], _ => by simp
  | t :: ts, h => by
    have := sum_len m ts fun x hx => h x (List.mem_cons_of_mem _ hx)
    have h0 := h t (List.mem_cons_self ..)
    simp only [List.map_cons, List.sum_cons, List.length_cons, Nat.add_mul]
    omega
theorem list_len2 (m : Nat) (ts : List Str) (h : ∀ t ∈ ts, t.length ≤ m) : (listText ts).length ≤ 3 + ts.length * (m + 2) := by
  have hs := sum_len m ts h
  have ht := textFrom_len_le ts 0 (Str.ofString "[")
  unfold listText
  rw [strLen_append]
  have l1 : (Str.ofString "[").length = 1 := by decide +kernel
  have l3 : (Str.ofString "]").length = 1 := by decide +kernel
  rw [Nat.mul_add]
  omega
theorem shownAll_map : ∀ ds : List PyData, PyData.shownAll ds = ds.map PyData.shown
  | [] => rfl
  | d :: ds => by rw [PyData.shownAll, List.map_cons, shownAll_map ds]
theorem showableAll_of : ∀ {ds : List PyData}, (∀ d ∈ ds, d.showable = true) → PyData.showableAll ds = true
  | [], _ => rfl
  | d :: ds, h => by
    rw [PyData.showableAll, h d (List.mem_cons_self ..), showableAll_of fun x hx => h x (List.mem_cons_of_mem _ hx)]
    rfl
theorem hasDictAll_of : ∀ {ds : List PyData}, (∀ d ∈ ds, d.hasDict = false) → PyData.hasDictAll ds = false
  | [], _ => rfl
  | d :: ds, h => by
    rw [PyData.hasDictAll, h d (List.mem_cons_self ..), hasDictAll_of fun x hx => h x (List.mem_cons_of_mem _ hx)]
    rfl
theorem Shw.out {m : Nat} {d : PyData} (h : Shw m d) : d.shown.length ≤ m ∧ d.showable = true ∧ d.hasDict = false := by
  induction h with
  | @none m l =>
    refine ⟨?_, rfl, rfl⟩
    have : (PyData.none.shown).length = 4 := by decide +kernel
    omega
  | @bool m b l =>
    refine ⟨?_, rfl, rfl⟩
    have : (PyData.bool b).shown.length ≤ 5 := by cases b <;> decide +kernel
    omega
  | @int m k i hl hk l =>
    refine ⟨?_, ?_, rfl⟩
    · have h1 : (toString i).length ≤ k + 2 := int_text_length_le (k := k + 1) (by omega) (Nat.lt_succ_of_le hl)
      have h2 : (PyData.int i).shown.length = (toString i).length := by
        show (Str.ofString (toString i)).length = _
        exact PySem.ofString_length _
      omega
    · rw [PyData.showable]
      exact decide_eq_true (by unfold LG at hl; omega)
  | @str m x hs l =>
    refine ⟨?_, rfl, rfl⟩
    have := StrLaws.reprText_len x hs
    rw [PyData.shown]
    omega
  | @list m k ds _ l ih =>
    refine ⟨?_, ?_, ?_⟩
    · rw [PyData.shown, shownAll_map]
      have := list_len2 k (ds.map PyData.shown) (by
        intro t ht
        obtain ⟨d, hd, rfl⟩ := List.mem_map.mp ht
        exact (ih d hd).1)
      rw [List.length_map] at this
      omega
    · rw [PyData.showable]; exact showableAll_of fun d hd => (ih d hd).2.1
    · rw [PyData.hasDict]; exact hasDictAll_of fun d hd => (ih d hd).2.2
  | @tuple m k ds _ l ih =>
    refine ⟨?_, ?_, ?_⟩
    · rw [PyData.shown, shownAll_map]
      have := tuple_len2 k (ds.map PyData.shown) (by
        intro t ht
        obtain ⟨d, hd, rfl⟩ := List.mem_map.mp ht
        exact (ih d hd).1)
      rw [List.length_map] at this
      omega
    · rw [PyData.showable]; exact showableAll_of fun d hd => (ih d hd).2.1
    · rw [PyData.hasDict]; exact hasDictAll_of fun d hd => (ih d hd).2.2
theorem Shw.mono {m k : Nat} {d : PyData} (h : Shw m d) (l : m ≤ k) : Shw k d := by
  cases h with
  | none q => exact .none (by omega)
  | bool q => exact .bool (by omega)
  | int a b c => exact .int a b (by omega)
  | str a b => exact .str a (by omega)
  | list a b => exact .list a (by omega)
  | tuple a b => exact .tuple a (by omega)
theorem repr2_of {m k : Nat} {d : PyData} (h : Shw m d) (f : Fine k d) (hm : m ≤ 100000) (hk : k ≤ 60) : repr2P [d] = some (.pure, .str d.shown) := by
  obtain ⟨a, b, c⟩ := h.out
  have := f.depth
  refine if_pos ?_
  unfold reprOk2
  rw [b, c]
  simp only [Bool.true_and, Bool.not_false, Bool.true_or, Bool.and_true, Bool.and_eq_true, decide_eq_true_eq]
  exact ⟨by simp only [DEEP]; omega, by rw [LIM_eq]; omega⟩
end PP
set_option Elab.async false
set_option linter.all false
set_option maxRecDepth 100000
set_option maxHeartbeats 4000000
namespace K02
open PySem PP
def tw (p : Int × Int) : PyData := .tuple [.int p.1, .int p.2]
theorem LG.gcd {a b : Int} {k : Nat} (h : b ≠ 0) (hb : LG k b) : LG k (Int.gcd a b : Nat) := by
  refine .of_lt ?_
  have h1 : Int.gcd a b ≤ b.natAbs := Nat.le_of_dvd (by omega) (Int.gcd_dvd_natAbs_right ..)
  have h2 := hb.lt
  rw [Int.natAbs_natCast]
  exact Nat.lt_of_le_of_lt h1 h2
theorem fdiv_neg_of {a g : Int} (hg : g ≠ 0) (h : g ∣ a) : a.fdiv (-g) = (-a) / g := by
  obtain ⟨k, rfl⟩ := h
  have e1 : g * k = (-g) * (-k) := by rw [Int.neg_mul_neg]
  have e2 : -(g * k) = g * (-k) := by rw [Int.mul_neg]
  rw [e2, Int.mul_ediv_cancel_left _ hg]
  rw [e1, Int.mul_fdiv_cancel_left _ (by omega)]
theorem frc_pos {a b : Int} (h : 0 < b) : frc a b = low a b := by unfold frc; rw [if_neg (by omega)]
theorem frc_neg {a b : Int} (h : b < 0) : frc a b = ((-a) / (Int.gcd a b : Int), (-b) / (Int.gcd a b : Int)) := by
  unfold frc low
  rw [if_pos h, Int.gcd_neg, Int.neg_gcd]
theorem s_lowest (n : Nat) {a b : Int} (h0 : b ≠ 0) (hb : LG 4500 b) (S : SS) : sem (n + 2) 9 [.py (.int a), .py (.int b)] S = some (.val .pure (.py (tw (frc a b))) S) := by
  rw [sem_lowest_of, funF2]
  have ec := s_common n (a := a) hb S
  have g0 := gcd_pos (a := a) h0
  have lg := LG.gcd (a := a) h0 hb
  have da : (Int.gcd a b : Int) ∣ a := Int.gcd_dvd_left ..
  have db : (Int.gcd a b : Int) ∣ b := Int.gcd_dvd_right ..
  by_cases hn : b < 0
  · have f1 : ∀ i : Int, fdivZP (.int i) (.int (-(Int.gcd a b : Int))) = some (.pure, .int (i.fdiv (-(Int.gcd a b : Int)))) := fun i => if_pos ⟨by omega, by
      rw [Int.natAbs_neg]; exact Nat.lt_of_le_of_lt lg (by decide)⟩
    have e1 := fdiv_neg_of (by omega) da
    have e2 := fdiv_neg_of (by omega) db
    simp [b_lowest_of, ec, hn, f1, frc_neg hn, tw, e1, e2]
  · have f1 : ∀ i : Int, fdivZP (.int i) (.int (Int.gcd a b : Int)) = some (.pure, .int (i.fdiv (Int.gcd a b : Int))) := fun i => if_pos ⟨by omega, Nat.lt_of_le_of_lt lg (by decide)⟩
    have e1 : a.fdiv (Int.gcd a b : Int) = a / (Int.gcd a b : Int) := Int.fdiv_eq_ediv_of_nonneg _ (by omega)
    have e2 : b.fdiv (Int.gcd a b : Int) = b / (Int.gcd a b : Int) := Int.fdiv_eq_ediv_of_nonneg _ (by omega)
    simp [b_lowest_of, ec, hn, f1, frc_pos (a := a) (show 0 < b by omega), tw, low, e1, e2]
theorem s_fraction_of (n : Nat) {a b : Int} (h0 : b ≠ 0) (hb : LG 4500 b) (S : SS) : sem (n + 3) 10 [.py (.int a), .py (.int b)] S = some (.val .pure (.py (tw (frc a b))) S) := by
  rw [sem_fraction_of, funF2]
  have e := s_lowest n (a := a) h0 hb S
  simp [b_fraction_of, s_is_whole, isTy, h0, e]
/-! ## the law's own -/
theorem str_len (m : Nat) : (Str.ofString (toString ((m : Nat) : Int))).length = (Nat.toDigits 10 m).length := by
  have e : toString ((m : Nat) : Int) = String.ofList (Nat.toDigits 10 m) := by
    show Int.repr (Int.ofNat m) = _
    show Nat.repr m = _
    exact Nat.repr_eq_ofList_toDigits
  rw [e, Str.ofString_eq_toList]
  simp [Str.length]
theorem digits_lt (m : Nat) : m < 10 ^ (Nat.toDigits 10 m).length := (Nat.length_toDigits_le_iff (by decide) (Nat.length_toDigits_pos)).mp (Nat.le_refl _)
theorem digits_le {m : Nat} (h : m < 10 ^ 1400) : (Nat.toDigits 10 m).length ≤ 1400 := (Nat.length_toDigits_le_iff (by decide) (by decide)).mpr h
def lB : FS := fThen (fAsg (fIf (fTb (fBin (ltP fun i j => decide (j < i)) (fVar 3) (fC (.int (0))))) (fSeq .tuple .pure (faCons (fVar 3) (faCons (fBin modP (fVar 2) (fVar 3)) faNil))) (fSeq .tuple .pure (faCons (fVar 2) (faCons (fC (.int (0))) faNil)))) (gTp 2 (gsCons (gNm 2) (gsCons (gNm 3) gsNil)))) fNil
theorem lB_ok (A B x : Slot) (a b : Nat) (S : SS) : lB [A, B, .p (.py (.int a)), .p (.py (.int b)), x] S = some (.nx [A, B, .p (.py (.int (stp (a, b)).1)), .p (.py (.int (stp (a, b)).2)), x] S) := by
  unfold stp
  by_cases h : 0 < b
  · have em := modP_ok (i := (a : Int)) (j := (b : Int)) (by omega)
    simp [lB, h, em]
  · simp [lB, h]
theorem lLoop (A B : Slot) (S : SS) : ∀ (ds : List PyData) (a b : Nat) (x : Slot), ∃ y, forLoop (gNm 4) lB ds [A, B, .p (.py (.int a)), .p (.py (.int b)), x] S = some (.nx [A, B, .p (.py (.int (itr ds.length (a, b)).1)), .p (.py (.int (itr ds.length (a, b)).2)), y] S)
  | [], a, b, x => ⟨x, rfl⟩
  | d :: ds, a, b, x => by
    obtain ⟨y, h⟩ := lLoop A B S ds (stp (a, b)).1 (stp (a, b)).2 (.p (.py d))
    refine ⟨y, ?_⟩
    rw [for_cons]
    have e : gNm 4 d [A, B, .p (.py (.int a)), .p (.py (.int b)), x] = some [A, B, .p (.py (.int a)), .p (.py (.int b)), .p (.py d)] := rfl
    rw [e]
    dsimp only
    rw [lB_ok]
    exact h
theorem s_low (n : Nat) {a b : Int} (h0 : 0 < b) (hb : LG 4500 b) (S : SS) : sem (n + 1) 26 [.py (.int a), .py (.int b)] S = some (.val .pure (.py (tw (low a b))) S) := by
  obtain ⟨m, rfl⟩ := Int.eq_ofNat_of_zero_le (Int.le_of_lt h0)
  rw [sem__law_low, funF2]
  have hm : m < 10 ^ 1400 := by
    have := Nat.lt_of_lt_of_le hb.lt ten_big
    rwa [Int.natAbs_natCast] at this
  have d0 := digits_lt m
  have d1 := digits_le hm
  have es : strZP [.int ((m : Nat) : Int)] = some (.pure, .str (Str.ofString (toString ((m : Nat) : Int)))) := if_pos (Nat.lt_of_le_of_lt hb (by decide))
  have el : lenP [.str (Str.ofString (toString ((m : Nat) : Int)))] = some (.pure, .int ((Nat.toDigits 10 m).length : Nat)) := by
    have h := str_len m
    show (if (Str.ofString (toString ((m : Nat) : Int))).length ≤ LIM then some (Tg.pure, PyData.int ((Str.ofString (toString ((m : Nat) : Int))).length : Nat)) else none) = _
    rw [h, if_pos (by simp only [LIM_eq]; omega)]
  generalize (Nat.toDigits 10 m).length = d at d0 d1 el
  generalize Str.ofString (toString ((m : Nat) : Int)) = z at es el
  have em := mulP_ok (i := (d : Int)) (j := 5) (k := 40) (m := 40) (.of_lt (by omega)) (.of_lt (by decide)) (by decide)
  have hr : rgOk ((d : Int) * 5 + 1) = true := rgOk_of (by omega) (by omega)
  have hlen : (rng 0 ((d : Int) * 5 + 1).toNat).length = 5 * d + 1 := by
    unfold rng
    rw [List.length_map, List.length_range]
    omega
  obtain ⟨y, hl⟩ := lLoop (.p (.py (.int a))) (.p (.py (.int ((m : Nat) : Int)))) S (rng 0 ((d : Int) * 5 + 1).toNat) a.natAbs m .un
  rw [hlen, steps_enough a.natAbs m d d0] at hl
  have g0 := gcd_pos (a := a) (b := (m : Int)) (by omega)
  have lg := LG.gcd (a := a) (b := (m : Int)) (by omega) hb
  have eg : Nat.gcd a.natAbs m = Int.gcd a m := rfl
  rw [eg] at hl
  have f1 := fun i => fdivP_ok (i := i) (show (0 : Int) < (Int.gcd a m : Nat) by omega) lg (by decide)
  unfold b__law_low
  refine (congrArg outF (then_nx (sl' := [.p (.py (.int a)), .p (.py (.int ((m : Nat) : Int))), .p (.py (.int (a.natAbs : Nat))), .p (.py (.int (m : Nat))), .un]) (S' := S) (by simp [absP_int]) (then_nx (for_nx (ds := rng 0 ((d : Int) * 5 + 1).toNat) (S1 := S) ?_ hl) (then_rt (t := .pure) (v := .py (tw (low a (m : Int)))) (S' := S) (by simp [f1, tw, low]))))).trans rfl
  simp [es, el, em, hr]
theorem s_frac (n : Nat) {a b : Int} (h0 : b ≠ 0) (hb : LG 4500 b) (S : SS) : sem (n + 2) 36 [.py (.int a), .py (.int b)] S = some (.val .pure (.py (tw (frc a b))) S) := by
  rw [sem__law_fraction, funF2]
  by_cases hn : b < 0
  · have hb' : LG 4500 (-b) := by unfold LG at *; rwa [Int.natAbs_neg]
    have e := s_low n (a := -a) (b := -b) (by omega) hb' S
    have hp := low_pos (a := -a) (b := -b) (by omega)
    simp [b__law_fraction, hn, e, tw, frc, hp]
  · have e := s_low n (a := a) (b := b) (by omega) hb S
    have hp := low_pos (a := a) (b := b) (by omega)
    simp [b__law_fraction, hn, e, tw, frc, hp]
end K02
set_option Elab.async false
set_option linter.all false
set_option maxRecDepth 100000
set_option maxHeartbeats 4000000
namespace K02
open PySem PP
/-! ## what is a fraction -/
def isFr : PyData → Bool
  | .tuple [.int a, .int b] => decide (0 < b) && decide (Int.gcd a b = 1)
  | _ => false
def Sized (d : PyData) : Prop := ∀ a b : Int, d = .tuple [.int a, .int b] → LG 4500 b
theorem len3 {α : Type} (r : List α) : ¬ ((r.length : Int) + 1 + 1 + 1 = 2) := by omega
theorem s_is_fraction (n : Nat) {d : PyData} (h : Sized d) (S : SS) : sem (n + 2) 7 [.py d] S = some (.val .pure (.py (.bool (isFr d))) S) := by
  rw [sem_is_fraction, funF1]
  cases d with
  | tuple ds =>
    match ds, h with
    | [], _ => simp [b_is_fraction, isTy, isFr]
    | [x], _ => simp [b_is_fraction, isTy, isFr]
    | x :: y :: z :: r, _ => simp [b_is_fraction, isTy, isFr, len3]
    | [x, y], h =>
      cases x <;> try (simp [b_is_fraction, isTy, isFr, s_is_whole]; done)
      cases y <;> try (simp [b_is_fraction, isTy, isFr, s_is_whole]; done)
      rename_i a b
      have e := s_common n (a := a) (h a b rfl) S
      by_cases h1 : 1 ≤ b
      · have h2 : 0 < b := by omega
        simp [b_is_fraction, isTy, isFr, s_is_whole, e, h1, h2]
        omega
      · have h2 : ¬ 0 < b := by omega
        simp [b_is_fraction, isTy, isFr, s_is_whole, e, h1, h2]
  | _ => simp [b_is_fraction, isTy, isFr]
theorem s_check_fraction (n : Nat) {d : PyData} (h : Sized d) (S : SS) : sem (n + 3) 8 [.py d] S = if isFr d = true then some (.val .pure (.py .none) S) else some (.exn "InvalidFraction" d S) := by
  rw [sem_check_fraction, funF1]
  have e := s_is_fraction n h S
  by_cases q : isFr d = true <;> simp [b_check_fraction, e, q]
theorem s_check_list (n : Nat) (d : PyData) (S : SS) : sem (n + 1) 5 [.py d] S = if isTy .list d = true then some (.val .pure (.py .none) S) else some (.exn "InvalidList" d S) := by
  rw [sem_check_list, funF1]
  by_cases q : isTy .list d = true <;> simp [b_check_list, q]
def cfB (L : Nat → FF) : FS := fThen (fDrop (fCallF 1 (L 8) (faCons (fVar 1) faNil))) fNil
theorem ck_good (n : Nat) (A : Slot) (S : SS) : ∀ (ds : List PyData) (x : Slot), (∀ d ∈ ds, Sized d ∧ isFr d = true) → ∃ y, forLoop (gNm 1) (cfB (sem (n + 3))) ds [A, x] S = some (.nx [A, y] S)
  | [], x, _ => ⟨x, rfl⟩
  | d :: ds, x, h => by
    obtain ⟨h1, h2⟩ := h d (List.mem_cons_self ..)
    obtain ⟨y, e⟩ := ck_good n A S ds (.p (.py d)) fun d hd => h d (List.mem_cons_of_mem _ hd)
    refine ⟨y, ?_⟩
    rw [for_cons]
    have e1 : gNm 1 d [A, x] = some [A, .p (.py d)] := rfl
    have e2 : cfB (sem (n + 3)) [A, .p (.py d)] S = some (.nx [A, .p (.py d)] S) := by
      have := s_check_fraction n h1 S
      rw [if_pos h2] at this
      simp [cfB, this]
    rw [e1]
    dsimp only
    rw [e2]
    exact e
theorem ck_bad (n : Nat) (A : Slot) (S : SS) (b : PyData) (r : List PyData) (hb : Sized b) (hf : isFr b = false) : ∀ (ds : List PyData) (x : Slot), (∀ d ∈ ds, Sized d ∧ isFr d = true) → ∃ sl, forLoop (gNm 1) (cfB (sem (n + 3))) (ds ++ b :: r) [A, x] S = some (.exn "InvalidFraction" b sl S)
  | [], x, _ => by
    refine ⟨[A, .p (.py b)], ?_⟩
    rw [List.nil_append, for_cons]
    have e1 : gNm 1 b [A, x] = some [A, .p (.py b)] := rfl
    have e2 : cfB (sem (n + 3)) [A, .p (.py b)] S = some (.exn "InvalidFraction" b [A, .p (.py b)] S) := by
      have := s_check_fraction n hb S
      rw [if_neg (by rw [hf]; exact Bool.false_ne_true)] at this
      simp [cfB, this]
    rw [e1]
    dsimp only
    rw [e2]
  | d :: ds, x, h => by
    obtain ⟨h1, h2⟩ := h d (List.mem_cons_self ..)
    obtain ⟨y, e⟩ := ck_bad n A S b r hb hf ds (.p (.py d)) fun d hd => h d (List.mem_cons_of_mem _ hd)
    refine ⟨y, ?_⟩
    rw [List.cons_append, for_cons]
    have e1 : gNm 1 d [A, x] = some [A, .p (.py d)] := rfl
    have e2 : cfB (sem (n + 3)) [A, .p (.py d)] S = some (.nx [A, .p (.py d)] S) := by
      have := s_check_fraction n h1 S
      rw [if_pos h2] at this
      simp [cfB, this]
    rw [e1]
    dsimp only
    rw [e2]
    exact e
theorem s_checks_good (n : Nat) {ds : List PyData} (h : ∀ d ∈ ds, Sized d ∧ isFr d = true) (S : SS) : sem (n + 4) 14 [.py (.list ds)] S = some (.val .pure (.py .none) S) := by
  rw [sem_check_fractions, funF1]
  obtain ⟨y, e⟩ := ck_good n (.p (.py (.list ds))) S ds .un h
  have el := s_check_list (n + 2) (.list ds) S
  unfold b_check_fractions
  refine (congrArg outF (then_nx (sl' := [.p (.py (.list ds)), .un]) (S' := S) (by simp [el, isTy]) (then_nx (for_nx (ds := ds) (S1 := S) (by simp) e) rfl))).trans rfl
theorem s_checks_bad (n : Nat) {ds r : List PyData} {b : PyData} (hb : Sized b) (hf : isFr b = false) (h : ∀ d ∈ ds, Sized d ∧ isFr d = true) (S : SS) : sem (n + 4) 14 [.py (.list (ds ++ b :: r))] S = some (.exn "InvalidFraction" b S) := by
  rw [sem_check_fractions, funF1]
  obtain ⟨sl, e⟩ := ck_bad n (.p (.py (.list (ds ++ b :: r)))) S b r hb hf ds .un h
  have el := s_check_list (n + 2) (.list (ds ++ b :: r)) S
  have e2 : fFor (fiSeq (fVar 0)) (gNm 1) (cfB (sem (n + 3))) [.p (.py (.list (ds ++ b :: r))), .un] S = some (.exn "InvalidFraction" b sl S) := by
    unfold fFor
    have : fiSeq (fVar 0) [.p (.py (.list (ds ++ b :: r))), .un] S = some (ds ++ b :: r, S) := by simp
    rw [this]
    exact e
  unfold b_check_fractions
  refine (congrArg outF (then_nx (sl' := [.p (.py (.list (ds ++ b :: r))), .un]) (S' := S) (by simp [el, isTy]) (then_exn e2))).trans rfl
theorem s_checks_not (n : Nat) {d : PyData} (h : isTy .list d = false) (S : SS) : sem (n + 2) 14 [.py d] S = some (.exn "InvalidList" d S) := by
  rw [sem_check_fractions, funF1]
  have el := s_check_list n d S
  simp [b_check_fractions, el, h]
/-! ## fractions of bounded size -/
structure Fq (k : Nat) (p : Int × Int) : Prop where
  pos : 0 < p.2
  low : Int.gcd p.1 p.2 = 1
  s1 : LG k p.1
  s2 : LG k p.2
theorem Fq.mono {k m : Nat} {p : Int × Int} (h : Fq k p) (l : k ≤ m) : Fq m p := ⟨h.pos, h.low, h.s1.mono l, h.s2.mono l⟩
theorem Fq.fr {k : Nat} {p : Int × Int} (h : Fq k p) : isFr (tw p) = true := by
  unfold tw isFr
  simp [h.pos, h.low]
theorem Fq.sized {k : Nat} {p : Int × Int} (h : Fq k p) (l : k ≤ 4500) : Sized (tw p) := by
  intro a b e
  unfold tw at e
  simp only [PyData.tuple.injEq, List.cons.injEq, PyData.int.injEq, and_true] at e
  rw [← e.2]
  exact h.s2.mono l
theorem LG.ediv {k : Nat} {a g : Int} (h : LG k a) (hg : 0 < g) (d : g ∣ a) : LG k (a / g) := by
  obtain ⟨c, rfl⟩ := d
  rw [Int.mul_ediv_cancel_left _ (by omega)]
  refine .of_lt (Nat.lt_of_le_of_lt ?_ h.lt)
  rw [Int.natAbs_mul]
  exact Nat.le_mul_of_pos_left _ (by omega)
theorem LG.neg {k : Nat} {a : Int} (h : LG k a) : LG k (-a) := by unfold LG at *; rwa [Int.natAbs_neg]
theorem low_fq {k : Nat} {a b : Int} (h : 0 < b) (ha : LG k a) (hb : LG k b) : Fq k (low a b) := by
  have g := gcd_pos (a := a) (b := b) (by omega)
  exact ⟨low_pos h, low_gcd (by omega), LG.ediv ha (by omega) (Int.gcd_dvd_left ..), LG.ediv hb (by omega) (Int.gcd_dvd_right ..)⟩
theorem frc_fq {k : Nat} {a b : Int} (h : b ≠ 0) (ha : LG k a) (hb : LG k b) : Fq k (frc a b) := by
  unfold frc
  by_cases hn : b < 0
  · rw [if_pos hn]
    exact low_fq (by omega) (LG.neg ha) (LG.neg hb)
  · rw [if_neg hn]
    exact low_fq (by omega) ha hb
def plus (p q : Int × Int) : Int × Int := frc (p.1 * q.2 + q.1 * p.2) (p.2 * q.2)
def times (p q : Int × Int) : Int × Int := frc (p.1 * q.1) (p.2 * q.2)
theorem plus_lg {k m : Nat} {p q : Int × Int} (h : Fq k p) (g : Fq m q) : LG (k + m + 2) (p.1 * q.2 + q.1 * p.2) ∧ LG (k + m + 2) (p.2 * q.2) ∧ p.2 * q.2 ≠ 0 := by
  refine ⟨((h.s1.mul g.s2).add (g.s1.mul h.s2)).mono (by omega), (h.s2.mul g.s2).mono (by omega), ?_⟩
  have := Int.mul_pos h.pos g.pos
  omega
theorem times_lg {k m : Nat} {p q : Int × Int} (h : Fq k p) (g : Fq m q) : LG (k + m + 2) (p.1 * q.1) ∧ LG (k + m + 2) (p.2 * q.2) ∧ p.2 * q.2 ≠ 0 := by
  refine ⟨(h.s1.mul g.s1).mono (by omega), (h.s2.mul g.s2).mono (by omega), ?_⟩
  have := Int.mul_pos h.pos g.pos
  omega
theorem plus_fq {k m : Nat} {p q : Int × Int} (h : Fq k p) (g : Fq m q) : Fq (k + m + 2) (plus p q) := let ⟨a, b, c⟩ := plus_lg h g; frc_fq c a b
theorem times_fq {k m : Nat} {p q : Int × Int} (h : Fq k p) (g : Fq m q) : Fq (k + m + 2) (times p q) := let ⟨a, b, c⟩ := times_lg h g; frc_fq c a b
theorem s_plus (n : Nat) {k m : Nat} {p q : Int × Int} (h : Fq k p) (g : Fq m q) (l : k + m + 2 ≤ 4500) (S : SS) : sem (n + 3) 11 [.py (tw p), .py (tw q)] S = some (.val .pure (.py (tw (plus p q))) S) := by
  obtain ⟨a, b, c⟩ := plus_lg h g
  have e := s_lowest n (a := p.1 * q.2 + q.1 * p.2) c (b.mono l) S
  have e1 := mulP_ok h.s1 g.s2 (by omega)
  have e2 := mulP_ok g.s1 h.s2 (by omega)
  have e3 := mulP_ok h.s2 g.s2 (by omega)
  rw [sem_plus_of, funF2]
  unfold tw at *
  simp [b_plus_of, e1, e2, e3, e, plus]
theorem s_times (n : Nat) {k m : Nat} {p q : Int × Int} (h : Fq k p) (g : Fq m q) (l : k + m + 2 ≤ 4500) (S : SS) : sem (n + 3) 12 [.py (tw p), .py (tw q)] S = some (.val .pure (.py (tw (times p q))) S) := by
  obtain ⟨a, b, c⟩ := times_lg h g
  have e := s_lowest n (a := p.1 * q.1) c (b.mono l) S
  have e1 := mulP_ok h.s1 g.s1 (by omega)
  have e3 := mulP_ok h.s2 g.s2 (by omega)
  rw [sem_times_of, funF2]
  unfold tw at *
  simp [b_times_of, e1, e3, e, times]
/-! ## sums, products -/
theorem fold_fq {op : Int × Int → Int × Int → Int × Int} (hop : ∀ {k m : Nat} {p q : Int × Int}, Fq k p → Fq m q → Fq (k + m + 2) (op p q)) {m : Nat} : ∀ (ps : List (Int × Int)) (k : Nat) (t : Int × Int), (∀ p ∈ ps, Fq m p) → Fq k t → Fq (k + ps.length * (m + 2)) (ps.foldl op t)
  | [], k, t, _, h => h.mono (by simp)
  | p :: ps, k, t, hp, h => by
    have := fold_fq hop ps _ _ (fun q hq => hp q (List.mem_cons_of_mem _ hq)) (hop h (hp p (List.mem_cons_self ..)))
    rw [List.foldl_cons]
    exact this.mono (by rw [List.length_cons, Nat.add_mul]; omega)
def sB (L : Nat → FF) (i : Nat) : FS := fThen (fSet 1 (fCallF 2 (L i) (faCons (fVar 1) (faCons (fVar 2) faNil)))) fNil
theorem sLoop {op : Int × Int → Int × Int → Int × Int} {L : Nat → FF} {i : Nat} (hop : ∀ {k m : Nat} {p q : Int × Int}, Fq k p → Fq m q → Fq (k + m + 2) (op p q))
    (hs : ∀ {k m : Nat} {p q : Int × Int} (S : SS), Fq k p → Fq m q → k + m + 2 ≤ 4500 → L i [.py (tw p), .py (tw q)] S = some (.val .pure (.py (tw (op p q))) S)) (A : Slot) (S : SS) {m : Nat} :
    ∀ (ps : List (Int × Int)) (k : Nat) (t : Int × Int) (x : Slot), (∀ p ∈ ps, Fq m p) → Fq k t → k + ps.length * (m + 2) ≤ 4500 → ∃ y, forLoop (gNm 2) (sB L i) (ps.map tw) [A, .p (.py (tw t)), x] S = some (.nx [A, .p (.py (tw (ps.foldl op t))), y] S)
  | [], k, t, x, _, _, _ => ⟨x, rfl⟩
  | p :: ps, k, t, x, hp, h, l => by
    have hl : k + m + 2 + ps.length * (m + 2) ≤ 4500 := by rw [List.length_cons, Nat.add_mul] at l; omega
    have p0 := hp p (List.mem_cons_self ..)
    obtain ⟨y, e⟩ := sLoop hop hs A S ps _ _ (.p (.py (tw p))) (fun q hq => hp q (List.mem_cons_of_mem _ hq)) (hop h p0) hl
    refine ⟨y, ?_⟩
    rw [List.map_cons, for_cons]
    have e1 : gNm 2 (tw p) [A, .p (.py (tw t)), x] = some [A, .p (.py (tw t)), .p (.py (tw p))] := rfl
    have e2 : sB L i [A, .p (.py (tw t)), .p (.py (tw p))] S = some (.nx [A, .p (.py (tw (op t p))), .p (.py (tw p))] S) := by
      have := hs S h p0 (by omega)
      simp [sB, this]
    rw [e1]
    dsimp only
    rw [e2]
    exact e
theorem fq01 : Fq 0 ((0, 1) : Int × Int) := ⟨by decide, by decide, .of_lt (by decide), .of_lt (by decide)⟩
theorem fq11 : Fq 0 ((1, 1) : Int × Int) := ⟨by decide, by decide, .of_lt (by decide), .of_lt (by decide)⟩
theorem good_of {m : Nat} {ps : List (Int × Int)} (h : ∀ p ∈ ps, Fq m p) (l : m ≤ 4500) : ∀ d ∈ ps.map tw, Sized d ∧ isFr d = true := by
  intro d hd
  obtain ⟨p, hp, rfl⟩ := List.mem_map.mp hd
  exact ⟨(h p hp).sized l, (h p hp).fr⟩
theorem s_sum (n : Nat) {m : Nat} {ps : List (Int × Int)} (h : ∀ p ∈ ps, Fq m p) (hm : m ≤ 4500) (l : ps.length * (m + 2) ≤ 4500) (S : SS) : sem (n + 5) 15 [.py (.list (ps.map tw))] S = some (.val .pure (.py (tw (ps.foldl plus (0, 1)))) S) := by
  rw [sem_sum_of, funF1]
  have ec := s_checks_good n (good_of h hm) S
  obtain ⟨y, e⟩ := sLoop (op := plus) (L := sem (n + 4)) (i := 11) plus_fq (fun S h g l => s_plus (n + 1) h g l S) (.p (.py (.list (ps.map tw)))) S ps 0 (0, 1) .un h fq01 (by omega)
  unfold b_sum_of
  refine (congrArg outF (then_nx (sl' := [.p (.py (.list (ps.map tw))), .un, .un]) (S' := S) (by simp [ec]) (then_nx (sl' := [.p (.py (.list (ps.map tw))), .p (.py (tw (0, 1))), .un]) (S' := S) (by simp [tw]) (then_nx (for_nx (ds := ps.map tw) (S1 := S) (by simp) e) (then_rt (t := .pure) (v := .py (tw (ps.foldl plus (0, 1)))) (S' := S) (by simp)))))).trans rfl
theorem s_product (n : Nat) {m : Nat} {ps : List (Int × Int)} (h : ∀ p ∈ ps, Fq m p) (hm : m ≤ 4500) (l : ps.length * (m + 2) ≤ 4500) (S : SS) : sem (n + 5) 16 [.py (.list (ps.map tw))] S = some (.val .pure (.py (tw (ps.foldl times (1, 1)))) S) := by
  rw [sem_product_of, funF1]
  have ec := s_checks_good n (good_of h hm) S
  obtain ⟨y, e⟩ := sLoop (op := times) (L := sem (n + 4)) (i := 12) times_fq (fun S h g l => s_times (n + 1) h g l S) (.p (.py (.list (ps.map tw)))) S ps 0 (1, 1) .un h fq11 (by omega)
  unfold b_product_of
  refine (congrArg outF (then_nx (sl' := [.p (.py (.list (ps.map tw))), .un, .un]) (S' := S) (by simp [ec]) (then_nx (sl' := [.p (.py (.list (ps.map tw))), .p (.py (tw (1, 1))), .un]) (S' := S) (by simp [tw]) (then_nx (for_nx (ds := ps.map tw) (S1 := S) (by simp) e) (then_rt (t := .pure) (v := .py (tw (ps.foldl times (1, 1)))) (S' := S) (by simp)))))).trans rfl
/-- what is wrong in a list flies; what is no list, too -/
theorem s_sum_bad (n i : Nat) (hi : i = 15 ∨ i = 16) {ds r : List PyData} {b : PyData} (hb : Sized b) (hf : isFr b = false) (h : ∀ d ∈ ds, Sized d ∧ isFr d = true) (S : SS) : sem (n + 5) i [.py (.list (ds ++ b :: r))] S = some (.exn "InvalidFraction" b S) := by
  have ec := s_checks_bad n (r := r) hb hf h S
  rcases hi with rfl | rfl
  · rw [sem_sum_of, funF1]; simp [b_sum_of, ec]
  · rw [sem_product_of, funF1]; simp [b_product_of, ec]
theorem s_sum_not (n i : Nat) (hi : i = 15 ∨ i = 16) {d : PyData} (h : isTy .list d = false) (S : SS) : sem (n + 5) i [.py d] S = some (.exn "InvalidList" d S) := by
  have ec := s_checks_not (n + 2) h S
  rcases hi with rfl | rfl
  · rw [sem_sum_of, funF1]; simp [b_sum_of, ec]
  · rw [sem_product_of, funF1]; simp [b_product_of, ec]
theorem s_is_less (n : Nat) {k m : Nat} {p q : Int × Int} (h : Fq k p) (g : Fq m q) (hk : k ≤ 4500) (hm : m ≤ 4500) (S : SS) : sem (n + 4) 17 [.py (tw p), .py (tw q)] S = some (.val .pure (.py (.bool (decide (p.1 * q.2 < q.1 * p.2)))) S) := by
  have e1 := s_check_fraction n (h.sized hk) S
  rw [if_pos h.fr] at e1
  have e2 := s_check_fraction n (g.sized hm) S
  rw [if_pos g.fr] at e2
  have m1 := mulP_ok h.s1 g.s2 (by omega)
  have m2 := mulP_ok g.s1 h.s2 (by omega)
  have e3 : sem (n + 3) 13 [.py (tw p), .py (tw q)] S = some (.val .pure (.py (.bool (decide (p.1 * q.2 < q.1 * p.2)))) S) := by
    rw [sem_less_than, funF2]
    unfold tw
    simp [b_less_than, m1, m2]
  rw [sem_is_less, funF2]
  simp [b_is_less, e1, e2, e3]
theorem s_less_bad1 (n : Nat) {d e : PyData} (h : Sized d) (hf : isFr d = false) (S : SS) : sem (n + 4) 17 [.py d, .py e] S = some (.exn "InvalidFraction" d S) := by
  have e1 := s_check_fraction n h S
  rw [if_neg (by rw [hf]; exact Bool.false_ne_true)] at e1
  rw [sem_is_less, funF2]
  simp [b_is_less, e1]
theorem s_less_bad2 (n : Nat) {d e : PyData} (h : Sized d) (hf : isFr d = true) (h2 : Sized e) (hf2 : isFr e = false) (S : SS) : sem (n + 4) 17 [.py d, .py e] S = some (.exn "InvalidFraction" e S) := by
  have e1 := s_check_fraction n h S
  rw [if_pos hf] at e1
  have e2 := s_check_fraction n h2 S
  rw [if_neg (by rw [hf2]; exact Bool.false_ne_true)] at e2
  rw [sem_is_less, funF2]
  simp [b_is_less, e1, e2]
end K02
set_option Elab.async false
set_option linter.all false
set_option maxRecDepth 100000
set_option maxHeartbeats 4000000
namespace K02
open PySem PP
/-! ## the law's reading of a fraction -/
def badP (x : PyData) : Bool := isTy .bool x || !isTy .int x
theorem neL_cons {a : PyData} {r : List PyData} (h : ∀ x ∈ a :: r, x.plain = true) : neP (.list (a :: r)) (.list []) = some (.pure, .bool true) := by
  rw [neP_of (by
    have hp : (PyData.list (a :: r)).plain = true := by rw [PyData.plain]; exact plainAll_of h
    have hp2 : (PyData.list []).plain = true := by decide +kernel
    have hd : (PyData.list []).depth ≤ 60 := by decide +kernel
    unfold eqOk
    rw [hp, hp2, Bool.true_and, Bool.true_and]
    exact decide_eq_true (Nat.le_trans (Nat.min_le_right _ _) hd))]
  simp [PyData.eqv, PyData.eqvAll]
theorem neL_nil : neP (.list []) (.list []) = some (.pure, .bool false) := by
  rw [neP_of (by unfold eqOk; simp [PyData.plain, PyData.depth, PyData.depthAll, PyData.plainAll, DEEP])]
  simp [PyData.eqv, PyData.eqvAll]
theorem eqP_tw (p q : Int × Int) : eqP (tw p) (tw q) = some (.pure, .bool (decide (p = q))) := by
  obtain ⟨a, b⟩ := p
  obtain ⟨c, d⟩ := q
  unfold tw
  rw [eqP_of (by unfold eqOk; simp [PyData.plain, PyData.depth, PyData.depthAll, PyData.plainAll, DEEP])]
  congr 3
  simp only [PyData.eqv, PyData.eqvAll, Bool.and_true, Prod.mk.injEq]
  by_cases h1 : a = c <;> by_cases h2 : b = d <;> simp [h1, h2]
theorem s_law_fr (n : Nat) {d : PyData} (h : Sized d) (hp : ∀ ds, d = .tuple ds → ∀ x ∈ ds, x.plain = true) (S : SS) : sem (n + 3) 37 [.py d] S = some (.val .pure (.py (.bool (isFr d))) S) := by
  rw [sem__law_is_fraction, funF1]
  cases d with
  | tuple ds =>
    have lc : ∀ (sl : Sl) (x : PyData), True → ds.length ≤ 10 → lcLoop (gNm 1) (fOrT (fTb (fIsi .bool (fVar 1))) (fNotT (fTb (fIsi .int (fVar 1))))) (fVar 1) [.p (.py (.tuple ds)), .un] ds [] S = some (ds.filter badP, S) := by
      intro _ _ _ hl
      rw [lc_pure badP (fun d => d) ds [] (fun d hd => ⟨[.p (.py (.tuple ds)), .p (.py d)], rfl, by simp [badP], fun _ => by simp⟩) (by simp; omega)]
      simp
    match ds, h, hp, lc with
    | [], _, _, _ => simp [b__law_is_fraction, isTy, isFr]
    | [x], _, _, _ => simp [b__law_is_fraction, isTy, isFr]
    | x :: y :: z :: r, _, _, _ => simp [b__law_is_fraction, isTy, isFr, len3]
    | [x, y], h, hp, lc =>
      have lc' := lc [] .none trivial (by simp)
      by_cases hb : badP x = false ∧ badP y = false
      · obtain ⟨h1, h2⟩ := hb
        have e : ([x, y].filter badP) = [] := by simp [h1, h2]
        rw [e] at lc'
        cases x <;> try (simp [badP, isTy] at h1; done)
        cases y <;> try (simp [badP, isTy] at h2; done)
        rename_i a b
        by_cases hb : 0 < b
        · have es := s_frac n (a := a) (b := b) (by omega) (h a b rfl) S
          have et := eqP_tw (low a b) (a, b)
          have iff : (low a b = (a, b)) ↔ (Int.gcd a b = 1) := by
            constructor
            · intro e
              have := low_gcd (a := a) (b := b) (by omega)
              rwa [e] at this
            · exact low_self
          rw [frc_pos hb] at es
          have et : eqP (tw (low a b)) (.tuple [.int a, .int b]) = some (.pure, .bool (decide (Int.gcd a b = 1))) := by
            rw [show (PyData.tuple [.int a, .int b]) = tw (a, b) from rfl, et]
            simp only [iff]
          simp [b__law_is_fraction, isTy, isFr, wipeSl, lc', neL_nil, hb, es, et]
        · simp [b__law_is_fraction, isTy, isFr, wipeSl, lc', neL_nil, hb]
      · have e : ∃ a r, ([x, y].filter badP) = a :: r ∧ ∀ z ∈ a :: r, z.plain = true := by
          cases q : [x, y].filter badP with
          | nil =>
            exfalso
            have := List.filter_eq_nil_iff.mp q
            exact hb ⟨by simpa using this x (by simp), by simpa using this y (by simp)⟩
          | cons a r =>
            refine ⟨a, r, rfl, fun z hz => hp _ rfl z ?_⟩
            rw [← q] at hz
            exact (List.mem_filter.mp hz).1
        obtain ⟨a, r, e, hpl⟩ := e
        rw [e] at lc'
        have ne := neL_cons hpl
        have fr : isFr (.tuple [x, y]) = false := by
          cases x <;> cases y <;> first | rfl | (exact absurd ⟨by rfl, by rfl⟩ hb)
        simp [b__law_is_fraction, isTy, fr, wipeSl, lc', ne]
  | _ => simp [b__law_is_fraction, isTy, isFr]
/-! ## drawn numbers -/
theorem pow1010 : powP (.int 10) (.int 10) = some (.pure, .int 10000000000) := by kernel_rfl
theorem pow1011 : powP (.int 10) (.int 11) = some (.pure, .int 100000000000) := by kernel_rfl
theorem pow109 : powP (.int 10) (.int 9) = some (.pure, .int 1000000000) := by kernel_rfl
theorem s_big (n : Nat) {k B : Nat} {S S0 : SS} (g : Gs k (B + 60) S0 S) : ∃ (i : Int) (S' : SS), sem (n + 4) 28 [.box k] S = some (.val .pure (.py (.int i)) S') ∧ LG 33 i ∧ Gs k B S0 S' := by
  rw [sem__law_big, funF1]
  obtain ⟨x, S1, e1, hx, g1⟩ := pickK n k (B + 40) [.int 3, .int 12, .int 1000, .int 10000000000, .int 10000000000] S S0 g (by simp) (by simp)
  obtain ⟨m, rfl, m0, m1⟩ : ∃ m : Int, x = .int m ∧ 0 < m ∧ m ≤ 10000000000 := by
    simp only [List.mem_cons, List.not_mem_nil, or_false] at hx
    rcases hx with rfl | rfl | rfl | rfl | rfl <;> exact ⟨_, rfl, by decide, by decide⟩
  obtain ⟨r, S2, e2, r0, r1, g2⟩ := randK (n + 1) k (B + 20) m S1 S0 g1 m0 (Int.lt_of_le_of_lt m1 (by decide))
  obtain ⟨y, S3, e3, hy, g3⟩ := pickK n k B [.int 1, .int 1, .int (-1)] S2 S0 g2 (by simp) (by simp)
  obtain ⟨s, rfl, hs⟩ : ∃ s : Int, y = .int s ∧ (s = 1 ∨ s = -1) := by
    simp only [List.mem_cons, List.not_mem_nil, or_false] at hy
    rcases hy with rfl | rfl | rfl
    · exact ⟨_, rfl, .inl rfl⟩
    · exact ⟨_, rfl, .inl rfl⟩
    · exact ⟨_, rfl, .inr rfl⟩
  have hsz : LG 33 (r * s) := by
    refine .of_lt ?_
    have h0 : (2 : Nat) ^ (33 + 1) = 17179869184 := by decide
    rw [h0]
    rcases hs with rfl | rfl
    · rw [Int.mul_one]; omega
    · rw [Int.mul_neg, Int.mul_one, Int.natAbs_neg]; omega
  have lr : LG 34 r := .of_lt (Nat.lt_of_lt_of_le (show r.natAbs < 10000000000 by omega) (by decide))
  have ls : LG 2 s := by rcases hs with rfl | rfl <;> exact .of_lt (by decide)
  have em := mulP_ok lr ls (by decide)
  have e3' : sem (n + 3) 22 [.box k, .py (.list [.int 1, .int 1, .int (-1)])] S2 = some (.val .pure (.py (.int s)) S3) := e3
  refine ⟨r * s, S3, ?_, hsz, g3⟩
  simp [b__law_big, pow1010, e1, e2, e3', em]
theorem s_pair (n : Nat) {k B : Nat} {S S0 : SS} (g : Gs k (B + 120) S0 S) : ∃ (a b : Int) (S' : SS), sem (n + 5) 35 [.box k] S = some (.val .pure (.py (tw (a, b))) S') ∧ b ≠ 0 ∧ LG 33 a ∧ LG 33 b ∧ Gs k B S0 S' := by
  rw [sem__law_drawn_pair, funF1]
  obtain ⟨b, S1, e1, lb, g1⟩ := s_big n (B := B + 60) g
  obtain ⟨a, S2, e2, la, g2⟩ := s_big n (B := B) g1
  by_cases hb : b = 0
  · subst hb
    exact ⟨a, 1, S2, by simp [b__law_drawn_pair, e1, e2, tw], by decide, la, .of_lt (by decide), g2⟩
  · exact ⟨a, b, S2, by simp [b__law_drawn_pair, e1, e2, hb, tw], hb, la, lb, g2⟩
end K02
set_option Elab.async false
set_option linter.all false
set_option maxRecDepth 100000
set_option maxHeartbeats 4000000
namespace K02
open PySem PP
/-! ## names -/
def SM : Str := "abcdefghijklmnopqrstuvwxyz"
def FG : Str := "0123456789"
def AL : Str := "abcdefghijklmnopqrstuvwxyz0123456789"
theorem al_eq : addP (.str SM) (.str FG) = some (.pure, .str AL) := by
  have e : (SM ++ FG : Str) = AL := by decide +kernel
  show (if SM.length + FG.length ≤ LIM then some (Tg.pure, PyData.str (SM ++ FG)) else none) = _
  rw [e, if_pos (by decide +kernel)]
def okc (c : Nat) : Bool := decide (c ∈ AL.cps.toList)
def allB (s : Str) : Bool := s.cps.toList.all okc
def fstB (s : Str) : Bool := match s.cps.toList with
  | [] => false
  | c :: _ => decide (c ∈ SM.cps.toList)
def nameB : PyData → Bool
  | .str s => allB s && (decide (0 < s.length) && (decide (s.length ≤ 12) && fstB s))
  | _ => false
theorem eqL_nil {r : List PyData} (h : ∀ x ∈ r, x.plain = true) : eqP (.list r) (.list []) = some (.pure, .bool r.isEmpty) := by
  rw [eqP_of (by
    have hp : (PyData.list r).plain = true := by rw [PyData.plain]; exact plainAll_of h
    have hp2 : (PyData.list []).plain = true := by decide +kernel
    have hd : (PyData.list []).depth ≤ 60 := by decide +kernel
    unfold eqOk
    rw [hp, hp2, Bool.true_and, Bool.true_and]
    exact decide_eq_true (Nat.le_trans (Nat.min_le_right _ _) hd))]
  cases r <;> simp [PyData.eqv, PyData.eqvAll]
theorem neL_nil2 {r : List PyData} (h : ∀ x ∈ r, x.plain = true) : neP (.list r) (.list []) = some (.pure, .bool (!r.isEmpty)) := by
  cases r with
  | nil => exact neL_nil
  | cons a r => exact neL_cons h
/-- the signs that are none of a name's -/
def badC (d : PyData) : Bool := match d with
  | .str x => match x.cps.toList with
    | [c] => !okc c
    | _ => false
  | _ => false
theorem chars_plain (s : Str) : ∀ x ∈ chars s, x.plain = true := by
  intro x hx
  obtain ⟨c, _, rfl⟩ := List.mem_map.mp hx
  rfl
theorem bad_empty (s : Str) : ((chars s).filter badC).isEmpty = allB s := by
  unfold allB
  have : ∀ l : List Nat, ((l.map fun c => PyData.str ⟨#[c]⟩).filter badC).isEmpty = l.all okc := by
    intro l
    induction l with
    | nil => rfl
    | cons c l ih =>
      rw [List.map_cons, List.filter_cons, List.all_cons]
      have e : badC (.str ⟨#[c]⟩) = !okc c := rfl
      rw [e]
      cases okc c with
      | true => simpa using ih
      | false => simp
  exact this _
theorem inC {neg : Bool} {c : Nat} {z : Str} : inP neg (.str ⟨#[c]⟩) (.str z) = some (.pure, .bool (neg ^^ decide (c ∈ z.cps.toList))) := rfl
theorem lc_signs {g : PyData → Sl → Option Sl} {t : FT} {f : FE} {sl : Sl} {S : SS} {s : Str} (hs : s.length ≤ LIM) (h : ∀ c, ∃ sl1, g (.str ⟨#[c]⟩) sl = some sl1 ∧ t sl1 S = some (.tb (!okc c) S) ∧ f sl1 S = some (.val .pure (.py (.str ⟨#[c]⟩)) S)) :
    lcLoop g t f sl (chars s) [] S = some ((chars s).filter badC, S) := by
  have hl : (chars s).length = s.length := by simp [chars, Str.length]
  rw [lc_pure badC (fun d => d) (chars s) [] (fun d hd => by
    obtain ⟨c, _, rfl⟩ := List.mem_map.mp hd
    obtain ⟨sl1, e1, e2, e3⟩ := h c
    exact ⟨sl1, e1, e2, fun _ => e3⟩) (by rw [hl]; simpa using hs)]
  simp
theorem s_is_signs (n : Nat) {s : Str} (hs : s.length ≤ LIM) (S : SS) : sem (n + 1) 1 [.py (.str s), .py (.str AL)] S = some (.val .pure (.py (.bool (allB s))) S) := by
  rw [sem_is_signs, funF2]
  have lc := lc_signs (g := gNm 2) (t := fTb (fBin (inP true) (fVar 2) (fVar 1))) (f := fVar 2) (sl := [.p (.py (.str s)), .p (.py (.str AL)), .un]) (S := S) hs (fun c => ⟨_, rfl, by simp [inC, okc], by simp⟩)
  have e := eqL_nil (r := (chars s).filter badC) (fun x hx => chars_plain s x (List.mem_filter.mp hx).1)
  rw [bad_empty] at e
  simp [b_is_signs, isTy, wipeSl, lc, e]
theorem s_is_signs_no (n : Nat) {d : PyData} (h : isTy .str d = false) (z : PyData) (S : SS) : sem (n + 1) 1 [.py d, .py z] S = some (.val .pure (.py (.bool false)) S) := by
  rw [sem_is_signs, funF2]
  simp [b_is_signs, h]
theorem lenS {s : Str} (hs : s.length ≤ LIM) : lenP [.str s] = some (.pure, .int s.length) := if_pos hs
def StrOk (d : PyData) : Prop := ∀ s, d = .str s → s.length ≤ LIM
theorem s_name (n : Nat) {d : PyData} (h : StrOk d) (S : SS) : sem (n + 2) 2 [.py d] S = some (.val .pure (.py (.bool (nameB d))) S) := by
  rw [sem_is_name, funF1]
  have ea := al_eq
  unfold SM FG at ea
  by_cases hd : isTy .str d = true
  · obtain ⟨s, rfl⟩ : ∃ s, d = .str s := by cases d <;> first | exact ⟨_, rfl⟩ | cases hd
    have hs := h s rfl
    have e := s_is_signs n hs S
    have el := lenS hs
    by_cases h1 : allB s = true
    · by_cases h2 : 0 < s.length
      · obtain ⟨c, r, hc⟩ : ∃ c r, s.cps.toList = c :: r := by
          cases q : s.cps.toList with
          | nil =>
            have : s.length = 0 := by
              show s.cps.size = 0
              rw [← Array.length_toList, q]
              rfl
            omega
          | cons c r => exact ⟨c, r, rfl⟩
        have ix : ixP (.str s) (.int 0) = some (.str ⟨#[c]⟩) := by
          show (if s.length ≤ LIM then (L2.atI s.cps.toList 0).map fun c => PyData.str ⟨#[c]⟩ else none) = _
          rw [if_pos hs, hc]
          unfold L2.atI L2.ixN
          simp
        have inn : inP false (.str ⟨#[c]⟩) (.str "abcdefghijklmnopqrstuvwxyz") = some (.pure, .bool (fstB s)) := by
          rw [inC]
          unfold fstB
          rw [hc]
          simp [SM]
        by_cases h3 : s.length ≤ 12
        · have h4 : (s.length : Int) ≤ 12 := by omega
          simp [b_is_name, ea, e, h1, el, h2, h3, h4, ix, inn, nameB]
        · have h4 : ¬ (s.length : Int) ≤ 12 := by omega
          simp [b_is_name, ea, e, h1, el, h2, h3, h4, ix, inn, nameB]
      · simp [b_is_name, ea, e, h1, el, h2, nameB]
    · simp [b_is_name, ea, e, h1, nameB]
  · have e := s_is_signs_no n (d := d) (by simpa using hd) (.str AL) S
    have : nameB d = false := by cases d <;> first | rfl | exact absurd rfl hd
    simp [b_is_name, ea, e, this]
theorem smChars : listSP [.str SM] = some (.fresh, .list (chars SM)) := by
  unfold listSP
  exact if_pos (by decide +kernel)
theorem anyC (c : Nat) : ∀ l : List Nat, ((l.map fun c => PyData.str ⟨#[c]⟩).any fun y => PyData.eqv y (.str ⟨#[c]⟩)) = decide (c ∈ l)
  | [] => by simp
  | x :: l => by
    rw [List.map_cons, List.any_cons, anyC c l]
    have e : PyData.eqv (.str ⟨#[x]⟩) (.str ⟨#[c]⟩) = decide (x = c) := by
      simp only [PyData.eqv]
      by_cases h : x = c
      · subst h; simp
      · rw [decide_eq_false h]
        exact beq_false_of_ne (fun z => h (by
          have := congrArg (fun s : Str => s.cps.toList) z
          simpa using this))
    rw [e]
    by_cases h : x = c
    · subst h; simp
    · have : c ≠ x := fun z => h z.symm
      simp [h, this]
theorem inOkC (z : Str) (w : Str) : inOk (.str z) (chars w) = true := by
  unfold inOk
  rw [plainAll_of (chars_plain w)]
  simp [PyData.plain, PyData.depth, DEEP]
theorem cut_one {s : Str} : L2.cutS s none (some 1) = ⟨(s.cps.toList.take 1).toArray⟩ := by
  unfold L2.cutS
  rw [show HT.sIx s.length 0 none = 0 from rfl, show (some (1 : Int)) = some ((1 : Nat) : Int) from rfl, HT.sIx_nat, List.drop_zero, Nat.sub_zero]
  congr 2
  have : s.length = s.cps.toList.length := by simp [Str.length]
  rw [this]
  cases s.cps.toList with
  | nil => rfl
  | cons c r => simp
theorem s_law_name (n : Nat) {d : PyData} (h : StrOk d) (S : SS) : sem (n + 1) 29 [.py d] S = some (.val .pure (.py (.bool (nameB d))) S) := by
  rw [sem__law_name, funF1]
  have es := smChars
  unfold SM at es
  cases d with
  | str s =>
    have hs := h s rfl
    have el := lenS hs
    have lc := lc_signs (g := gNm 1) (t := fTb (fBin (inP true) (fVar 1) (fC (.str "abcdefghijklmnopqrstuvwxyz0123456789")))) (f := fVar 1) (sl := [.p (.py (.str s)), .un]) (S := S) hs (fun c => ⟨_, rfl, by simp [inC, okc, AL], by simp⟩)
    have e := eqL_nil (r := (chars s).filter badC) (fun x hx => chars_plain s x (List.mem_filter.mp hx).1)
    rw [bad_empty] at e
    have sl1 : slP (.str s) none (some 1) = some (.pure, .str ⟨(s.cps.toList.take 1).toArray⟩) := by
      show (if s.length ≤ LIM then some (Tg.pure, PyData.str (L2.cutS s none (some 1))) else none) = _
      rw [if_pos hs, cut_one]
    have inn : inP true (.str ⟨(s.cps.toList.take 1).toArray⟩) (.list (chars "abcdefghijklmnopqrstuvwxyz")) = some (.pure, .bool (!fstB s)) := by
      rw [inP_list (inOkC _ _)]
      unfold fstB
      cases q : s.cps.toList with
      | nil =>
        have : (chars "abcdefghijklmnopqrstuvwxyz").any (fun y => PyData.eqv y (.str ⟨#[]⟩)) = false := by decide +kernel
        show some (Tg.pure, PyData.bool (true ^^ (chars "abcdefghijklmnopqrstuvwxyz").any (fun y => PyData.eqv y (.str ⟨#[]⟩)))) = _
        rw [this]
        rfl
      | cons c r =>
        show some (Tg.pure, PyData.bool (true ^^ (chars "abcdefghijklmnopqrstuvwxyz").any (fun y => PyData.eqv y (.str ⟨#[c]⟩)))) = _
        have := anyC c (SM.cps.toList)
        unfold chars
        rw [show (Str.ofString "abcdefghijklmnopqrstuvwxyz") = SM from rfl, this]
        simp
    by_cases h1 : s.length ≤ 12
    · by_cases h2 : fstB s = true
      · have h0 : 0 < s.length := by
          unfold fstB at h2
          show 0 < s.cps.size
          cases q : s.cps.toList with
          | nil => rw [q] at h2; cases h2
          | cons c r => rw [← Array.length_toList, q]; simp
        have h3 : ¬ (12 : Int) < (s.length : Int) := by omega
        simp [b__law_name, isTy, el, h3, sl1, es, inn, h2, wipeSl, lc, e, nameB, h1, h0]
      · have h3 : ¬ (12 : Int) < (s.length : Int) := by omega
        simp [b__law_name, isTy, el, h3, sl1, es, inn, h2, nameB]
    · have h3 : (12 : Int) < (s.length : Int) := by omega
      simp [b__law_name, isTy, el, h3, nameB, h1]
  | _ => simp [b__law_name, isTy, nameB]
end K02
set_option Elab.async false
set_option linter.all false
set_option maxRecDepth 100000
set_option maxHeartbeats 4000000
namespace K02
open PySem PP
theorem exactK {k : Nat} {d : PyData} (h : Fine k d) (hk : k ≤ 60) (n : Nat) (S : SS) (hn : k + 1 ≤ n) : sem n 24 [.py d, .py d] S = some (.val .pure (.py (.bool true)) S) :=
  exact_fine (F := fun n => sem n 24) (fun n => rfl) h hk n S hn
/-! ## lists that rise -/
def gB (ss : List Str) (d : PyData) : Bool := match d with
  | .int i => match ss[(i - 1).toNat]?, ss[i.toNat]? with
    | some x, some y => !decide (x.cps.toList < y.cps.toList)
    | _, _ => false
  | _ => false
def riseB (ss : List Str) : Bool := ((rng 1 (ss.length - 1)).filter (gB ss)).isEmpty
theorem s_rise (n : Nat) {ss : List Str} (hl : ss.length ≤ 1000) (S : SS) : sem (n + 1) 30 [.py (.list (ss.map PyData.str))] S = some (.val .pure (.py (.bool (riseB ss))) S) := by
  unfold riseB
  rw [sem__law_rise, funF1]
  have hr : rgOk ((ss.length : Nat) : Int) = true := rgOk_of (by omega) (by omega)
  have h1 : rgOk 1 = true := rgOk_of (by omega) (by omega)
  have len : (rng 1 (ss.length - 1)).length ≤ 1000 := by
    unfold rng
    rw [List.length_map, List.length_range]
    omega
  have lc : lcLoop (gNm 1) (fTb (fBin geP (fIx (fVar 0) (fBin subP (fVar 1) (fC (.int (1))))) (fIx (fVar 0) (fVar 1)))) (fVar 1) [.p (.py (.list (ss.map PyData.str))), .un] (rng 1 (ss.length - 1)) [] S = some ((rng 1 (ss.length - 1)).filter (gB ss), S) := by
    rw [lc_pure (gB ss) (fun d => d) _ [] (fun d hd => ?_) (by simp; omega)]
    · simp
    · unfold rng at hd
      obtain ⟨i, hi, rfl⟩ := List.mem_map.mp hd
      have hi := List.mem_range.mp hi
      refine ⟨_, rfl, ?_, fun _ => by simp⟩
      have i1 : i < ss.length := by omega
      have i2 : i + 1 < ss.length := by omega
      have x1 : ixP (.list (ss.map PyData.str)) (.int (i : Nat)) = some (.str ss[i]) := by
        rw [ixP_ln]; simp [i1]
      have x2 : ixP (.list (ss.map PyData.str)) (.int ((i + 1 : Nat) : Int)) = some (.str ss[i + 1]) := by
        rw [ixP_ln]; simp [i2]
      have e1 : (1 : Int) + (i : Int) - 1 = (i : Int) := by omega
      have e2 : (1 : Int) + (i : Int) = ((i + 1 : Nat) : Int) := by omega
      have eg : gB ss (.int (1 + (i : Int))) = !decide (ss[i].cps.toList < ss[i + 1].cps.toList) := by
        unfold gB
        dsimp only
        rw [e1, e2]
        simp [i1, i2]
      have ge : geP (.str ss[i]) (.str ss[i + 1]) = some (.pure, .bool (!decide (ss[i].cps.toList < ss[i + 1].cps.toList))) := rfl
      rw [eg]
      rw [← e2] at x2
      simp only [ap_Tb, ap_Bin, ap_Ix, ap_Var0, ap_VarS, List.set_cons_zero, List.set_cons_succ, bindE_val, cont_py, ap_C, subP_int, e1, x1, x2, Option.map_some, ge, tE_b]
  have e := eqL_nil (r := (rng 1 (ss.length - 1)).filter (gB ss)) (fun x hx => by
    have hx := (List.mem_filter.mp hx).1
    unfold rng at hx
    obtain ⟨i, hi, rfl⟩ := List.mem_map.mp hx
    rfl)
  have hi : fiRg2 (faCons (fC (.int 1)) (faCons (fCall lenP (faCons (fVar 0) faNil)) faNil)) [.p (.py (.list (ss.map PyData.str))), .un] S = some (rng 1 (ss.length - 1), S) := by
    have e0 : (((ss.length : Nat) : Int) - 1).toNat = ss.length - 1 := by omega
    rw [ap_iRg2]
    simp only [ap_faCons, ap_C, ap_Call, ap_Var0, ap_faNil, conts_cons, cont_py, conts_nil, lenP_list, List.length_map]
    rw [if_pos ⟨h1, hr⟩, e0]
  have hL : fLc (fiRg2 (faCons (fC (.int 1)) (faCons (fCall lenP (faCons (fVar 0) faNil)) faNil))) (gNm 1) (fTb (fBin geP (fIx (fVar 0) (fBin subP (fVar 1) (fC (.int (1))))) (fIx (fVar 0) (fVar 1)))) (fVar 1) [1] [.p (.py (.list (ss.map PyData.str))), .un] S = some (.val .fresh (.py (.list ((rng 1 (ss.length - 1)).filter (gB ss)))) S) := by
    rw [ap_Lc, hi]
    dsimp only
    rw [show wipeSl [.p (.py (.list (ss.map PyData.str))), .un] [1] = [.p (.py (.list (ss.map PyData.str))), .un] from rfl, lc]
  unfold b__law_rise
  generalize (rng 1 (ss.length - 1)).filter (gB ss) = R at hL e
  refine (congrArg outF (then_rt (t := .pure) (v := .py (.bool R.isEmpty)) (S' := S) ?_)).trans rfl
  simp only [ap_Ret, ap_Bin, ap_Lit, bindE_val, bindS_val, cont_py]
  rw [show (List.replicate (2 - 1) PP.Slot.un) = [PP.Slot.un] from rfl, hL]
  simp only [bindE_val, bindS_val, cont_py, e]
theorem s_asc (n : Nat) {ss : List Str} (hl : ss.length ≤ 1000) (S : SS) : sem (n + 1) 3 [.py (.list (ss.map PyData.str))] S = some (.val .pure (.py (.bool (riseB ss))) S) := by
  have h := s_rise n hl S
  rw [sem__law_rise] at h
  rw [sem_ascends]
  unfold b__law_rise at h
  unfold b_ascends
  exact h
/-! ## lots of names -/
theorem all_names : ∀ {ds : List PyData}, (ds.filter fun x => !nameB x) = [] → ∃ ss : List Str, ds = ss.map PyData.str
  | [], _ => ⟨[], rfl⟩
  | d :: ds, h => by
    have h1 := List.filter_eq_nil_iff.mp h
    obtain ⟨ss, rfl⟩ := all_names (ds := ds) (List.filter_eq_nil_iff.mpr fun x hx => h1 x (List.mem_cons_of_mem _ hx))
    have h2 := h1 d (List.mem_cons_self ..)
    have : ∃ s, d = .str s := by
      cases d with
      | str s => exact ⟨s, rfl⟩
      | _ => exact absurd (by rfl) h2
    obtain ⟨s, rfl⟩ := this
    exact ⟨s :: ss, rfl⟩
structure JOk (v : PyData) : Prop where
  s : StrOk v
  l : ∀ ds, v = .list ds → ds.length ≤ 1000 ∧ ∀ x ∈ ds, StrOk x ∧ x.plain = true
  r : repr2P [v] = some (.pure, .str v.shown)
def lotsE (L : Nat → FF) : FE := fAnd (fIsi .list (fVar 0)) (fBin eqP (fLc (fiSeq (fVar 0)) (gNm 6) (fNotT (fTb (fCallF 1 (L 29) (faCons (fVar 6) faNil)))) (fVar 6) [6]) (fLit .fresh (.list [])))
theorem judged_core (n : Nat) {v : PyData} {nb lots rz : Bool} {z : Str} (S : SS) (er : repr2P [v] = some (.pure, .str z)) (e2 : sem (n + 4) 2 [.py v] S = some (.val .pure (.py (.bool nb)) S)) (e29 : sem (n + 4) 29 [.py v] S = some (.val .pure (.py (.bool nb)) S))
    (h2 : lotsE (sem (n + 4)) [.p (.py v), .p (.py (.str z)), .un, .un, .un, .un, .un] S = some (.val .pure (.py (.bool lots)) S)) (e30 : lots = true → sem (n + 4) 30 [.py v] S = some (.val .pure (.py (.bool rz)) S))
    (e4 : sem (n + 4) 4 [.py v] S = some (.val .pure (.py (.bool (lots && rz))) S)) : sem (n + 5) 33 [.py v] S = some (.val .pure (.py (.bool true)) S) := by
  have ex : ∀ a b : Bool, sem (n + 4) 24 [.py (.list [.bool a, .bool b]), .py (.list [.bool a, .bool b])] S = some (.val .pure (.py (.bool true)) S) := fun a b =>
    exactK (k := 1) (.list (by simp) fun x hx => by
      simp only [List.mem_cons, List.not_mem_nil, or_false] at hx
      rcases hx with rfl | rfl <;> exact .bool) (by omega) _ _ (by omega)
  have er2 : eqP (.str z) (.str z) = some (.pure, .bool true) := eqP_refl (k := 0) .str (by omega)
  rw [sem__law_judged, funF1]
  unfold b__law_judged
  unfold lotsE at h2
  have two : ∀ a b : Bool, some (Tg.pure, PyData.list [.bool a, .bool b]) = some (Tg.pure, PyData.list [.bool a, .bool b]) := fun _ _ => rfl
  refine (congrArg outF (then_nx (sl' := [.p (.py v), .p (.py (.str z)), .un, .un, .un, .un, .un]) (S' := S) (by simp [er]) (then_nx (sl' := [.p (.py v), .p (.py (.str z)), .p (.py (.bool lots)), .un, .un, .un, .un]) (S' := S) ?_
    (then_nx (sl' := [.p (.py v), .p (.py (.str z)), .p (.py (.bool lots)), .p (.py (.list [.bool nb, .bool (lots && rz)])), .un, .un, .un]) (S' := S) ?_
    (then_nx (sl' := [.p (.py v), .p (.py (.str z)), .p (.py (.bool lots)), .p (.py (.list [.bool nb, .bool (lots && rz)])), .p (.py (.list [.bool nb, .bool (lots && rz)])), .un, .un]) (S' := S) (by simp [e2, e4])
    (then_nx (sl' := [.p (.py v), .p (.py (.str z)), .p (.py (.bool lots)), .p (.py (.list [.bool nb, .bool (lots && rz)])), .p (.py (.list [.bool nb, .bool (lots && rz)])), .p (.py (.list [.bool nb, .bool (lots && rz)])), .un]) (S' := S) (by simp [e2, e4, pick])
    (then_rt (t := .pure) (v := .py (.bool true)) (S' := S) (by simp [ex, er, er2])))))))).trans rfl
  · rw [ap_Set]
    rw [h2]
    rfl
  · cases lots with
    | true => simp [e29, e30 rfl]
    | false => simp [e29]
theorem s_judged (n : Nat) {v : PyData} (h : JOk v) (S : SS) : sem (n + 5) 33 [.py v] S = some (.val .pure (.py (.bool true)) S) := by
  have e2 := s_name (n + 2) h.s S
  have e29 := s_law_name (n + 3) h.s S
  by_cases hl : isTy .list v = true
  · obtain ⟨ds, rfl⟩ : ∃ ds, v = .list ds := by cases v <;> first | exact ⟨_, rfl⟩ | cases hl
    obtain ⟨hlen, hx⟩ := h.l ds rfl
    have lcA : ∀ (i : Nat) (sl : Sl) (g : ∀ d, ∃ sl1, gNm i d sl = some sl1 ∧ sl1[i]? = some (.p (.py d))) (F : FF), (∀ d ∈ ds, F [.py d] S = some (.val .pure (.py (.bool (nameB d))) S)) →
        lcLoop (gNm i) (fNotT (fTb (fCallF 1 F (faCons (fVar i) faNil)))) (fVar i) sl ds [] S = some (ds.filter (fun x => !nameB x), S) := by
      intro i sl g F hf
      rw [lc_pure (fun x => !nameB x) (fun d => d) ds [] (fun d hd => by
        obtain ⟨sl1, e1, e3⟩ := g d
        refine ⟨sl1, e1, ?_, fun _ => ?_⟩
        · simp [ap_Var, e3, hf d hd]
        · simp [ap_Var, e3]) (by simp; omega)]
      simp
    have ne := neL_nil2 (r := ds.filter (fun x => !nameB x)) (fun x hx' => (hx x (List.mem_filter.mp hx').1).2)
    have eq := eqL_nil (r := ds.filter (fun x => !nameB x)) (fun x hx' => (hx x (List.mem_filter.mp hx').1).2)
    have lc6 := lcA 6 [.p (.py (.list ds)), .p (.py (.str (PyData.list ds).shown)), .un, .un, .un, .un, .un] (fun d => ⟨_, rfl, rfl⟩) (sem (n + 4) 29) (fun d hd => s_law_name (n + 3) (hx d hd).1 S)
    have lc1 := lcA 1 [.p (.py (.list ds)), .un] (fun d => ⟨_, rfl, rfl⟩) (sem (n + 3) 2) (fun d hd => s_name (n + 1) (hx d hd).1 S)
    have h2 : lotsE (sem (n + 4)) [.p (.py (.list ds)), .p (.py (.str (PyData.list ds).shown)), .un, .un, .un, .un, .un] S = some (.val .pure (.py (.bool (ds.filter (fun x => !nameB x)).isEmpty)) S) := by
      generalize ds.filter (fun x => !nameB x) = R at lc6 eq
      simp [lotsE, isTy, wipeSl, lc6, eq]
    have h4 : ∀ b : Bool, ((ds.filter (fun x => !nameB x)).isEmpty = true → sem (n + 3) 3 [.py (.list ds)] S = some (.val .pure (.py (.bool b)) S)) → sem (n + 4) 4 [.py (.list ds)] S = some (.val .pure (.py (.bool ((ds.filter (fun x => !nameB x)).isEmpty && b))) S) := by
      intro b hb
      rw [sem_is_names, funF1]
      generalize ds.filter (fun x => !nameB x) = R at lc1 ne hb
      have ht : (fOrT (fNotT (fTb (fIsi .list (fVar 0)))) (fTb (fBin neP (fLc (fiSeq (fVar 0)) (gNm 1) (fNotT (fTb (fCallF 1 (sem (n + 3) 2) (faCons (fVar 1) faNil)))) (fVar 1) [1]) (fLit .fresh (.list []))))) [.p (.py (.list ds)), .un] S = some (.tb (!R.isEmpty) S) := by
        have hL : fLc (fiSeq (fVar 0)) (gNm 1) (fNotT (fTb (fCallF 1 (sem (n + 3) 2) (faCons (fVar 1) faNil)))) (fVar 1) [1] [.p (.py (.list ds)), .un] S = some (.val .fresh (.py (.list R)) S) := by
          rw [ap_Lc, show fiSeq (fVar 0) [.p (.py (.list ds)), .un] S = some (ds, S) from rfl]
          dsimp only
          rw [show wipeSl [.p (.py (.list ds)), .un] [1] = [.p (.py (.list ds)), .un] from rfl, lc1]
        have h1 : fNotT (fTb (fIsi .list (fVar 0))) [.p (.py (.list ds)), .un] S = some (.tb false S) := rfl
        rw [ap_OrT, h1, tOr_b, if_neg Bool.false_ne_true, ap_Tb, ap_Bin, hL]
        simp only [bindE_val, ap_Lit, cont_py, ne, tE_b]
      unfold b_is_names
      cases q : R.isEmpty with
      | true =>
        rw [q] at ht hb
        have hb := hb rfl
        refine (congrArg outF (then_nx (sl' := [.p (.py (.list ds)), .un]) (S' := S) ?_ (then_rt (t := .pure) (v := .py (.bool b)) (S' := S) ?_))).trans rfl
        · rw [ap_IfS]
          exact (congrArg (fun r => kT r _ _ _) ht).trans rfl
        · simp only [ap_Ret, ap_CallF, ap_faCons, ap_Var0, ap_faNil, argsOf_cons, argsOf_nil, List.length_cons, List.length_nil, if_true, hb, outE_pure, bindS_val]
      | false =>
        rw [q] at ht
        refine (congrArg outF (then_rt (t := .pure) (v := .py (.bool false)) (S' := S) ?_)).trans rfl
        rw [ap_IfS]
        exact (congrArg (fun r => kT r _ _ _) ht).trans rfl
    by_cases hn : (ds.filter (fun x => !nameB x)) = []
    · obtain ⟨ss, rfl⟩ := all_names hn
      rw [List.length_map] at hlen
      exact judged_core n (rz := riseB ss) S h.r e2 e29 h2 (fun _ => s_rise (n + 3) hlen S) (h4 _ fun _ => s_asc (n + 2) hlen S)
    · have q : (ds.filter (fun x => !nameB x)).isEmpty = false := by
        cases q : ds.filter (fun x => !nameB x) with
        | nil => exact absurd q hn
        | cons a r => rfl
      exact judged_core n (rz := false) S h.r e2 e29 h2 (fun z => by rw [q] at z; cases z) (h4 _ fun z => by rw [q] at z; cases z)
  · have hl' : isTy .list v = false := by simpa using hl
    have e4 : sem (n + 4) 4 [.py v] S = some (.val .pure (.py (.bool (false && false))) S) := by
      rw [sem_is_names, funF1]
      simp [b_is_names, hl']
    exact judged_core n (lots := false) (rz := false) S h.r e2 e29 (by simp [lotsE, hl']) (fun z => by cases z) e4
end K02
set_option Elab.async false
set_option linter.all false
set_option maxRecDepth 100000
set_option maxHeartbeats 4000000
namespace K02
open PySem PP
/-! ## copies -/
theorem lc_copy {F : FF} {ds : List PyData} {S : SS} (hl : ds.length ≤ LIM) (h : ∀ d ∈ ds, F [.py d] S = some (.val .pure (.py d) S)) (a b : Slot) : lcLoop (gNm 1) fYes (fCallF 1 F (faCons (fVar 1) faNil)) [a, .un, b] ds [] S = some (ds, S) := by
  rw [lc_map (g := gNm 1) (f := fCallF 1 F (faCons (fVar 1) faNil)) (sl := [a, .un, b]) (S := S) (fun d => d) ds (fun d hd => ⟨[a, .p (.py d), b], rfl, by simp [h d hd]⟩) hl]
  simp
theorem s_copied {k : Nat} {d : PyData} (h : Fine k d) : ∀ (n : Nat) (S : SS), k + 1 ≤ n → sem n 23 [.py d] S = some (.val .pure (.py d) S) := by
  have leaf : ∀ (d : PyData) (n : Nat) (S : SS), isTy .list d = false → isTy .tuple d = false → isTy .dict d = false → sem (n + 1) 23 [.py d] S = some (.val .pure (.py d) S) := by
    intro d n S h1 h2 h3
    rw [sem__law_copied, funF1]
    simp [b__law_copied, h1, h2, h3]
  induction h with
  | none => intro n S hn; obtain ⟨n, rfl⟩ : ∃ j, n = j + 1 := ⟨n - 1, by omega⟩; exact leaf _ n S rfl rfl rfl
  | bool => intro n S hn; obtain ⟨n, rfl⟩ : ∃ j, n = j + 1 := ⟨n - 1, by omega⟩; exact leaf _ n S rfl rfl rfl
  | int => intro n S hn; obtain ⟨n, rfl⟩ : ∃ j, n = j + 1 := ⟨n - 1, by omega⟩; exact leaf _ n S rfl rfl rfl
  | str => intro n S hn; obtain ⟨n, rfl⟩ : ∃ j, n = j + 1 := ⟨n - 1, by omega⟩; exact leaf _ n S rfl rfl rfl
  | @list k ds hl _ ih =>
    intro n S hn
    obtain ⟨n, rfl⟩ : ∃ j, n = j + 1 := ⟨n - 1, by omega⟩
    rw [sem__law_copied, funF1, show List.replicate (3 - 1) PP.Slot.un = [PP.Slot.un, PP.Slot.un] from rfl]
    have lc := lc_copy (F := sem n 23) (S := S) hl (fun d hd => ih d hd n S (by omega)) (.p (.py (.list ds))) .un
    have hL : fLc (fiSeq (fVar 0)) (gNm 1) fYes (fCallF 1 (sem n 23) (faCons (fVar 1) faNil)) [1] [.p (.py (.list ds)), .un, .un] S = some (.val .fresh (.py (.list ds)) S) := by
      rw [ap_Lc, show fiSeq (fVar 0) [.p (.py (.list ds)), .un, .un] S = some (ds, S) from rfl]
      dsimp only
      rw [show wipeSl [.p (.py (.list ds)), .un, .un] [1] = [.p (.py (.list ds)), .un, .un] from rfl, lc]
    have ht : fTb (fIsi .list (fVar 0)) [.p (.py (.list ds)), .un, .un] S = some (.tb true S) := rfl
    unfold b__law_copied
    refine (congrArg outF (then_rt (t := .pure) (v := .py (.list ds)) (S' := S) ?_)).trans rfl
    rw [ap_IfS]
    refine (congrArg (fun r => kT r _ _ _) ht).trans ?_
    rw [kT_tb, if_pos rfl]
    refine then_rt ?_
    rw [ap_Ret, ap_Fz, hL]
    rfl
  | @tuple k ds hl _ ih =>
    intro n S hn
    obtain ⟨n, rfl⟩ : ∃ j, n = j + 1 := ⟨n - 1, by omega⟩
    rw [sem__law_copied, funF1, show List.replicate (3 - 1) PP.Slot.un = [PP.Slot.un, PP.Slot.un] from rfl]
    have lc := lc_copy (F := sem n 23) (S := S) hl (fun d hd => ih d hd n S (by omega)) (.p (.py (.tuple ds))) .un
    have hL : fLc (fiSeq (fVar 0)) (gNm 1) fYes (fCallF 1 (sem n 23) (faCons (fVar 1) faNil)) [1] [.p (.py (.tuple ds)), .un, .un] S = some (.val .fresh (.py (.list ds)) S) := by
      rw [ap_Lc, show fiSeq (fVar 0) [.p (.py (.tuple ds)), .un, .un] S = some (ds, S) from rfl]
      dsimp only
      rw [show wipeSl [.p (.py (.tuple ds)), .un, .un] [1] = [.p (.py (.tuple ds)), .un, .un] from rfl, lc]
    have ht1 : fTb (fIsi .list (fVar 0)) [.p (.py (.tuple ds)), .un, .un] S = some (.tb false S) := rfl
    have ht2 : fTb (fIsi .tuple (fVar 0)) [.p (.py (.tuple ds)), .un, .un] S = some (.tb true S) := rfl
    unfold b__law_copied
    refine (congrArg outF (then_nx (sl' := [.p (.py (.tuple ds)), .un, .un]) (S' := S) ?_ (then_rt (t := .pure) (v := .py (.tuple ds)) (S' := S) ?_))).trans rfl
    · rw [ap_IfS]
      exact (congrArg (fun r => kT r _ _ _) ht1).trans rfl
    · rw [ap_IfS]
      refine (congrArg (fun r => kT r _ _ _) ht2).trans ?_
      rw [kT_tb, if_pos rfl]
      refine then_rt ?_
      rw [ap_Ret, ap_Call, ap_faCons, hL]
      rfl
end K02
set_option Elab.async false
set_option linter.all false
set_option maxRecDepth 100000
set_option maxHeartbeats 4000000
namespace K02
open PySem PP
def fineB : Nat → PyData → Bool
  | 0, d => match d with
    | .list _ => false
    | .tuple _ => false
    | .dict _ => false
    | _ => true
  | k + 1, d => match d with
    | .list ds => decide (ds.length ≤ 1000) && ds.all (fineB k)
    | .tuple ds => decide (ds.length ≤ 1000) && ds.all (fineB k)
    | .dict _ => false
    | _ => true
theorem fineB_ok : ∀ (k : Nat) (d : PyData), fineB k d = true → Fine k d
  | 0, .none, _ => .none
  | 0, .bool _, _ => .bool
  | 0, .int _, _ => .int
  | 0, .str _, _ => .str
  | 0, .list _, h => by cases h
  | 0, .tuple _, h => by cases h
  | 0, .dict _, h => by cases h
  | k + 1, .none, _ => .none
  | k + 1, .bool _, _ => .bool
  | k + 1, .int _, _ => .int
  | k + 1, .str _, _ => .str
  | k + 1, .list ds, h => by
    have h : (decide (ds.length ≤ 1000) && ds.all (fineB k)) = true := h
    rw [Bool.and_eq_true] at h
    have h1 := of_decide_eq_true h.1
    exact .list (by rw [LIM_eq]; omega) fun d hd => fineB_ok k d (List.all_eq_true.mp h.2 d hd)
  | k + 1, .tuple ds, h => by
    have h : (decide (ds.length ≤ 1000) && ds.all (fineB k)) = true := h
    rw [Bool.and_eq_true] at h
    have h1 := of_decide_eq_true h.1
    exact .tuple (by rw [LIM_eq]; omega) fun d hd => fineB_ok k d (List.all_eq_true.mp h.2 d hd)
  | k + 1, .dict _, h => by cases h
/-! ## the menu -/
def M1 : List PyData := [.none, .bool true, .bool false, .int 0, .int 1, .int (-1), .int 100000000000, .str "", .str "a", .str "A", .str "ab", .str "a b", .str "1a", .str "a1", .str " ", .str "a\n", .str (repS "z" 20), .str (repS "z" 21), .str "abcdefgh", .str "abcdefghi"]
def M2 : List PyData := [.list [], .tuple [], .dict [], .list [.int (0)], .list [.int (1), .int (0)], .list [.int (0), .str "a"], .list [.str "a", .int (0)], .list [.none, .int (0)], .list [.int (0), .list [.int (1)]], .list [.int (0), .tuple [.int (1)]], .list [.bool true], .list [.int (0), .int (1)], .list [.int (0), .int (0)], .tuple [.int (0), .int (1)], .list [.str "a"], .list [.list []]]
def M3 : List PyData := [.dict [(.str "a", .int 1)], .list [.int 1, .int 2, .int 100000000000], .list [.int (-1)], .str "a_b", .str "aB", .str (repS "a" 200), .str "e0", .str "0", .str "house", .tuple [.str "house"]]
def M : List PyData := M1 ++ M2 ++ M3
theorem M_fine : ∀ x ∈ M, x = .dict [] ∨ x = .dict [(.str "a", .int 1)] ∨ Fine 3 x := by
  intro x hx
  have h : (M.all fun x => match x with
    | .dict [] => true
    | .dict [(.str z, .int 1)] => decide (z = "a")
    | d => fineB 3 d) = true := by decide +kernel
  have h2 := List.all_eq_true.mp h x hx
  split at h2
  · exact .inl rfl
  · rename_i z
    have : z = "a" := of_decide_eq_true h2
    subst this
    exact .inr (.inl rfl)
  · exact .inr (.inr (fineB_ok 3 _ h2))
theorem M_copied (n : Nat) {x : PyData} (hx : x ∈ M) (S : SS) : sem (n + 6) 23 [.py x] S = some (.val .pure (.py x) S) := by
  rcases M_fine x hx with rfl | rfl | h
  · kernel_rfl
  · kernel_rfl
  · exact s_copied h _ _ (by omega)
end K02
set_option Elab.async false
set_option linter.all false
set_option maxRecDepth 100000
set_option maxHeartbeats 4000000
namespace K02
open PySem PP
theorem s_any (n : Nat) {k B : Nat} {S S0 : SS} (g : Gs k (B + 20) S0 S) : ∃ (x : PyData) (S' : SS), sem (n + 7) 27 [.box k] S = some (.val .pure (.py x) S') ∧ x ∈ M ∧ Gs k B S0 S' := by
  rw [sem__law_any, funF1]
  obtain ⟨x, S', e, hx, g'⟩ := pickK (n + 3) k B M S S0 g (by unfold M M1; simp) (by unfold M M1 M2 M3; simp)
  have ec := M_copied n hx S'
  refine ⟨x, S', ?_, hx, g'⟩
  unfold b__law_any
  refine (congrArg outF (then_nx (sl' := [.p (.box k), .p (.py (.list M1))]) (S' := S) (by kernel_rfl) (then_nx (sl' := [.p (.box k), .p (.py (.list (M1 ++ M2)))]) (S' := S) (by kernel_rfl) (then_nx (sl' := [.p (.box k), .p (.py (.list M))]) (S' := S) (by kernel_rfl) (then_rt (t := .pure) (v := .py x) (S' := S') ?_))))).trans rfl
  simp only [ap_Ret, ap_CallF, ap_faCons, ap_Var0, ap_VarS, ap_faNil, argsOf_cons, argsOf_nil, List.length_cons, List.length_nil, if_true, e, outE_pure, ec, bindS_val]
/-- the menu's things are judged rightly -/
theorem M_judged (n : Nat) {x : PyData} (hx : x ∈ M) (S : SS) : sem (n + 5) 33 [.py x] S = some (.val .pure (.py (.bool true)) S) := by
  have all : ∀ x ∈ M, repr2P [x] = some (.pure, .str x.shown) := by
    intro x hx
    have h : (M.all fun x => reprOk2 x) = true := by decide +kernel
    exact if_pos (List.all_eq_true.mp h x hx)
  have hs : ∀ x ∈ M, StrOk x := by
    intro x hx s e
    subst e
    have h : (M.all fun x => match x with
      | .str s => decide (s.length ≤ 1000)
      | _ => true) = true := by decide +kernel
    have := of_decide_eq_true (List.all_eq_true.mp h _ hx)
    rw [LIM_eq]
    omega
  have hl : ∀ x ∈ M, ∀ ds, x = .list ds → ds.length ≤ 1000 ∧ ∀ y ∈ ds, StrOk y ∧ y.plain = true := by
    intro x hx ds e
    subst e
    have h : (M.all fun x => match x with
      | .list ds => decide (ds.length ≤ 1000) && ds.all fun y => (match y with
        | .str s => decide (s.length ≤ 1000)
        | _ => true) && y.plain
      | _ => true) = true := by decide +kernel
    have h1 := List.all_eq_true.mp h _ hx
    dsimp only at h1
    rw [Bool.and_eq_true] at h1
    refine ⟨of_decide_eq_true h1.1, fun y hy => ?_⟩
    have h2 := List.all_eq_true.mp h1.2 y hy
    rw [Bool.and_eq_true] at h2
    refine ⟨fun s e => ?_, h2.2⟩
    subst e
    have := of_decide_eq_true h2.1
    rw [LIM_eq]
    omega
  exact s_judged n ⟨hs x hx, hl x hx, all x hx⟩ S
end K02
set_option Elab.async false
set_option linter.all false
set_option maxRecDepth 100000
set_option maxHeartbeats 4000000
namespace K02
open PySem PP
/-! ## drawn lists of numbers -/
def Nm (d : PyData) : Prop := ∃ i : Int, d = .int i ∧ LG 40 i
theorem s_numbers (n : Nat) {k B : Nat} {S S0 : SS} (g : Gs k (B + 400) S0 S) : ∃ (ds : List PyData) (S' : SS), sem (n + 4) 32 [.box k] S = some (.val .pure (.py (.list ds)) S') ∧ ds.length ≤ 5 ∧ (∀ d ∈ ds, Nm d) ∧ Gs k B S0 S' := by
  obtain ⟨r, S1, e1, r0, r1, g1⟩ := randK (n + 1) k (B + 360) 6 S S0 (g.mono (by omega)) (by decide) (by decide)
  have hlen : (rng 0 r.toNat).length = r.toNat := by unfold rng; rw [List.length_map, List.length_range]
  let fE : FE := (fBin subP (fCallF 2 (sem (n + 3) 21) (faCons (fVar 0) (faCons (fCallF 2 (sem (n + 3) 22) (faCons (fVar 0) (faCons (fFz (fSeq .list .fresh (faCons (fC (.int (3))) (faCons (fC (.int (9))) (faCons (fBin powP (fC (.int (10))) (fC (.int (11)))) faNil))))) faNil))) faNil))) (fCallF 2 (sem (n + 3) 21) (faCons (fVar 0) (faCons (fC (.int (2))) faNil))))
  obtain ⟨ds, S2, e2, ⟨g2, hd⟩, hl⟩ := lc_inv (g := gNm 1) (t := fYes) (f := fE) (sl := [.p (.box k), .un]) (fun i acc S => Gs k (B + (6 - i) * 60) S0 S ∧ ∀ d ∈ acc, Nm d) (rng 0 r.toNat) 0 [] S1 ⟨g1.mono (by omega), fun d hd => by cases hd⟩ (by rw [hlen, LIM_eq]; simp; omega) (by
    rintro i d acc S ed ⟨gs, ha⟩
    have hi : i < r.toNat := by rw [← hlen]; exact (List.getElem?_eq_some_iff.mp ed).1
    have hi6 : i < 6 := by omega
    rw [Nat.zero_add] at gs ⊢
    have bud : B + (6 - i) * 60 = (B + (6 - (i + 1)) * 60) + 60 := by
      have : 6 - i = (6 - (i + 1)) + 1 := by omega
      rw [this, Nat.add_mul]
      omega
    rw [bud] at gs
    generalize hB : B + (6 - (i + 1)) * 60 = B' at gs ⊢
    obtain ⟨x, T1, f1, hx, q1⟩ := pickK n k (B' + 40) [.int 3, .int 9, .int 100000000000] S S0 gs (by simp) (by simp)
    obtain ⟨m, rfl, m0, m1⟩ : ∃ m : Int, x = .int m ∧ 0 < m ∧ m ≤ 100000000000 := by
      simp only [List.mem_cons, List.not_mem_nil, or_false] at hx
      rcases hx with rfl | rfl | rfl <;> exact ⟨_, rfl, by decide, by decide⟩
    obtain ⟨a, T2, f2, a0, a1, q2⟩ := randK (n + 1) k (B' + 20) m T1 S0 q1 m0 (Int.lt_of_le_of_lt m1 (by decide))
    obtain ⟨b, T3, f3, b0, b1, q3⟩ := randK (n + 1) k B' 2 T2 S0 q2 (by decide) (by decide)
    refine ⟨[.p (.box k), .p (.py d)], rfl, .inr ⟨S, .int (a - b), T3, rfl, ?_, q3, fun d hd => ?_⟩⟩
    · simp [fE, pow1011, f1, f2, f3]
    · rcases List.mem_append.mp hd with hd | hd
      · exact ha d hd
      · rw [List.mem_singleton.mp hd]
        exact ⟨_, rfl, .of_lt (Nat.lt_of_le_of_lt (show (a - b).natAbs ≤ 200000000000 by omega) (by decide))⟩)
  refine ⟨ds, S2, ?_, by rw [hlen] at hl; simp at hl; omega, hd, g2.mono (by omega)⟩
  rw [sem__law_numbers, funF1, show List.replicate (2 - 1) PP.Slot.un = [PP.Slot.un] from rfl]
  have hr : rgOk r = true := rgOk_of (by omega) (by omega)
  have hi : fiRg1 (faCons (fCallF 2 (sem (n + 3) 21) (faCons (fVar 0) (faCons (fC (.int (6))) faNil))) faNil) [.p (.box k), .un] S = some (rng 0 r.toNat, S1) := by
    rw [ap_iRg1]
    simp only [ap_faCons, ap_CallF, ap_Var0, ap_C, ap_faNil, argsOf_cons, argsOf_nil, List.length_cons, List.length_nil, if_true, e1, outE_pure]
    rw [if_pos hr]
  have hL : fLc (fiRg1 (faCons (fCallF 2 (sem (n + 3) 21) (faCons (fVar 0) (faCons (fC (.int (6))) faNil))) faNil)) (gNm 1) fYes fE [1] [.p (.box k), .un] S = some (.val .fresh (.py (.list ds)) S2) := by
    rw [ap_Lc, hi]
    dsimp only
    rw [show wipeSl [.p (.box k), .un] [1] = [.p (.box k), .un] from rfl, e2]
  unfold b__law_numbers
  refine (congrArg outF (then_rt (t := .pure) (v := .py (.list ds)) (S' := S2) ?_)).trans rfl
  rw [ap_Ret, ap_Fz, hL]
  rfl
end K02
set_option Elab.async false
set_option linter.all false
set_option maxRecDepth 100000
set_option maxHeartbeats 4000000
namespace K02
open PySem PP
/-! ## drawn texts -/
def One (d : PyData) : Prop := ∃ c : Nat, d = .str ⟨#[c]⟩ ∧ c < 16 ^ 8
theorem strs_one : ∀ {ds : List PyData}, (∀ d ∈ ds, One d) → ∃ ys : List Str, strsOf ds = some ys ∧ ys.length = ds.length ∧ ∀ y ∈ ys, ∃ c : Nat, y = ⟨#[c]⟩ ∧ c < 16 ^ 8
  | [], _ => ⟨[], rfl, rfl, fun y hy => by cases hy⟩
  | d :: ds, h => by
    obtain ⟨c, rfl, hc⟩ := h d (List.mem_cons_self ..)
    obtain ⟨ys, e, hl, hy⟩ := strs_one fun x hx => h x (List.mem_cons_of_mem _ hx)
    refine ⟨⟨#[c]⟩ :: ys, by simp [strsOf, e], by simp [hl], fun y hy' => ?_⟩
    rcases List.mem_cons.mp hy' with rfl | hy'
    · exact ⟨c, rfl, hc⟩
    · exact hy y hy'
theorem pick_str (n : Nat) {k B : Nat} {z : Str} {S S0 : SS} (g : Gs k (B + 20) S0 S) (h0 : 0 < z.length) (hl : z.length ≤ 1000) : ∃ (c : Nat) (S' : SS), sem (n + 3) 22 [.box k, .py (.str z)] S = some (.val .pure (.py (.str ⟨#[c]⟩)) S') ∧ c ∈ z.cps.toList ∧ Gs k B S0 S' := by
  obtain ⟨r, S', e, r0, r1, g'⟩ := randK n k B (z.length : Int) S S0 g (by omega) (Int.lt_of_le_of_lt (show (z.length : Int) ≤ 1000 by omega) (by decide))
  have hz : z.length = z.cps.toList.length := by simp [Str.length]
  obtain ⟨c, ec, hc, _⟩ := atI_some (xs := z.cps.toList) r0 (by rw [← hz]; exact r1)
  have ix : ixP (.str z) (.int r) = some (.str ⟨#[c]⟩) := by
    show (if z.length ≤ LIM then (L2.atI z.cps.toList r).map fun c => PyData.str ⟨#[c]⟩ else none) = _
    rw [if_pos (by rw [LIM_eq]; omega), ec]
    rfl
  have el := lenS (s := z) (by rw [LIM_eq]; omega)
  refine ⟨c, S', ?_, hc, g'⟩
  rw [sem__law_pick, funF2]
  simp [b__law_pick, el, e, ix]
def TX : List PyData := [.str "ab", .str "abcdefghijklmnopqrstuvwxyz", .str "a0123456789", .str "aZ_ -~", .str "a0\n\t"]
theorem TX_ok : ∀ x ∈ TX, ∃ z : Str, x = .str z ∧ 0 < z.length ∧ z.length ≤ 1000 ∧ ∀ c ∈ z.cps.toList, c < 16 ^ 8 := by
  intro x hx
  have h : (TX.all fun x => match x with
    | .str z => decide (0 < z.length) && (decide (z.length ≤ 1000) && z.cps.toList.all fun c => decide (c < 16 ^ 8))
    | _ => false) = true := by decide +kernel
  have h2 := List.all_eq_true.mp h x hx
  split at h2
  · rename_i z
    rw [Bool.and_eq_true, Bool.and_eq_true] at h2
    exact ⟨z, rfl, of_decide_eq_true h2.1, of_decide_eq_true h2.2.1, fun c hc => of_decide_eq_true (List.all_eq_true.mp h2.2.2 c hc)⟩
  · cases h2
theorem s_string_list (n : Nat) {k B : Nat} {z : Str} {S S0 : SS} (g : Gs k (B + 600) S0 S) (h0 : 0 < z.length) (hl : z.length ≤ 1000) (hc : ∀ c ∈ z.cps.toList, c < 16 ^ 8) (x : Slot) :
    ∃ (ds : List PyData) (S' : SS), fLc (fiRg1 (faCons (fCallF 2 (sem (n + 3) 21) (faCons (fVar 0) (faCons (fC (.int (24))) faNil))) faNil)) (gNm 2) fYes (fCallF 2 (sem (n + 3) 22) (faCons (fVar 0) (faCons (fVar 1) faNil))) [2] [.p (.box k), .p (.py (.str z)), .un] S = some (.val .fresh (.py (.list ds)) S') ∧ ds.length ≤ 24 ∧ (∀ d ∈ ds, One d) ∧ Gs k B S0 S' := by
  obtain ⟨r, S1, e1, r0, r1, g1⟩ := randK (n + 1) k (B + 500) 24 S S0 (g.mono (by omega)) (by decide) (by decide)
  have hlen : (rng 0 r.toNat).length = r.toNat := by unfold rng; rw [List.length_map, List.length_range]
  obtain ⟨ds, S2, e2, ⟨g2, hd⟩, hl2⟩ := lc_inv (g := gNm 2) (t := fYes) (f := fCallF 2 (sem (n + 3) 22) (faCons (fVar 0) (faCons (fVar 1) faNil))) (sl := [.p (.box k), .p (.py (.str z)), .un]) (fun i acc S => Gs k (B + (24 - i) * 20) S0 S ∧ ∀ d ∈ acc, One d) (rng 0 r.toNat) 0 [] S1 ⟨g1.mono (by omega), fun d hd => by cases hd⟩ (by rw [hlen, LIM_eq]; simp; omega) (by
    rintro i d acc S ed ⟨gs, ha⟩
    have hi : i < r.toNat := by rw [← hlen]; exact (List.getElem?_eq_some_iff.mp ed).1
    rw [Nat.zero_add] at gs ⊢
    have bud : B + (24 - i) * 20 = (B + (24 - (i + 1)) * 20) + 20 := by omega
    rw [bud] at gs
    obtain ⟨c, T1, f1, hx, q1⟩ := pick_str n gs h0 hl
    refine ⟨[.p (.box k), .p (.py (.str z)), .p (.py d)], rfl, .inr ⟨S, .str ⟨#[c]⟩, T1, rfl, ?_, q1, fun d hd => ?_⟩⟩
    · simp [f1]
    · rcases List.mem_append.mp hd with hd | hd
      · exact ha d hd
      · rw [List.mem_singleton.mp hd]
        exact ⟨c, rfl, hc c hx⟩)
  have hr : rgOk r = true := rgOk_of (by omega) (by omega)
  refine ⟨ds, S2, ?_, by rw [hlen] at hl2; simp at hl2; omega, hd, g2.mono (by omega)⟩
  have hi : fiRg1 (faCons (fCallF 2 (sem (n + 3) 21) (faCons (fVar 0) (faCons (fC (.int (24))) faNil))) faNil) [.p (.box k), .p (.py (.str z)), .un] S = some (rng 0 r.toNat, S1) := by
    rw [ap_iRg1]
    simp only [ap_faCons, ap_CallF, ap_Var0, ap_C, ap_faNil, argsOf_cons, argsOf_nil, List.length_cons, List.length_nil, if_true, e1, outE_pure]
    rw [if_pos hr]
  rw [ap_Lc, hi]
  dsimp only
  rw [show wipeSl [.p (.box k), .p (.py (.str z)), .un] [2] = [.p (.box k), .p (.py (.str z)), .un] from rfl, e2]
end K02
set_option Elab.async false
set_option linter.all false
set_option maxRecDepth 100000
set_option maxHeartbeats 4000000
namespace PP
open PySem L2 PySem.Spec PyProof.Rows
/-! ## going forward: what holds of what comes -/
/-- what simp leaves as it is -/
inductive Mk {α : Type} (q : α) : Type where
  | mk
def oE (r : Option ER) (Q : Tg → Vl → SS → Prop) (_ : Mk Q := .mk) : Prop := match r with
  | some (.val t v S) => Q t v S
  | _ => False
def oA (r : Option AR) (Q : List (Tg × Vl) → SS → Prop) (_ : Mk Q := .mk) : Prop := match r with
  | some (.vals xs S) => Q xs S
  | _ => False
def oT (r : Option TR) (Q : Bool → SS → Prop) (_ : Mk Q := .mk) : Prop := match r with
  | some (.tb b S) => Q b S
  | _ => False
def oI (r : Option (List PyData × SS)) (Q : List PyData → SS → Prop) (_ : Mk Q := .mk) : Prop := match r with
  | some (ds, S) => Q ds S
  | none => False
def oO (r : Option (Option Int × SS)) (Q : Option Int → SS → Prop) (_ : Mk Q := .mk) : Prop := match r with
  | some (i, S) => Q i S
  | none => False
def oP (r : Option (Tg × PyData)) (Q : Tg → PyData → Prop) (_ : Mk Q := .mk) : Prop := match r with
  | some (t, d) => Q t d
  | none => False
def oV {α : Type} (r : Option α) (Q : α → Prop) (_ : Mk Q := .mk) : Prop := match r with
  | some d => Q d
  | none => False
structure KS where
  rt : Tg → Vl → SS → Prop
  bk : Sl → SS → Prop
  ct : Sl → SS → Prop
def oS (r : Option SR) (N : Sl → SS → Prop) (K : KS) (_ : Mk N := .mk) (_ : Mk K := .mk) : Prop := match r with
  | some (.nx sl S) => N sl S
  | some (.rt t v S) => K.rt t v S
  | some (.bk sl S) => K.bk sl S
  | some (.ct sl S) => K.ct sl S
  | _ => False
def vB (v : Vl) (Q : Bool → Prop) (_ : Mk Q := .mk) : Prop := match v with
  | .py (.bool b) => Q b
  | _ => False
def vI (v : Vl) (Q : Int → Prop) (_ : Mk Q := .mk) : Prop := match v with
  | .py (.int b) => Q b
  | _ => False
def vP (v : Vl) (Q : PyData → Prop) (_ : Mk Q := .mk) : Prop := match v with
  | .py d => Q d
  | _ => False
def vS (v : Vl) (Q : Str → Prop) (_ : Mk Q := .mk) : Prop := match v with
  | .py (.str d) => Q d
  | _ => False
def vL (v : Vl) (Q : List PyData → Prop) (_ : Mk Q := .mk) : Prop := match v with
  | .py (.list ds) => Q ds
  | _ => False
def vQ (v : Vl) (Q : List PyData → Prop) (_ : Mk Q := .mk) : Prop := match v with
  | .py (.list ds) => Q ds
  | .py (.tuple ds) => Q ds
  | .py (.str s) => Q (chars s)
  | .py (.dict kvs) => Q (kvs.map (·.1))
  | _ => False
def dL (v : PyData) (Q : List PyData → Prop) (_ : Mk Q := .mk) : Prop := match v with
  | .list ds => Q ds
  | _ => False
def dD (v : PyData) (Q : List (PyData × PyData) → Prop) (_ : Mk Q := .mk) : Prop := match v with
  | .dict ds => Q ds
  | _ => False
def xI (xs : List (Tg × Vl)) (Q : Int → Prop) (_ : Mk Q := .mk) : Prop := match xs with
  | [(_, .py (.int j))] => Q j
  | _ => False
def xII (xs : List (Tg × Vl)) (Q : Int → Int → Prop) (_ : Mk Q := .mk) : Prop := match xs with
  | [(_, .py (.int i)), (_, .py (.int j))] => Q i j
  | _ => False
def xL (xs : List (Tg × Vl)) (Q : List PyData → Prop) (_ : Mk Q := .mk) : Prop := match xs with
  | [(.pure, .py (.list ds))] => Q ds
  | _ => False
def xLL (xs : List (Tg × Vl)) (Q : List PyData → List PyData → Prop) (_ : Mk Q := .mk) : Prop := match xs with
  | [(.pure, .py (.list ds)), (.pure, .py (.list ds2))] => Q ds ds2
  | [(.pure, .py (.tuple ds)), (.pure, .py (.tuple ds2))] => Q ds ds2
  | _ => False
def xP (xs : List (Tg × Vl)) (Q : PyData → Prop) (_ : Mk Q := .mk) : Prop := match xs with
  | [(.pure, .py y)] => Q y
  | _ => False
def sO (s : Option Slot) (Q : List PyData → Prop) (_ : Mk Q := .mk) : Prop := match s with
  | some (.own (.list ds)) => Q ds
  | _ => False
def sX (s : Option Slot) (Q : Nat → Prop) (_ : Mk Q := .mk) : Prop := match s with
  | some (.p (.box k)) => Q k
  | _ => False
def sF (s : Option Slot) (Q : Str → Prop) (_ : Mk Q := .mk) : Prop := match s with
  | some (.p (.fn k)) => Q k
  | _ => False
def vE (v : Vl) (Q : Str → PyData → Prop) (N : Prop) (_ : Mk Q := .mk) (_ : Mk N := .mk) : Prop := match v with
  | .err c d => Q c d
  | .py .none => N
  | _ => False
def v3 (vs : List Vl) (Q : Vl → Vl → Vl → Prop) (_ : Mk Q := .mk) : Prop := match vs with
  | [a, b, c] => Q a b c
  | _ => False
theorem oE_ext {r : Option ER} {Q Q' : Tg → Vl → SS → Prop} (h : ∀ t v S, Q t v S = Q' t v S) : oE r Q = oE r Q' := by
  obtain rfl : Q = Q' := by funext t v S; exact h t v S
  rfl
theorem oV_ext {α : Type} {r : Option α} {Q Q' : α → Prop} (h : ∀ d, Q d = Q' d) : oV r Q = oV r Q' := by
  obtain rfl : Q = Q' := by funext d; exact h d
  rfl
def outT : Tg → Tg
  | .pure => .pure
  | _ => .fresh
section
variable {sl sl' : Sl} {S S' : SS} {t : Tg} {v : Vl} {c : Str} {d : PyData} {i j k l n m : Nat} {f g h : FE} {fs gs : FS} {ga : FA} {ft gt : FT} {fi : FI} {Q : Tg → Vl → SS → Prop} {QA : List (Tg × Vl) → SS → Prop} {QT : Bool → SS → Prop} {QI : List PyData → SS → Prop} {QO : Option Int → SS → Prop} {N : Sl → SS → Prop} {K : KS}
@[simp] theorem oE_val : oE (some (.val t v S)) Q = Q t v S := rfl
@[simp] theorem oE_none : oE none Q = False := rfl
@[simp] theorem oE_exn : oE (some (.exn c d S)) Q = False := rfl
@[simp] theorem oA_vals {xs : List (Tg × Vl)} : oA (some (.vals xs S)) QA = QA xs S := rfl
@[simp] theorem oA_none : oA none QA = False := rfl
@[simp] theorem oA_exn : oA (some (.exn c d S)) QA = False := rfl
@[simp] theorem oT_tb {b : Bool} : oT (some (.tb b S)) QT = QT b S := rfl
@[simp] theorem oT_none : oT none QT = False := rfl
@[simp] theorem oT_exn : oT (some (.exn c d S)) QT = False := rfl
@[simp] theorem oI_some {ds : List PyData} : oI (some (ds, S)) QI = QI ds S := rfl
@[simp] theorem oI_none : oI none QI = False := rfl
@[simp] theorem oO_some {x : Option Int} : oO (some (x, S)) QO = QO x S := rfl
@[simp] theorem oO_none : oO none QO = False := rfl
@[simp] theorem oP_some {Q : Tg → PyData → Prop} : oP (some (t, d)) Q = Q t d := rfl
@[simp] theorem oP_none {Q : Tg → PyData → Prop} : oP none Q = False := rfl
@[simp] theorem oV_some {α : Type} {d : α} {Q : α → Prop} : oV (some d) Q = Q d := rfl
@[simp] theorem oV_none {α : Type} {Q : α → Prop} : oV none Q = False := rfl
@[simp] theorem oS_nx : oS (some (.nx sl S)) N K = N sl S := rfl
@[simp] theorem oS_rt : oS (some (.rt t v S)) N K = K.rt t v S := rfl
@[simp] theorem oS_bk : oS (some (.bk sl S)) N K = K.bk sl S := rfl
@[simp] theorem oS_ct : oS (some (.ct sl S)) N K = K.ct sl S := rfl
@[simp] theorem oS_none : oS none N K = False := rfl
@[simp] theorem oS_exn : oS (some (.exn c d sl S)) N K = False := rfl
@[simp] theorem vB_b {b : Bool} {Q : Bool → Prop} : vB (.py (.bool b)) Q = Q b := rfl
@[simp] theorem vI_i {b : Int} {Q : Int → Prop} : vI (.py (.int b)) Q = Q b := rfl
@[simp] theorem vP_p {Q : PyData → Prop} : vP (.py d) Q = Q d := rfl
@[simp] theorem vS_s {s : Str} {Q : Str → Prop} : vS (.py (.str s)) Q = Q s := rfl
@[simp] theorem vL_l {ds : List PyData} {Q : List PyData → Prop} : vL (.py (.list ds)) Q = Q ds := rfl
@[simp] theorem vQ_l {ds : List PyData} {Q : List PyData → Prop} : vQ (.py (.list ds)) Q = Q ds := rfl
@[simp] theorem vQ_t {ds : List PyData} {Q : List PyData → Prop} : vQ (.py (.tuple ds)) Q = Q ds := rfl
@[simp] theorem vQ_s {s : Str} {Q : List PyData → Prop} : vQ (.py (.str s)) Q = Q (chars s) := rfl
@[simp] theorem vQ_d {ds : List (PyData × PyData)} {Q : List PyData → Prop} : vQ (.py (.dict ds)) Q = Q (ds.map (·.1)) := rfl
@[simp] theorem dL_l {ds : List PyData} {Q : List PyData → Prop} : dL (.list ds) Q = Q ds := rfl
@[simp] theorem dD_d {ds : List (PyData × PyData)} {Q : List (PyData × PyData) → Prop} : dD (.dict ds) Q = Q ds := rfl
@[simp] theorem xI_i {j : Int} {Q : Int → Prop} : xI [(t, .py (.int j))] Q = Q j := rfl
@[simp] theorem xII_i {t' : Tg} {i j : Int} {Q : Int → Int → Prop} : xII [(t, .py (.int i)), (t', .py (.int j))] Q = Q i j := rfl
@[simp] theorem xL_l {ds : List PyData} {Q : List PyData → Prop} : xL [(.pure, .py (.list ds))] Q = Q ds := rfl
@[simp] theorem xLL_l {ds es : List PyData} {Q : List PyData → List PyData → Prop} : xLL [(.pure, .py (.list ds)), (.pure, .py (.list es))] Q = Q ds es := rfl
@[simp] theorem xLL_t {ds es : List PyData} {Q : List PyData → List PyData → Prop} : xLL [(.pure, .py (.tuple ds)), (.pure, .py (.tuple es))] Q = Q ds es := rfl
@[simp] theorem xP_p {Q : PyData → Prop} : xP [(.pure, .py d)] Q = Q d := rfl
@[simp] theorem sO_o {ds : List PyData} {Q : List PyData → Prop} : sO (some (.own (.list ds))) Q = Q ds := rfl
@[simp] theorem sX_b {Q : Nat → Prop} : sX (some (.p (.box k))) Q = Q k := rfl
@[simp] theorem sF_f {x : Str} {Q : Str → Prop} : sF (some (.p (.fn x))) Q = Q x := rfl
@[simp] theorem vE_e {Q : Str → PyData → Prop} {P : Prop} : vE (.err c d) Q P = Q c d := rfl
@[simp] theorem vE_n {Q : Str → PyData → Prop} {P : Prop} : vE (.py .none) Q P = P := rfl
@[simp] theorem v3_3 {a b c : Vl} {Q : Vl → Vl → Vl → Prop} : v3 [a, b, c] Q = Q a b c := rfl
@[simp] theorem outT_p : outT .pure = .pure := rfl
@[simp] theorem outT_f : outT .fresh = .fresh := rfl
@[simp] theorem outT_m : outT .mine = .fresh := rfl
theorem oE_ex {r : Option ER} (h : oE r Q) : ∃ t v S, r = some (.val t v S) ∧ Q t v S := by
  match r, h with
  | some (.val t v S), h => exact ⟨t, v, S, rfl, h⟩
theorem oT_ex {r : Option TR} (h : oT r QT) : ∃ b S, r = some (.tb b S) ∧ QT b S := by
  match r, h with
  | some (.tb b S), h => exact ⟨b, S, rfl, h⟩
theorem oV_ex {α : Type} {r : Option α} {Q : α → Prop} (h : oV r Q) : ∃ d, r = some d ∧ Q d := by
  match r, h with
  | some d, h => exact ⟨d, rfl, h⟩
theorem vP_ex {Q : PyData → Prop} (h : vP v Q) : ∃ d, v = .py d ∧ Q d := by
  match v, h with
  | .py d, h => exact ⟨d, rfl, h⟩
theorem oE_bindE {r : Option ER} {F : Tg → Vl → SS → Option ER} : oE (bindE r F) Q = oE r fun t v S => oE (F t v S) Q := by
  match r with
  | none => rfl
  | some (.val t v S) => rfl
  | some (.exn c d S) => rfl
theorem oS_bindS {r : Option ER} {F : Tg → Vl → SS → Option SR} : oS (bindS r sl F) N K = oE r fun t v S => oS (F t v S) N K := by
  match r with
  | none => rfl
  | some (.val t v S) => rfl
  | some (.exn c d S) => rfl
theorem oS_sB {r : Option SR} {F : Sl → SS → Option SR} : oS (sB r F) N K = oS r (fun sl S => oS (F sl S) N K) K := by
  match r with
  | none => rfl
  | some (.nx sl S) => rfl
  | some (.rt t v S) => rfl
  | some (.bk sl S) => rfl
  | some (.ct sl S) => rfl
  | some (.exn c d sl S) => rfl
/-! names and constants are reckoned by their equations -/
@[simp ↓] theorem w_C : oE (fC d sl S) Q = Q .pure (.py d) S := rfl
@[simp ↓] theorem w_Lit : oE (fLit t d sl S) Q = Q t (.py d) S := rfl
@[simp ↓] theorem w_Fn {x : Str} : oE (fFn x sl S) Q = Q .pure (.fn x) S := rfl
@[simp ↓] theorem w_Fz : oE (fFz f sl S) Q = oE (f sl S) fun t v S1 => t ≠ .mine ∧ Q .pure v S1 := by
  rw [ap_Fz, oE_bindE]; refine oE_ext fun t v S1 => ?_; cases t <;> simp
@[simp ↓] theorem w_Bin {sem : PyData → PyData → Option (Tg × PyData)} : oE (fBin sem f g sl S) Q = oE (f sl S) fun _ v1 S1 => oE (g sl S1) fun _ v2 S2 => oV (cont S2 v1) fun d1 => oV (cont S2 v2) fun d2 => oP (sem d1 d2) fun t d => Q t (.py d) S2 := by
  rw [ap_Bin, oE_bindE]; refine oE_ext fun _ v1 S1 => ?_; rw [oE_bindE]; refine oE_ext fun _ v2 S2 => ?_
  cases cont S2 v1 with
  | none => rfl
  | some d1 => cases cont S2 v2 with
    | none => rfl
    | some d2 =>
      show oE (match sem d1 d2 with
        | some (t, d) => some (.val t (.py d) S2)
        | none => none) Q = oP (sem d1 d2) _
      cases sem d1 d2 with
      | none => rfl
      | some r => rfl
@[simp ↓] theorem w_Ix : oE (fIx f g sl S) Q = oE (f sl S) fun _ v1 S1 => oE (g sl S1) fun _ v2 S2 => oV (cont S2 v1) fun d1 => oV (cont S2 v2) fun d2 => oV (ixP d1 d2) fun d => Q .pure (.py d) S2 := by
  unfold fIx; rw [w_Bin]; refine oE_ext fun _ v1 S1 => ?_; refine oE_ext fun _ v2 S2 => ?_
  refine oV_ext fun d1 => ?_; refine oV_ext fun d2 => ?_
  cases ixP d1 d2 <;> rfl
@[simp ↓] theorem w_aNil : oA (faNil sl S) QA = QA [] S := rfl
@[simp ↓] theorem w_aCons : oA (faCons f ga sl S) QA = oE (f sl S) fun t v S1 => oA (ga sl S1) fun xs S2 => QA ((t, v) :: xs) S2 := by
  rw [ap_faCons]
  match f sl S with
  | none => rfl
  | some (.exn c d S) => rfl
  | some (.val t v S1) =>
    simp only [oE_val]
    match ga sl S1 with
    | none => rfl
    | some (.exn c d S) => rfl
    | some (.vals xs S2) => rfl
@[simp ↓] theorem w_aLit {ds : List PyData} : oA (faLit ds sl S) QA = QA (ds.map fun d => (.pure, .py d)) S := rfl
@[simp ↓] theorem w_Seq {mk : List PyData → PyData} : oE (fSeq mk t ga sl S) Q = oA (ga sl S) fun xs S1 => oV (pys xs) fun ds => ds.length ≤ LIM ∧ Q t (.py (mk ds)) S1 := by
  rw [ap_Seq]
  match ga sl S with
  | none => rfl
  | some (.exn c d S) => rfl
  | some (.vals xs S1) =>
    simp only [oA_vals]
    cases pys xs with
    | none => rfl
    | some ds =>
      show oE (if ds.length ≤ LIM then _ else none) Q = (ds.length ≤ LIM ∧ _)
      by_cases h : ds.length ≤ LIM
      · rw [if_pos h]; exact (propext ⟨fun q => ⟨h, q⟩, fun q => q.2⟩)
      · rw [if_neg h]; exact (propext ⟨fun q => q.elim, fun q => absurd q.1 h⟩)
@[simp ↓] theorem w_Tb : oT (fTb f sl S) QT = oE (f sl S) fun _ v S' => vB v fun b => QT b S' := by
  rw [ap_Tb]
  match f sl S with
  | none => rfl
  | some (.exn c d S) => rfl
  | some (.val t v S1) =>
    cases v with
    | py d => cases d <;> rfl
    | _ => rfl
@[simp ↓] theorem w_NotT : oT (fNotT ft sl S) QT = oT (ft sl S) fun b S' => QT (!b) S' := by
  rw [ap_NotT]
  match ft sl S with
  | none => rfl
  | some (.exn c d S) => rfl
  | some (.tb b S1) => rfl
@[simp ↓] theorem w_AndT : oT (fAndT ft gt sl S) QT = oT (ft sl S) fun b S' => if b = true then oT (gt sl S') QT else QT false S' := by
  rw [ap_AndT]
  match ft sl S with
  | none => rfl
  | some (.exn c d S) => rfl
  | some (.tb b S1) => cases b <;> rfl
@[simp ↓] theorem w_OrT : oT (fOrT ft gt sl S) QT = oT (ft sl S) fun b S' => if b = true then QT true S' else oT (gt sl S') QT := by
  rw [ap_OrT]
  match ft sl S with
  | none => rfl
  | some (.exn c d S) => rfl
  | some (.tb b S1) => cases b <;> rfl
@[simp ↓] theorem w_Yes : oT (fYes sl S) QT = QT true S := rfl
@[simp ↓] theorem w_And : oE (fAnd f g sl S) Q = oE (f sl S) fun _ v S1 => vB v fun b => if b = true then oE (g sl S1) Q else Q .pure (.py (.bool false)) S1 := by
  rw [ap_And, oE_bindE]; refine oE_ext fun _ v S1 => ?_
  cases v with
  | py d => cases d with
    | bool b => cases b <;> rfl
    | _ => rfl
  | _ => rfl
@[simp ↓] theorem w_Or : oE (fOr f g sl S) Q = oE (f sl S) fun _ v S1 => vB v fun b => if b = true then Q .pure (.py (.bool true)) S1 else oE (g sl S1) Q := by
  rw [ap_Or, oE_bindE]; refine oE_ext fun _ v S1 => ?_
  cases v with
  | py d => cases d with
    | bool b => cases b <;> rfl
    | _ => rfl
  | _ => rfl
@[simp ↓] theorem w_Not : oE (fNot f sl S) Q = oE (f sl S) fun _ v S1 => vB v fun b => Q .pure (.py (.bool (!b))) S1 := by
  rw [ap_Not, oE_bindE]; refine oE_ext fun _ v S1 => ?_
  cases v with
  | py d => cases d <;> rfl
  | _ => rfl
@[simp ↓] theorem w_If : oE (fIf ft f g sl S) Q = oT (ft sl S) fun b S' => if b = true then oE (f sl S') Q else oE (g sl S') Q := by
  rw [ap_If]
  match ft sl S with
  | none => rfl
  | some (.exn c d S) => rfl
  | some (.tb b S1) => cases b <;> rfl
@[simp ↓] theorem w_IsN {neg : Bool} : oE (fIsN neg f sl S) Q = oE (f sl S) fun _ v S1 => Q .pure (.py (.bool (neg ^^ isNon v))) S1 := by
  rw [ap_IsN, oE_bindE]; rfl
@[simp ↓] theorem w_IsB {neg b : Bool} : oE (fIsB neg b f sl S) Q = oE (f sl S) fun _ v S1 => Q .pure (.py (.bool (neg ^^ isBl b v))) S1 := by
  rw [ap_IsB, oE_bindE]; rfl
@[simp ↓] theorem w_oNone : oO (foNone sl S) QO = QO none S := rfl
@[simp ↓] theorem w_oSome : oO (foSome f sl S) QO = oE (f sl S) fun _ v S' => vI v fun i => QO (some i) S' := by
  rw [ap_oSome]
  match f sl S with
  | none => rfl
  | some (.exn c d S) => rfl
  | some (.val t v S1) =>
    cases v with
    | py d => cases d <;> rfl
    | _ => rfl
@[simp ↓] theorem w_Sl {fl fh : FO} : oE (fSl f fl fh sl S) Q = oE (f sl S) fun _ v S1 => oO (fl sl S1) fun lo S2 => oO (fh sl S2) fun hi S3 => oV (cont S3 v) fun d => oP (slP d lo hi) fun t d' => Q t (.py d') S3 := by
  rw [ap_Sl, oE_bindE]; refine oE_ext fun _ v S1 => ?_
  cases fl sl S1 with
  | none => rfl
  | some r =>
    obtain ⟨lo, S2⟩ := r
    simp only [oO_some]
    cases fh sl S2 with
    | none => rfl
    | some r =>
      obtain ⟨hi, S3⟩ := r
      simp only [oO_some]
      cases cont S3 v with
      | none => rfl
      | some d =>
        simp only [oV_some]
        cases slP d lo hi with
        | none => rfl
        | some r => rfl
@[simp ↓] theorem w_Call {sem : List PyData → Option (Tg × PyData)} : oE (fCall sem ga sl S) Q = oA (ga sl S) fun xs S1 => oV (conts S1 xs) fun ds => oP (sem ds) fun t d => Q t (.py d) S1 := by
  rw [ap_Call]
  match ga sl S with
  | none => rfl
  | some (.exn c d S) => rfl
  | some (.vals xs S1) =>
    simp only [oA_vals]
    cases conts S1 xs with
    | none => rfl
    | some ds =>
      simp only [oV_some]
      cases sem ds with
      | none => rfl
      | some r => rfl
@[simp ↓] theorem w_Isi {t : Ty} : oE (fIsi t f sl S) Q = oE (f sl S) fun _ v S1 => oV (cont S1 v) fun d => Q .pure (.py (.bool (isTy t d))) S1 := by
  rw [ap_Isi, oE_bindE]; refine oE_ext fun _ v S1 => ?_; cases cont S1 v <;> rfl
@[simp ↓] theorem w_Isi2 {t1 t2 : Ty} : oE (fIsi2 t1 t2 f sl S) Q = oE (f sl S) fun _ v S1 => oV (cont S1 v) fun d => Q .pure (.py (.bool (isTy t1 d || isTy t2 d))) S1 := by
  rw [ap_Isi2, oE_bindE]; refine oE_ext fun _ v S1 => ?_; cases cont S1 v <;> rfl
theorem oE_outE {r : Option ER} : oE (outE r) Q = oE r fun t v S2 => Q (outT t) v S2 := by
  match r with
  | none => rfl
  | some (.exn c d S) => rfl
  | some (.val t v S1) => cases t <;> rfl
theorem oE_if {p : Prop} [Decidable p] {r : Option ER} : oE (if p then r else none) Q = (p ∧ oE r Q) := by
  by_cases h : p
  · rw [if_pos h]; exact (propext ⟨fun q => ⟨h, q⟩, fun q => q.2⟩)
  · rw [if_neg h]; exact (propext ⟨fun q => q.elim, fun q => absurd q.1 h⟩)
theorem oS_if {p : Prop} [Decidable p] {r : Option SR} : oS (if p then r else none) N K = (p ∧ oS r N K) := by
  by_cases h : p
  · rw [if_pos h]; exact (propext ⟨fun q => ⟨h, q⟩, fun q => q.2⟩)
  · rw [if_neg h]; exact (propext ⟨fun q => q.elim, fun q => absurd q.1 h⟩)
theorem oI_if {p : Prop} [Decidable p] {r : Option (List PyData × SS)} : oI (if p then r else none) QI = (p ∧ oI r QI) := by
  by_cases h : p
  · rw [if_pos h]; exact (propext ⟨fun q => ⟨h, q⟩, fun q => q.2⟩)
  · rw [if_neg h]; exact (propext ⟨fun q => q.elim, fun q => absurd q.1 h⟩)
theorem w_res {F : FF} {as : Option (List Vl)} : oE (match as with
    | some as => if as.length = n then outE (F as S) else none
    | none => none) Q = oV as fun as => as.length = n ∧ oE (F as S) fun t v S2 => Q (outT t) v S2 := by
  cases as with
  | none => rfl
  | some as => simp only [oV_some, oE_if, oE_outE]
@[simp ↓] theorem w_CallF {F : FF} : oE (fCallF n F ga sl S) Q = oA (ga sl S) fun xs S1 => oV (argsOf xs) fun as => as.length = n ∧ oE (F as S1) fun t v S2 => Q (outT t) v S2 := by
  rw [ap_CallF]
  match ga sl S with
  | none => rfl
  | some (.exn c d S) => rfl
  | some (.vals xs S1) => exact w_res
@[simp ↓] theorem w_CallK {F : FF} {perm : List Nat} : oE (fCallK perm m n F ga sl S) Q = oA (ga sl S) fun xs S1 => xs.length = m ∧ oV (argsOf (pick perm xs)) fun as => as.length = n ∧ oE (F as S1) fun t v S2 => Q (outT t) v S2 := by
  rw [ap_CallK]
  match ga sl S with
  | none => rfl
  | some (.exn c d S) => rfl
  | some (.vals xs S1) => exact oE_if.trans (congrArg (fun p => (xs.length = m ∧ p)) w_res)
@[simp ↓] theorem w_CallL {fs : List (Str × Nat × FF)} : oE (fCallL i fs ga sl S) Q = sF sl[i]? fun f => oV (fs.lookup f) fun p => oA (ga sl S) fun xs S1 => oV (argsOf xs) fun as => as.length = p.1 ∧ oE (p.2 as S1) fun t v S2 => Q (outT t) v S2 := by
  rw [ap_CallL]
  match sl[i]? with
  | none => rfl
  | some .un => rfl
  | some (.own _) => rfl
  | some (.p (.py _)) => rfl
  | some (.p (.box _)) => rfl
  | some (.p (.err _ _)) => rfl
  | some (.p (.fn f)) =>
    simp only [sF_f]
    match fs.lookup f with
    | none => rfl
    | some (n, F) =>
      match ga sl S with
      | none => rfl
      | some (.exn c d S) => rfl
      | some (.vals xs S1) => exact w_res
@[simp ↓] theorem w_Neg : oE (fNeg f sl S) Q = oE (f sl S) fun _ v S1 => vI v fun i => Q .pure (.py (.int (-i))) S1 := by
  rw [ap_Neg, oE_bindE]; refine oE_ext fun _ v S1 => ?_
  cases v with
  | py d => cases d <;> rfl
  | _ => rfl
@[simp ↓] theorem w_Bits : oE (fBits f sl S) Q = oE (f sl S) fun _ v S1 => vI v fun i => Q .pure (.py (.int ((Builtin.Int.intBits i : Nat) : Int))) S1 := by
  rw [ap_Bits, oE_bindE]; refine oE_ext fun _ v S1 => ?_
  cases v with
  | py d => cases d <;> rfl
  | _ => rfl
@[simp ↓] theorem w_Rep : oE (fRep f g sl S) Q = oE (f sl S) fun t v S1 => oE (g sl S1) fun _ v2 S2 => t = .fresh ∧ vL v fun xs => vI v2 fun n => (n ≤ 10000 ∧ -10000 ≤ n ∧ xs.length ≤ 9) ∧ Q .fresh (.py (.list (List.replicate n.toNat xs).flatten)) S2 := by
  rw [ap_Rep, oE_bindE]; refine oE_ext fun t v S1 => ?_; rw [oE_bindE]; refine oE_ext fun _ v2 S2 => ?_
  cases t with
  | fresh =>
    cases v with
    | py d => cases d with
      | list xs => cases v2 with
        | py d2 => cases d2 with
          | int n => simp only [true_and, vL_l, vI_i]; exact oE_if
          | _ => simp [vI, vL]
        | _ => simp [vI, vL]
      | _ => simp [vL]
    | _ => simp [vL]
  | _ => simp
@[simp ↓] theorem w_Rev : oE (fRev f sl S) Q = oE (f sl S) fun _ v S1 => oV (cont S1 v) fun d => dL d fun ds => Q .fresh (.py (.list ds.reverse)) S1 := by
  rw [ap_Rev, oE_bindE]; refine oE_ext fun t v S1 => ?_
  match cont S1 v with
  | none => rfl
  | some d => cases d <;> rfl
@[simp ↓] theorem w_Join : oE (fJoin f g sl S) Q = oE (f sl S) fun _ v S1 => vS v fun z => oE (g sl S1) fun _ v2 S2 => vL v2 fun ds => oV (strsOf ds) fun ys => (ys.map (·.length)).sum + ys.length * z.length ≤ LIM ∧ Q .pure (.py (.str (Txt.join z ys))) S2 := by
  rw [ap_Join, oE_bindE]; refine oE_ext fun t v S1 => ?_
  cases v with
  | py d =>
    cases d with
    | str z =>
      simp only [oE_bindE, vS_s]
      refine oE_ext fun _ v2 S2 => ?_
      cases v2 with
      | py d2 =>
        cases d2 with
        | list ds =>
          simp only [vL_l]
          cases strsOf ds with
          | none => rfl
          | some ys => exact oE_if
        | _ => rfl
      | _ => rfl
    | _ => rfl
  | _ => rfl
@[simp ↓] theorem w_Disp {ks : List Str} : oE (fDisp ks ga sl S) Q = oA (ga sl S) fun xs S1 => oV (pys xs) fun ds => (ks.Nodup ∧ ds.length = ks.length) ∧ Q .fresh (.py (.dict ((ks.map PyData.str).zip ds))) S1 := by
  rw [ap_Disp]
  match ga sl S with
  | none => rfl
  | some (.exn c d S) => rfl
  | some (.vals xs S1) =>
    simp only [oA_vals]
    cases pys xs with
    | none => rfl
    | some ds => exact oE_if
@[simp ↓] theorem w_Dget : oE (fDget f g sl S) Q = oE (f sl S) fun _ v1 S1 => oE (g sl S1) fun _ v2 S2 => oV (cont S2 v1) fun d => dD d fun kvs => vP v2 fun y => oV (keyOf y) fun k => oV (lookK kvs k) fun d => Q .pure (.py d) S2 := by
  rw [ap_Dget, oE_bindE]; refine oE_ext fun t v1 S1 => ?_; rw [oE_bindE]; refine oE_ext fun _ v2 S2 => ?_
  match cont S2 v1 with
  | none => cases v2 <;> rfl
  | some d =>
    cases d with
    | dict kvs =>
      simp only [oV_some, dD_d]
      cases v2 with
      | py y =>
        simp only [vP_p]
        cases keyOf y with
        | none => rfl
        | some k =>
          simp only [oV_some]
          cases lookK kvs k <;> rfl
      | _ => rfl
    | _ => cases v2 <;> rfl
@[simp ↓] theorem w_Chain {s1 s2 : PyData → PyData → Option (Tg × PyData)} : oE (fChain s1 s2 f g h sl S) Q = oE (f sl S) fun _ v1 S1 => oE (g sl S1) fun t2 v2 S2 => t2 = .pure ∧ oV (cont S2 v1) fun d1 => oV (cont S2 v2) fun d2 => oP (s1 d1 d2) fun _ b => vB (.py b) fun b => if b = true then oE (h sl S2) fun _ v3 S3 => oV (cont S3 v2) fun d2' => oV (cont S3 v3) fun d3 => oP (s2 d2' d3) fun _ e => vB (.py e) fun e => Q .pure (.py (.bool e)) S3 else Q .pure (.py (.bool false)) S2 := by
  rw [ap_Chain, oE_bindE]; refine oE_ext fun t v1 S1 => ?_; rw [oE_bindE]; refine oE_ext fun t2 v2 S2 => ?_
  cases t2 with
  | pure =>
    simp only [true_and]
    cases cont S2 v1 with
    | none => rfl
    | some d1 =>
      cases cont S2 v2 with
      | none => rfl
      | some d2 =>
        simp only [oV_some]
        match s1 d1 d2 with
        | none => rfl
        | some (tt, .bool true) =>
          simp only [oP_some, vB_b, if_true, oE_bindE]
          refine oE_ext fun _ v3 S3 => ?_
          cases cont S3 v2 with
          | none => rfl
          | some d2' =>
            cases cont S3 v3 with
            | none => rfl
            | some d3 =>
              simp only [oV_some]
              match s2 d2' d3 with
              | none => rfl
              | some (_, .bool e) => rfl
              | some (_, .none) => rfl
              | some (_, .int _) => rfl
              | some (_, .str _) => rfl
              | some (_, .list _) => rfl
              | some (_, .tuple _) => rfl
              | some (_, .dict _) => rfl
        | some (tt, .bool false) => rfl
        | some (_, .none) => rfl
        | some (_, .int _) => rfl
        | some (_, .str _) => rfl
        | some (_, .list _) => rfl
        | some (_, .tuple _) => rfl
        | some (_, .dict _) => rfl
  | _ => simp
/-! statements -/
@[simp ↓] theorem w_Nil : oS (fNil sl S) N K = N sl S := rfl
@[simp ↓] theorem w_Then : oS (fThen fs gs sl S) N K = oS (fs sl S) (fun sl S => oS (gs sl S) N K) K := by rw [ap_Then, oS_sB]
@[simp ↓] theorem w_Drop : oS (fDrop f sl S) N K = oE (f sl S) fun _ _ S1 => N sl S1 := by rw [ap_Drop, oS_bindS]; rfl
@[simp ↓] theorem w_Set : oS (fSet i f sl S) N K = oE (f sl S) fun t v S1 => oV (slotOf t v) fun s => N (sl.set i s) S1 := by
  rw [ap_Set, oS_bindS]; refine oE_ext fun t v S1 => ?_; cases slotOf t v <;> rfl
@[simp ↓] theorem w_Ret : oS (fRet f sl S) N K = oE (f sl S) fun t v S1 => K.rt t v S1 := by rw [ap_Ret, oS_bindS]; rfl
@[simp ↓] theorem w_RetN : oS (fRetN sl S) N K = K.rt .pure (.py .none) S := rfl
@[simp ↓] theorem w_Break : oS (fBreak sl S) N K = K.bk sl S := rfl
@[simp ↓] theorem w_Cont : oS (fCont sl S) N K = K.ct sl S := rfl
@[simp ↓] theorem w_IfS : oS (fIfS ft fs gs sl S) N K = oT (ft sl S) fun b S' => if b = true then oS (fs sl S') N K else oS (gs sl S') N K := by
  rw [ap_IfS]
  match ft sl S with
  | none => rfl
  | some (.exn c d S) => rfl
  | some (.tb b S1) => cases b <;> rfl
@[simp ↓] theorem w_iSeq : oI (fiSeq f sl S) QI = oE (f sl S) fun t v S' => t = .pure ∧ vQ v fun ds => QI ds S' := by
  rw [ap_iSeq]
  match f sl S with
  | none => rfl
  | some (.exn c d S) => rfl
  | some (.val t v S1) =>
    cases t with
    | pure => cases v with
      | py d => cases d <;> simp [vQ]
      | _ => simp [vQ]
    | _ => simp
@[simp ↓] theorem w_For {g2 : PyData → Sl → Option Sl} : oS (fFor fi g2 fs sl S) N K = oI (fi sl S) fun ds S1 => oS (forLoop g2 fs ds sl S1) N K := by
  rw [ap_For]
  match fi sl S with
  | none => rfl
  | some (ds, S1) => rfl
@[simp ↓] theorem w_Asg {g2 : PyData → Sl → Option Sl} : oS (fAsg f g2 sl S) N K = oE (f sl S) fun t v S1 => t = .pure ∧ vP v fun d => oV (g2 d sl) fun sl' => N sl' S1 := by
  rw [ap_Asg, oS_bindS]; refine oE_ext fun t v S1 => ?_
  cases t with
  | pure => cases v with
    | py d =>
      simp only [true_and, vP_p]
      cases g2 d sl <;> rfl
    | _ => simp [vP]
  | _ => simp
@[simp ↓] theorem w_Par : oS (fPar i j f g sl S) N K = oE (f sl S) fun t1 v1 S1 => oE (g sl S1) fun t2 v2 S2 => oV (slotOf t1 v1) fun s1 => oV (slotOf t2 v2) fun s2 => (i < sl.length ∧ j < sl.length) ∧ N ((sl.set i s1).set j s2) S2 := by
  rw [ap_Par, oS_bindS]; refine oE_ext fun t1 v1 S1 => ?_; rw [oS_bindS]; refine oE_ext fun t2 v2 S2 => ?_
  cases slotOf t1 v1 with
  | none => rfl
  | some s1 => cases slotOf t2 v2 with
    | none => rfl
    | some s2 => exact oS_if
@[simp ↓] theorem w_Par3 : oS (fPar3 i j l ga sl S) N K = oA (ga sl S) fun xs S1 => oV (argsOf xs) fun vs => v3 vs fun v1 v2 v3 => N (((sl.set i (.p v1)).set j (.p v2)).set l (.p v3)) S1 := by
  rw [ap_Par3]
  match ga sl S with
  | none => rfl
  | some (.exn c d S) => rfl
  | some (.vals xs S1) =>
    simp only [oA_vals]
    match argsOf xs with
    | none => rfl
    | some [] => rfl
    | some [_] => rfl
    | some [_, _] => rfl
    | some [_, _, _] => rfl
    | some (_ :: _ :: _ :: _ :: _) => rfl
@[simp ↓] theorem w_Lock : oS (fLock i fs sl S) N K = oS (fs sl S) (fun sl' S' => N (lockSl i sl') S') K := by
  rw [ap_Lock]
  match fs sl S with
  | none => rfl
  | some (.nx sl S) => rfl
  | some (.rt t v S) => rfl
  | some (.bk sl S) => rfl
  | some (.ct sl S) => rfl
  | some (.exn c d sl S) => rfl
@[simp ↓] theorem w_SetBox : oS (fSetBox i f sl S) N K = oE (f sl S) fun t v S1 => t = .fresh ∧ vP v fun d => N (sl.set i (.p (.box S1.length))) (S1 ++ [d]) := by
  rw [ap_SetBox, oS_bindS]; refine oE_ext fun t v S1 => ?_
  cases t with
  | fresh => cases v <;> simp [vP]
  | _ => simp
@[simp ↓] theorem w_App : oS (fApp i ga sl S) N K = oA (ga sl S) fun xs S1 => xP xs fun y => sO sl[i]? fun ds => ds.length < LIM ∧ N (sl.set i (.own (.list (ds ++ [y])))) S1 := by
  rw [ap_App]
  match ga sl S with
  | none => rfl
  | some (.exn c d S) => rfl
  | some (.vals xs S1) =>
    match xs with
    | [] => rfl
    | [(.fresh, _)] => rfl
    | [(.mine, _)] => rfl
    | [(.pure, .fn _)] => rfl
    | [(.pure, .err _ _)] => rfl
    | [(.pure, .box _)] => rfl
    | (t1, v1) :: _ :: _ => cases t1 <;> cases v1 <;> rfl
    | [(.pure, .py y)] =>
      simp only [oA_vals, xP_p]
      match sl[i]? with
      | none => rfl
      | some .un => rfl
      | some (.p _) => rfl
      | some (.own (.list ds)) => exact oS_if
      | some (.own .none) => rfl
      | some (.own (.bool _)) => rfl
      | some (.own (.int _)) => rfl
      | some (.own (.str _)) => rfl
      | some (.own (.tuple _)) => rfl
      | some (.own (.dict _)) => rfl
@[simp ↓] theorem w_Lc {g2 : PyData → Sl → Option Sl} {vs : List Nat} : oE (fLc fi g2 ft f vs sl S) Q = oI (fi sl S) fun ds S1 => oI (lcLoop g2 ft f (wipeSl sl vs) ds [] S1) fun acc S2 => Q .fresh (.py (.list acc)) S2 := by
  rw [ap_Lc]
  match fi sl S with
  | none => rfl
  | some (ds, S1) =>
    simp only [oI_some]
    match lcLoop g2 ft f (wipeSl sl vs) ds [] S1 with
    | none => rfl
    | some (acc, S2) => rfl
@[simp ↓] theorem w_iRg1 : oI (fiRg1 ga sl S) QI = oA (ga sl S) fun xs S' => xI xs fun j => rgOk j = true ∧ QI (rng 0 j.toNat) S' := by
  rw [ap_iRg1]
  match ga sl S with
  | none => rfl
  | some (.exn c d S) => rfl
  | some (.vals xs S1) =>
    match xs with
    | [] => rfl
    | [(_, .fn _)] => rfl
    | [(_, .err _ _)] => rfl
    | [(_, .box _)] => rfl
    | (t1, v1) :: _ :: _ =>
      cases v1 with
      | py y => cases y <;> rfl
      | _ => rfl
    | [(_, .py y)] =>
      cases y with
      | int j => exact oI_if
      | _ => rfl
@[simp ↓] theorem w_iRg2 : oI (fiRg2 ga sl S) QI = oA (ga sl S) fun xs S' => xII xs fun i j => (rgOk i = true ∧ rgOk j = true) ∧ QI (rng i (j - i).toNat) S' := by
  rw [ap_iRg2]
  match ga sl S with
  | none => rfl
  | some (.exn c d S) => rfl
  | some (.vals xs S1) =>
    match xs with
    | [] => rfl
    | [(_, v1)] =>
      cases v1 with
      | py y => cases y <;> rfl
      | _ => rfl
    | _ :: _ :: _ :: _ => simp [xII]
    | [(_, .fn _), _] => rfl
    | [(_, .err _ _), _] => rfl
    | [(_, .box _), _] => rfl
    | [(_, .py y), (_, z)] =>
      cases y with
      | int i => cases z with
        | py z => cases z with
          | int j => exact oI_if
          | _ => rfl
        | _ => rfl
      | _ => simp [xII]
@[simp ↓] theorem w_iEn : oI (fiEn ga sl S) QI = oA (ga sl S) fun xs S' => xL xs fun ds => QI (enumD ds) S' := by
  rw [ap_iEn]
  match ga sl S with
  | none => rfl
  | some (.exn c d S) => rfl
  | some (.vals xs S1) =>
    match xs with
    | [] => rfl
    | [(.fresh, _)] => rfl
    | [(.mine, _)] => rfl
    | [(.pure, .fn _)] => rfl
    | [(.pure, .err _ _)] => rfl
    | [(.pure, .box _)] => rfl
    | _ :: _ :: _ => simp [xL]
    | [(.pure, .py y)] => cases y <;> rfl
@[simp ↓] theorem w_iZip : oI (fiZip ga sl S) QI = oA (ga sl S) fun xs S' => xLL xs fun ds ds2 => QI (zipD ds ds2) S' := by
  rw [ap_iZip]
  match ga sl S with
  | none => rfl
  | some (.exn c d S) => rfl
  | some (.vals xs S1) =>
    unfold xLL
    simp only [oA_vals]
    split <;> first | rfl | simp_all
@[simp ↓] theorem w_IsiC {tab : List (Str × Bool)} : oE (fIsiC tab f sl S) Q = oE (f sl S) fun t v S1 => t = .pure ∧ vE v (fun c _ => oV (tab.lookup c) fun b => Q .pure (.py (.bool b)) S1) (Q .pure (.py (.bool false)) S1) := by
  rw [ap_IsiC, oE_bindE]; refine oE_ext fun t v S1 => ?_
  cases t with
  | pure => cases v with
    | err c d => simp only [true_and, vE_e]; cases tab.lookup c <;> rfl
    | py d => cases d <;> simp [vE]
    | _ => simp [vE]
  | _ => simp
@[simp ↓] theorem w_ErrVal {cs : List Str} : oE (fErrVal cs f sl S) Q = oE (f sl S) fun t v S1 => t = .pure ∧ vE v (fun c d => cs.contains c = true ∧ Q .pure (.py d) S1) False := by
  rw [ap_ErrVal, oE_bindE]; refine oE_ext fun t v S1 => ?_
  cases t with
  | pure => cases v with
    | err c d => simp only [true_and, vE_e]; exact oE_if
    | py d => cases d <;> simp [vE]
    | _ => simp [vE]
  | _ => simp
/-- a loop, by what holds ahead of each thing -/
theorem oS_for {g2 : PyData → Sl → Option Sl} (P : Nat → Sl → SS → Prop) : ∀ (ds : List PyData) (k : Nat) (sl : Sl) (S : SS), P k sl S →
    (∀ i d sl S, ds[i]? = some d → P (k + i) sl S → oV (g2 d sl) fun sl1 => oS (fs sl1 S) (P (k + i + 1)) { rt := K.rt, bk := N, ct := P (k + i + 1) }) →
    (∀ sl S, P (k + ds.length) sl S → N sl S) → oS (forLoop g2 fs ds sl S) N K
  | [], k, sl, S, h, _, hN => by
    rw [for_nil, oS_nx]
    exact hN _ _ h
  | d :: ds, k, sl, S, h, st, hN => by
    have st' : ∀ i d sl S, ds[i]? = some d → P (k + 1 + i) sl S → oV (g2 d sl) fun sl1 => oS (fs sl1 S) (P (k + 1 + i + 1)) { rt := K.rt, bk := N, ct := P (k + 1 + i + 1) } := fun i d' sl S e q => by
      have := st (i + 1) d' sl S (by simpa using e) (by rw [show k + (i + 1) = k + 1 + i by omega]; exact q)
      rw [show k + (i + 1) + 1 = k + 1 + i + 1 by omega] at this
      exact this
    have hN' : ∀ sl S, P (k + 1 + ds.length) sl S → N sl S := fun sl S q => hN sl S (by rw [show k + (d :: ds).length = k + 1 + ds.length by simp; omega]; exact q)
    obtain ⟨sl1, e1, h1⟩ := oV_ex (st 0 d sl S rfl h)
    rw [for_cons, e1]
    dsimp only
    revert h1
    match fs sl1 S with
    | none => exact fun h => h
    | some (.exn c d sl S) => exact fun h => h
    | some (.nx sl2 S2) => exact fun h2 => oS_for P ds (k + 1) sl2 S2 h2 st' hN'
    | some (.ct sl2 S2) => exact fun h2 => oS_for P ds (k + 1) sl2 S2 h2 st' hN'
    | some (.bk sl2 S2) => exact fun h2 => h2
    | some (.rt t v S2) => exact fun h2 => h2
theorem oS_for0 {g2 : PyData → Sl → Option Sl} {ds : List PyData} (P : Nat → Sl → SS → Prop) (h : P 0 sl S)
    (st : ∀ i d sl S, ds[i]? = some d → P i sl S → oV (g2 d sl) fun sl1 => oS (fs sl1 S) (P (i + 1)) { rt := K.rt, bk := N, ct := P (i + 1) })
    (hN : ∀ sl S, P ds.length sl S → N sl S) : oS (forLoop g2 fs ds sl S) N K :=
  oS_for P ds 0 sl S h (fun i d sl S e q => by rw [Nat.zero_add] at *; exact st i d sl S e q) (fun sl S q => by rw [Nat.zero_add] at q; exact hN sl S q)
/-- a comprehension, by what holds ahead of each thing -/
theorem oI_lcG {g2 : PyData → Sl → Option Sl} {QI : List PyData → SS → Prop} (P : Nat → List PyData → SS → Prop) : ∀ (ds : List PyData) (k : Nat) (acc : List PyData) (S : SS), P k acc S → acc.length + ds.length ≤ LIM →
    (∀ i d acc S, ds[i]? = some d → P (k + i) acc S → oV (g2 d sl) fun sl1 => oT (ft sl1 S) fun b S1 => if b = true then oE (f sl1 S1) fun t v S2 => t = .pure ∧ vP v fun y => P (k + i + 1) (acc ++ [y]) S2 else P (k + i + 1) acc S1) →
    (∀ acc' S, acc'.length ≤ acc.length + ds.length → P (k + ds.length) acc' S → QI acc' S) → oI (lcLoop g2 ft f sl ds acc S) QI
  | [], k, acc, S, h, _, _, hN => by
    rw [lc_nil, oI_some]
    exact hN _ _ (by simp) h
  | d :: ds, k, acc, S, h, hl, st, hN => by
    have hl' : acc.length + ds.length + 1 ≤ LIM := by simpa [Nat.add_assoc] using hl
    have st' : ∀ i d acc S, ds[i]? = some d → P (k + 1 + i) acc S → oV (g2 d sl) fun sl1 => oT (ft sl1 S) fun b S1 => if b = true then oE (f sl1 S1) fun t v S2 => t = .pure ∧ vP v fun y => P (k + 1 + i + 1) (acc ++ [y]) S2 else P (k + 1 + i + 1) acc S1 := fun i d' acc S e q => by
      have := st (i + 1) d' acc S (by simpa using e) (by rw [show k + (i + 1) = k + 1 + i by omega]; exact q)
      rw [show k + (i + 1) + 1 = k + 1 + i + 1 by omega] at this
      exact this
    obtain ⟨sl1, e1, h1⟩ := oV_ex (st 0 d acc S rfl h)
    obtain ⟨b, S1, e2, h2⟩ := oT_ex h1
    rw [lc_cons, e1]
    dsimp only
    rw [e2]
    cases b with
    | false =>
      dsimp only
      refine oI_lcG P ds (k + 1) acc S1 (by simpa using h2) (by omega) st' fun acc' S' hl q => hN acc' S' (by simp only [List.length_cons]; omega) ?_
      rw [show k + (d :: ds).length = k + 1 + ds.length by simp; omega]
      exact q
    | true =>
      dsimp only
      rw [if_pos rfl] at h2
      obtain ⟨t, v, S2, e3, rfl, h2'⟩ := oE_ex h2
      obtain ⟨y, rfl, h3⟩ := vP_ex h2'
      rw [e3]
      dsimp only
      rw [if_pos (by omega)]
      refine oI_lcG P ds (k + 1) (acc ++ [y]) S2 h3 (by rw [List.length_append]; simp only [List.length_singleton]; omega) st' fun acc' S' hl q => hN acc' S' (by rw [List.length_append] at hl; simp only [List.length_singleton] at hl; simp only [List.length_cons]; omega) ?_
      rw [show k + (d :: ds).length = k + 1 + ds.length by simp; omega]
      exact q
theorem oI_lc {g2 : PyData → Sl → Option Sl} {ds : List PyData} {QI : List PyData → SS → Prop} (P : Nat → List PyData → SS → Prop) (h : P 0 [] S) (hl : ds.length ≤ LIM)
    (st : ∀ i d acc S, ds[i]? = some d → P i acc S → oV (g2 d sl) fun sl1 => oT (ft sl1 S) fun b S1 => if b = true then oE (f sl1 S1) fun t v S2 => t = .pure ∧ vP v fun y => P (i + 1) (acc ++ [y]) S2 else P (i + 1) acc S1)
    (hN : ∀ acc' S, acc'.length ≤ ds.length → P ds.length acc' S → QI acc' S) : oI (lcLoop g2 ft f sl ds [] S) QI :=
  oI_lcG P ds 0 [] S h (by simpa using hl) (fun i d acc S e q => by rw [Nat.zero_add] at *; exact st i d acc S e q) (fun acc' S hl q => by rw [Nat.zero_add] at q; exact hN acc' S (by simpa using hl) q)
/-- a comprehension that draws nothing -/
theorem oI_lcP {g2 : PyData → Sl → Option Sl} {ds : List PyData} {QI : List PyData → SS → Prop} (p : PyData → Bool) (y : PyData → PyData) (hl : ds.length ≤ LIM)
    (st : ∀ d ∈ ds, oV (g2 d sl) fun sl1 => oT (ft sl1 S) fun b S1 => b = p d ∧ S1 = S ∧ (p d = true → oE (f sl1 S) fun t v S2 => t = .pure ∧ v = .py (y d) ∧ S2 = S))
    (hQ : QI ((ds.filter p).map y) S) : oI (lcLoop g2 ft f sl ds [] S) QI := by
  have := lc_pure (g := g2) (t := ft) (f := f) (sl := sl) (S := S) p y ds [] (fun d hd => by
    obtain ⟨sl1, e1, h1⟩ := oV_ex (st d hd)
    obtain ⟨b, S1, e2, rfl, rfl, h3⟩ := oT_ex h1
    refine ⟨sl1, e1, e2, fun hp => ?_⟩
    obtain ⟨t, v, S2, e3, rfl, rfl, rfl⟩ := oE_ex (h3 hp)
    exact e3) (by simpa using hl)
  rw [this, oI_some, List.nil_append]
  exact hQ
theorem oI_lcM {g2 : PyData → Sl → Option Sl} {ds : List PyData} {QI : List PyData → SS → Prop} (y : PyData → PyData) (hl : ds.length ≤ LIM)
    (st : ∀ d ∈ ds, oV (g2 d sl) fun sl1 => oE (f sl1 S) fun t v S2 => t = .pure ∧ v = .py (y d) ∧ S2 = S)
    (hQ : QI (ds.map y) S) : oI (lcLoop g2 fYes f sl ds [] S) QI := by
  have := lc_map (g := g2) (f := f) (sl := sl) (S := S) y ds (fun d hd => by
    obtain ⟨sl1, e1, h1⟩ := oV_ex (st d hd)
    obtain ⟨t, v, S2, e3, rfl, rfl, rfl⟩ := oE_ex h1
    exact ⟨sl1, e1, e3⟩) hl
  rw [this, oI_some]
  exact hQ
/-- a def's body -/
theorem oE_fun {Nn n : Nat} {as : List Vl} (hn : as.length = n) : oE (funF Nn n fs as S) Q = oS (fs (as.map Slot.p ++ List.replicate (Nn - n) .un) S) (fun _ S' => Q .pure (.py .none) S') { rt := Q, bk := fun _ _ => False, ct := fun _ _ => False } := by
  unfold funF
  rw [if_pos hn]
  generalize fs (as.map Slot.p ++ List.replicate (Nn - n) .un) S = r
  match r with
  | none => rfl
  | some (.nx sl S) => rfl
  | some (.rt t v S) => rfl
  | some (.bk sl S) => rfl
  | some (.ct sl S) => rfl
  | some (.exn c d sl S) => rfl
end
end PP
set_option Elab.async false
set_option linter.all false
set_option maxRecDepth 100000
set_option maxHeartbeats 4000000
namespace PP
open PySem L2 PySem.Spec PyProof.Rows
@[simp] theorem rgOk_s {j : Int} (h : -1000000 ≤ j) (g : j ≤ 1000000) : rgOk j = true := rgOk_of h g
@[simp] theorem lock_own {d : PyData} {r : Sl} : lockSl 0 (.own d :: r) = .p (.py d) :: r := rfl
@[simp] theorem lock_p {v : Vl} {r : Sl} : lockSl 0 (.p v :: r) = .p v :: r := rfl
@[simp] theorem lock_un {r : Sl} : lockSl 0 (.un :: r) = .un :: r := rfl
@[simp] theorem lock_s {i : Nat} {x : Slot} {r : Sl} : lockSl (i + 1) (x :: r) = x :: lockSl i r := by
  unfold lockSl
  rw [List.getElem?_cons_succ]
  match r[i]? with
  | none => rfl
  | some .un => rfl
  | some (.p _) => rfl
  | some (.own _) => rfl
/-- what simp leaves as it is -/
def hid (p : Prop) (_ : Mk p := .mk) : Prop := p
theorem hid.mk {p : Prop} (h : p) : hid p := h
theorem oE_imp {r : Option ER} {Q Q' : Tg → Vl → SS → Prop} (h : oE r Q) (g : ∀ t v S, Q t v S → Q' t v S) : oE r Q' := by
  obtain ⟨t, v, S, e, q⟩ := oE_ex h
  rw [e]
  exact g _ _ _ q
theorem oS_imp {r : Option SR} {N N' : Sl → SS → Prop} {K : KS} (h : oS r N K) (g : ∀ sl S, N sl S → N' sl S) : oS r N' K := by
  match r, h with
  | some (.nx sl S), h => exact g _ _ h
  | some (.rt t v S), h => exact h
  | some (.bk sl S), h => exact h
  | some (.ct sl S), h => exact h
/-- a try is gone through by hand -/
def oKp (cs : List Str) (i j : Nat) (fb : FS) (sl : Sl) (S : SS) (N : Sl → SS → Prop) (K : KS) (_ : Mk N := .mk) (_ : Mk K := .mk) (_ : Mk fb := .mk) : Prop := oS (fKeep cs i j fb sl S) N K
@[simp ↓] theorem w_Keep {cs : List Str} {i j : Nat} {fb : FS} {sl : Sl} {S : SS} {N : Sl → SS → Prop} {K : KS} : oS (fKeep cs i j fb sl S) N K = oKp cs i j fb sl S N K := rfl
theorem w_KeepX {cs : List Str} {i j : Nat} {fb : FS} {sl sl' : Sl} {S S' : SS} {c : Str} {d : PyData} {N : Sl → SS → Prop} {K : KS} (h : fb sl S = some (.exn c d sl' S')) (hc : cs.contains c = true) (q : N ((sl'.set j (.p (.err c d))).set i .un) S') : oKp cs i j fb sl S N K := by
  unfold oKp
  rw [ap_Keep, h]
  dsimp only
  rw [if_pos hc]
  exact q
theorem w_KeepN {cs : List Str} {i j : Nat} {fb : FS} {sl sl' : Sl} {S S' : SS} {N : Sl → SS → Prop} {K : KS} (h : fb sl S = some (.nx sl' S')) (q : N sl' S') : oKp cs i j fb sl S N K := by
  unfold oKp
  rw [ap_Keep, h]
  exact q
@[simp ↓] theorem w_ForV {i : Nat} {ga : FA} {fs : FS} {sl : Sl} {S : SS} {N : Sl → SS → Prop} {K : KS} : oS (fForV i ga fs sl S) N K = oA (ga sl S) fun xs S1 => oV (argsOf xs) fun vs => (xs.length ≤ LIM ∧ vs.all noBox = true) ∧ oS (forLoopV i fs vs sl S1) N K := by
  rw [ap_ForV]
  match ga sl S with
  | none => rfl
  | some (.exn c d S) => rfl
  | some (.vals xs S1) =>
    simp only [oA_vals]
    cases argsOf xs with
    | none => rfl
    | some vs => exact oS_if
@[simp ↓] theorem w_forV_nil {i : Nat} {fs : FS} {sl : Sl} {S : SS} {N : Sl → SS → Prop} {K : KS} : oS (forLoopV i fs [] sl S) N K = N sl S := rfl
@[simp ↓] theorem w_forV_cons {i : Nat} {fs : FS} {v : Vl} {vs : List Vl} {sl : Sl} {S : SS} {N : Sl → SS → Prop} {K : KS} : oS (forLoopV i fs (v :: vs) sl S) N K = oS (fs (sl.set i (.p v)) S) (fun sl S => oS (forLoopV i fs vs sl S) N K) { rt := K.rt, bk := N, ct := fun sl S => oS (forLoopV i fs vs sl S) N K } := by
  rw [forLoopV_cons]
  match fs (sl.set i (.p v)) S with
  | none => rfl
  | some (.nx sl S) => rfl
  | some (.rt t v S) => rfl
  | some (.bk sl S) => rfl
  | some (.ct sl S) => rfl
  | some (.exn c d sl S) => rfl
@[simp] theorem noBox_f {f : Str} : noBox (.fn f) = true := rfl
@[simp] theorem noBox_p {d : PyData} : noBox (.py d) = true := rfl
theorem oE_eq {r : Option ER} {Q : Tg → Vl → SS → Prop} {t : Tg} {v : Vl} {S : SS} (h : r = some (.val t v S)) (q : Q t v S) : oE r Q := by
  rw [h]; exact q
theorem oE_is {r : Option ER} {t : Tg} {v : Vl} {S : SS} (h : oE r fun t' v' S' => t' = t ∧ v' = v ∧ S' = S) : r = some (.val t v S) := by
  obtain ⟨t, v, S, e, rfl, rfl, rfl⟩ := oE_ex h
  exact e
section
variable {R P G C : FF} {k B : Nat} {m : Int} {S S0 : SS} {Q : Tg → Vl → SS → Prop} {xs : List PyData}
theorem RandOk.go (h : RandOk R) (g : Gs k (B + 20) S0 S) (h0 : 0 < m) (h1 : m < 2 ^ 200) (q : ∀ r S', 0 ≤ r → r < m → Gs k B S0 S' → Q .pure (.py (.int r)) S') : oE (R [.box k, .py (.int m)] S) Q := by
  obtain ⟨r, S', e, a, b, c⟩ := h k B m S S0 g h0 h1
  exact oE_eq e (q _ _ a b c)
theorem PickOk.go (h : PickOk P) (g : Gs k (B + 20) S0 S) (h0 : xs ≠ []) (h1 : xs.length ≤ 1000000) (q : ∀ x S', x ∈ xs → Gs k B S0 S' → Q .pure (.py x) S') : oE (P [.box k, .py (.list xs)] S) Q := by
  obtain ⟨x, S', e, a, b⟩ := h k B xs S S0 g h0 h1
  exact oE_eq e (q _ _ a b)
theorem GenOk.go (h : GenOk G) {ns : List Int} {i : Int} (B : Nat) (h0 : 0 ≤ i) (h1 : i ≤ 1000) (hB : (B : Int) ≤ 2 ^ 200) (q : ∀ d, GOk B d → Q .fresh (.py d) S) : oE (G [.py (.list (ns.map PyData.int)), .py (.int i)] S) Q := by
  obtain ⟨d, e, a⟩ := h ns i B S h0 h1 hB
  exact oE_eq e (q _ a)
end
theorem addP_l {a b : List PyData} (h : a.length + b.length ≤ 100000) : addP (.list a) (.list b) = some (.fresh, .list (a ++ b)) := if_pos h
theorem addP_t {a b : List PyData} (h : a.length + b.length ≤ 100000) : addP (.tuple a) (.tuple b) = some (.pure, .tuple (a ++ b)) := if_pos h
theorem addP_s {a b : Str} (h : a.length + b.length ≤ 100000) : addP (.str a) (.str b) = some (.pure, .str (a ++ b)) := if_pos h
theorem cutD_mem {u : List PyData} {lo hi : Option Int} {d : PyData} (h : d ∈ cutD u lo hi) : d ∈ u := by
  unfold cutD at h
  exact List.mem_of_mem_drop (List.mem_of_mem_take h)
theorem cutD_len (u : List PyData) (lo hi : Option Int) : (cutD u lo hi).length ≤ u.length := by
  unfold cutD
  rw [List.length_take, List.length_drop]
  omega
theorem Gs.new {B : Nat} {S : SS} {d : PyData} (g : GOk B d) : Gs S.length B (S ++ [d]) (S ++ [d]) :=
  Gs.refl (by simp) g
theorem rng_len (i : Int) (n : Nat) : (rng i n).length = n := by unfold rng; rw [List.length_map, List.length_range]
theorem rng_get {i : Int} {n j : Nat} {d : PyData} (h : (rng i n)[j]? = some d) : j < n ∧ d = .int (i + j) := by
  have hj : j < n := by
    have := (List.getElem?_eq_some_iff.mp h).1
    rwa [rng_len] at this
  refine ⟨hj, ?_⟩
  unfold rng at h
  rw [List.getElem?_map, List.getElem?_range hj] at h
  exact (Option.some.inj h).symm
end PP
set_option Elab.async false
set_option linter.all false
set_option maxRecDepth 100000
set_option maxHeartbeats 4000000
namespace K02
open PySem PP L2
/-! ## small things -/
structure Leaf (d : PyData) : Prop where
  w : Shw 310 d
  f : Fine 0 d
  s : StrOk d
theorem Leaf.none : Leaf .none := ⟨.none (by decide), .none, fun s e => by cases e⟩
theorem Leaf.bool {b : Bool} : Leaf (.bool b) := ⟨.bool (by decide), .bool, fun s e => by cases e⟩
theorem Leaf.int {i : Int} (h : LG 300 i) : Leaf (.int i) := ⟨.int h (by decide) (by decide), .int, fun s e => by cases e⟩
theorem Leaf.str {x : Str} (h : SgnOk x) (l : x.length ≤ 30) : Leaf (.str x) := ⟨.str h (by omega), .str, fun s e => by cases e; rw [LIM_eq]; omega⟩
theorem JOk.leaf {d : PyData} (h : Leaf d) : JOk d where
  s := h.s
  l ds e := by subst e; have := h.f; cases this
  r := repr2_of h.w h.f (by decide) (by decide)
theorem JOk.list {ds : List PyData} (h : ∀ d ∈ ds, Leaf d) (hl : ds.length ≤ 100) : JOk (.list ds) where
  s s e := by cases e
  l es e := by
    cases e
    exact ⟨by omega, fun x hx => ⟨(h x hx).s, (h x hx).f.plain⟩⟩
  r := repr2_of (m := 100000) (k := 1) (.list (k := 310) (fun d hd => (h d hd).w) (by omega)) (.list (by rw [LIM_eq]; omega) fun d hd => (h d hd).f) (by decide) (by decide)
theorem JOk.tuple {ds : List PyData} (h : ∀ d ∈ ds, Leaf d) (hl : ds.length ≤ 100) : JOk (.tuple ds) where
  s s e := by cases e
  l es e := by cases e
  r := repr2_of (m := 100000) (k := 1) (.tuple (k := 310) (fun d hd => (h d hd).w) (by omega)) (.tuple (by rw [LIM_eq]; omega) fun d hd => (h d hd).f) (by decide) (by decide)
/-! ## sorted -/
def Srt (ds : List PyData) : Prop := sortP [.list ds] = some (.fresh, .list (srt ds))
theorem srt_ints {ds : List PyData} (h : ∀ d ∈ ds, Nm d) : Srt ds := by
  refine if_pos ?_
  simp only [Bool.and_eq_true]
  refine ⟨⟨List.all_eq_true.mpr fun a ha => List.all_eq_true.mpr fun b hb => ?_, ?_⟩, List.all_eq_true.mpr fun a ha => ?_⟩
  · obtain ⟨i, rfl, _⟩ := h a ha
    obtain ⟨j, rfl, _⟩ := h b hb
    rfl
  · unfold sortsOk
    have : ds.all isOther = true := List.all_eq_true.mpr fun a ha => by
      obtain ⟨i, rfl, _⟩ := h a ha
      rfl
    rw [this]
    simp
  · obtain ⟨i, rfl, _⟩ := h a ha
    rfl
theorem srt_strs {ds : List PyData} (h : ∀ d ∈ ds, ∃ s, d = .str s) : Srt ds := by
  refine if_pos ?_
  simp only [Bool.and_eq_true]
  refine ⟨⟨List.all_eq_true.mpr fun a ha => List.all_eq_true.mpr fun b hb => ?_, ?_⟩, List.all_eq_true.mpr fun a ha => ?_⟩
  · obtain ⟨i, rfl⟩ := h a ha
    obtain ⟨j, rfl⟩ := h b hb
    rfl
  · unfold sortsOk
    have : ds.all isOther = true := List.all_eq_true.mpr fun a ha => by
      obtain ⟨i, rfl⟩ := h a ha
      rfl
    rw [this]
    simp
  · obtain ⟨i, rfl⟩ := h a ha
    rfl
theorem mem_srt {ds : List PyData} {d : PyData} : d ∈ srt ds ↔ d ∈ ds := List.mem_mergeSort
theorem len_srt {ds : List PyData} : (srt ds).length = ds.length := List.length_mergeSort ..
theorem inOk_leaf {d : PyData} {ds : List PyData} (h : Fine 0 d) (g : ∀ x ∈ ds, Fine 0 x) : inOk d ds = true := by
  unfold inOk
  rw [plainAll_of fun x hx => (g x hx).plain, h.plain]
  have := h.depth
  simp [DEEP]
  omega
theorem s_unlike (n : Nat) {ds : List PyData} (hs : Srt ds) (hf : ∀ d ∈ ds, Leaf d) (hl : ds.length ≤ 1000) (S : SS) :
    oE (sem (n + 1) 25 [.py (.list ds)] S) fun t v S' => S' = S ∧ t = .mine ∧ ∃ es, v = .py (.list es) ∧ (∀ e ∈ es, e ∈ ds) ∧ es.length ≤ ds.length := by
  rw [sem__law_unlike, oE_fun (by rfl)]
  unfold b__law_unlike
  unfold Srt at hs
  simp -dsimp [hs]
  refine oS_for0 (fun i sl S' => S' = S ∧ ∃ x es, sl = [.p (.py (.list ds)), .own (.list es), x] ∧ (∀ e ∈ es, e ∈ ds) ∧ es.length ≤ i) ⟨rfl, _, _, rfl, by simp, by simp⟩ ?_ ?_
  · rintro i d sl S' hd ⟨rfl, x, es, rfl, he, hle⟩
    have hm : d ∈ ds := mem_srt.mp (List.mem_of_getElem? hd)
    have hi : i < 1000 := by
      have := (List.getElem?_eq_some_iff.mp hd).1
      rw [len_srt] at this
      omega
    have inn := inP_list (neg := true) (inOk_leaf (hf d hm).f fun x hx => (hf x (he x hx)).f)
    simp -dsimp [inn]
    split
    · refine ⟨by omega, _, _, ⟨rfl, rfl⟩, fun e h => ?_, by simp; omega⟩
      rcases List.mem_append.mp h with h | h
      · exact he e h
      · rw [List.mem_singleton.mp h]; exact hm
    · exact ⟨_, _, ⟨rfl, rfl⟩, he, by omega⟩
  · rintro sl S' ⟨rfl, x, es, rfl, he, hle⟩
    rw [len_srt] at hle
    simp -dsimp
    exact ⟨he, hle⟩
/-! ## drawn strings -/
theorem join_one : ∀ ys : List Str, (∀ y ∈ ys, ∃ c : Nat, y = ⟨#[c]⟩ ∧ c < 16 ^ 8) → (ys.map (·.length)).sum = ys.length
  | [], _ => rfl
  | y :: r, h => by
    obtain ⟨c, rfl, _⟩ := h y (List.mem_cons_self ..)
    rw [List.map_cons, List.sum_cons, join_one r fun x hx => h x (List.mem_cons_of_mem _ hx), List.length_cons]
    show 1 + r.length = _
    omega
theorem s_string (n : Nat) {k B : Nat} {S S0 : SS} (g : Gs k (B + 620) S0 S) : oE (sem (n + 4) 31 [.box k] S) fun t v S' => t = .pure ∧ (∃ s, v = .py (.str s) ∧ s.length ≤ 24 ∧ SgnOk s) ∧ Gs k B S0 S' := by
  rw [sem__law_string, oE_fun (by rfl)]
  unfold b__law_string
  simp -dsimp
  refine (pickK n).go g (by simp) (by simp) ?_
  intro x S1 hx g1
  obtain ⟨z, rfl, h0, hl, hc⟩ := TX_ok x hx
  simp -dsimp
  refine (randK (n + 1)).go g1 (by decide) (by decide) ?_
  intro r S2 r0 r1 g2
  have hr : rgOk r = true := rgOk_of (by omega) (by omega)
  simp -dsimp [hr, wipeSl]
  refine oI_lc (fun i acc S => Gs k (B + 20 * (24 - i)) S0 S ∧ ∀ d ∈ acc, One d) ⟨g2.mono (by omega), by simp⟩ (by rw [rng_len, LIM_eq]; omega) ?_ ?_
  · rintro i d acc S hd ⟨gs, ha⟩
    obtain ⟨hi, rfl⟩ := rng_get hd
    simp -dsimp
    have bud : B + 20 * (24 - i) = (B + 20 * (24 - (i + 1))) + 20 := by omega
    rw [bud] at gs
    obtain ⟨c, T1, f1, hx, q1⟩ := pick_str n gs h0 hl
    simp -dsimp [f1]
    refine ⟨q1.mono (by omega), fun d hd => ?_⟩
    rcases hd with hd | rfl
    · exact ha d hd
    · exact ⟨c, rfl, hc c hx⟩
  · rintro acc S hl ⟨gs, ha⟩
    obtain ⟨ys, e3, hy1, hy2⟩ := strs_one ha
    simp -dsimp [e3]
    have l0 : (Str.ofString "").length = 0 := by decide +kernel
    have l1 := PySem.W.KT.join_ones ys (fun y hy => by obtain ⟨c, rfl, _⟩ := hy2 y hy; rfl)
    rw [rng_len] at hl
    refine ⟨by rw [l0, join_one ys hy2]; omega, ⟨by omega, ?_⟩, gs.mono (by omega)⟩
    have cps : ∀ ys : List Str, (∀ y ∈ ys, ∃ c : Nat, y = ⟨#[c]⟩ ∧ c < 16 ^ 8) → ∀ c ∈ (Str.join (Str.ofString "") ys).cps.toList, c < 16 ^ 8 := by
      intro ys
      induction ys with
      | nil => intro _ c hc; cases hc
      | cons y r ih =>
        intro h
        obtain ⟨c, rfl, hc⟩ := h y (List.mem_cons_self ..)
        have ih := ih fun x hx => h x (List.mem_cons_of_mem _ hx)
        cases r with
        | nil =>
          intro d hd
          rw [List.mem_singleton.mp (show d ∈ [c] from hd)]
          exact hc
        | cons z r =>
          intro d hd
          have hd : d ∈ ((⟨#[c]⟩ : Str) ++ Str.ofString "" ++ Str.join (Str.ofString "") (z :: r)).cps.toList := hd
          rw [Str.cps_append, Str.cps_append, Array.toList_append, Array.toList_append] at hd
          have : (Str.ofString "").cps.toList = [] := by decide +kernel
          rw [this, List.append_nil] at hd
          rcases List.mem_append.mp hd with hd | hd
          · rw [List.mem_singleton.mp (show d ∈ [c] from hd)]; exact hc
          · exact ih d hd
    have e : Txt.join (Str.ofString "") ys = Str.join (Str.ofString "") ys := StrLaws.glued_eq_join _ _
    unfold SgnOk
    rw [e]
    exact cps ys hy2
/-! ## what is drawn is judged rightly -/
theorem s_judgedE (n : Nat) {v : PyData} (h : JOk v) {Q : Tg → Vl → SS → Prop} {S : SS} (q : Q .pure (.py (.bool true)) S) : oE (sem (n + 5) 33 [.py v] S) Q := oE_eq (s_judged n h S) q
end K02
set_option Elab.async false
set_option linter.all false
set_option maxRecDepth 100000
set_option maxHeartbeats 4000000
namespace K02
open PySem PP L2
def Jg (v : PyData) : Prop := ∀ (n : Nat) (S : SS), sem (n + 5) 33 [.py v] S = some (.val .pure (.py (.bool true)) S)
theorem JOk.jg {v : PyData} (h : JOk v) : Jg v := fun n S => s_judged n h S
theorem Leaf.nm {d : PyData} (h : Nm d) : Leaf d := by
  obtain ⟨i, rfl, l⟩ := h
  exact .int (l.mono (by decide))
/-! ## the menu of names -/
def NMN : List PyData := [.str "a", .str "b", .str "ab", .str "a1", .str "z", .str "abcdefghijkl", .str "abcdefghijklm", .str "A", .str "", .str "1a", .int (1), .none, .str "arm", .str "old", .str "a b", .str "aB", .str "a_b", .str "a\n", .str "a1b", .str "z0z0z0z0"]
theorem nmn_leaf : ∀ x ∈ NMN, Leaf x := by
  intro x hx
  have h : (NMN.all fun x => match x with
    | .str z => decide (z.length ≤ 30) && z.cps.toList.all fun c => decide (c < 16 ^ 8)
    | .int i => decide (i = 1)
    | .none => true
    | _ => false) = true := by decide +kernel
  have h2 := List.all_eq_true.mp h x hx
  split at h2
  · rename_i z
    rw [Bool.and_eq_true] at h2
    exact .str (fun c hc => of_decide_eq_true (List.all_eq_true.mp h2.2 c hc)) (of_decide_eq_true h2.1)
  · rename_i i
    have : i = 1 := of_decide_eq_true h2
    subst this
    exact .int (.of_lt (by decide))
  · exact .none
  · cases h2
def inner (L : Nat → FF) : FS := (fThen (fSet 4 (fCallF 1 (L 32) (faCons (fVar 2) faNil)))
    (fThen (fSet 5 (fFz (fLit .fresh (.list NMN))))
    (fThen (fLock 6 (fSet 6 (fLc (fiRg1 (faCons (fCallF 2 (L 21) (faCons (fVar 2) (faCons (fC (.int (5))) faNil))) faNil)) (gNm 12) fYes (fCallF 2 (L 22) (faCons (fVar 2) (faCons (fVar 5) faNil))) [12])))
    (fThen (fLock 7 (fSet 7 (fLc (fiSeq (fVar 6)) (gNm 13) (fAndT (fTb (fIsi .str (fVar 13))) (fTb (fCallF 1 (L 29) (faCons (fVar 13) faNil)))) (fVar 13) [13])))
    (fThen (fSet 8 (fFz (fSeq .list .fresh (faCons (fVar 6) (faCons (fVar 7) (faCons (fFz (fCall sortP (faCons (fVar 7) faNil))) (faCons (fFz (fCallF 1 (L 25) (faCons (fVar 7) faNil))) (faCons (fCall tupleP (faCons (fCallF 1 (L 25) (faCons (fVar 7) faNil)) faNil)) (faCons (fFz (fSl (fCallF 1 (L 25) (faCons (fVar 7) faNil)) foNone (foSome (fC (.int (1)))))) (faCons (fFz (fRev (fCallF 1 (L 25) (faCons (fVar 7) faNil)))) faNil))))))))))
    (fThen (fFor (fiSeq (fFz (fBin addP (fSeq .list .fresh (faCons (fCallF 1 (L 27) (faCons (fVar 2) faNil)) (faCons (fCallF 1 (L 31) (faCons (fVar 2) faNil)) (faCons (fVar 4) (faCons (fFz (fCall sortP (faCons (fVar 4) faNil))) (faCons (fFz (fCallF 1 (L 25) (faCons (fVar 4) faNil))) (faCons (fCall tupleP (faCons (fCallF 1 (L 25) (faCons (fVar 4) faNil)) faNil)) faNil))))))) (fVar 8)))) (gNm 9) (fThen (fIfS (fNotT (fTb (fCallF 1 (L 33) (faCons (fVar 9) faNil)))) (fThen (fRet (fC (.bool false)))
    fNil) fNil)
    fNil))
    fNil))))))
def shp (A : Slot) (k : Nat) (sl : Sl) : Prop := ∃ x1 x3 x4 x5 x6 x7 x8 x9, sl = [A, x1, .p (.box k), x3, x4, x5, x6, x7, x8, x9, .un, .un, .un, .un]
theorem s_inner (n : Nat) {A : Slot} {k B : Nat} {S S0 : SS} {sl : Sl} {K : KS} (g : Gs k (B + 2000) S0 S) (hs : shp A k sl) : oS (inner (sem (n + 8)) sl S) (fun sl' S' => shp A k sl' ∧ Gs k B S0 S') K := by
  obtain ⟨x1, x3, x4, x5, x6, x7, x8, x9, rfl⟩ := hs
  unfold inner
  simp -dsimp
  obtain ⟨nums, S1, e1, nl, nm, g1⟩ := s_numbers (n + 4) (B := B + 1600) g
  simp -dsimp [e1]
  refine (randK (n + 6)).go g1 (by decide) (by decide) ?_
  intro r S2 r0 r1 g2
  have hr : rgOk r = true := rgOk_of (by omega) (by omega)
  simp -dsimp [hr, wipeSl]
  refine oI_lc (fun i acc S => Gs k (B + 1480 + 20 * (5 - i)) S0 S ∧ (∀ d ∈ acc, d ∈ NMN)) ⟨g2.mono (by omega), by simp⟩ (by rw [rng_len, LIM_eq]; omega) ?_ ?_
  · rintro i d acc S hd ⟨gs, ha⟩
    obtain ⟨hi, rfl⟩ := rng_get hd
    simp -dsimp
    refine (pickK (n + 5)).go (gs.mono (B' := B + 1480 + 20 * (5 - (i + 1)) + 20) (by omega)) (by simp [NMN]) (by simp [NMN]) ?_
    intro x S3 hx q1
    simp -dsimp
    refine ⟨q1.mono (by omega), fun d hd => ?_⟩
    rcases hd with hd | rfl
    · exact ha d hd
    · exact hx
  rintro names S3 hl ⟨g3, hnames⟩
  rw [rng_len] at hl g3
  have g3 := g3.mono (B' := B + 1480) (by omega)
  simp -dsimp [wipeSl]
  have nleaf : ∀ d ∈ names, Leaf d := fun d hd => nmn_leaf d (hnames d hd)
  refine oI_lcP (fun d => isTy .str d && nameB d) (fun d => d) (by rw [LIM_eq]; omega) ?_ ?_
  · intro d hd
    have e29 := s_law_name (n + 7) (nleaf d hd).s S3
    by_cases h1 : isTy .str d = true <;> simp -dsimp [h1, e29]
  rw [List.map_id']
  generalize hgood : names.filter (fun d => isTy .str d && nameB d) = good
  have good_mem : ∀ d ∈ good, d ∈ names ∧ ∃ s, d = .str s := by
    intro d hd
    rw [← hgood] at hd
    obtain ⟨h1, h2⟩ := List.mem_filter.mp hd
    rw [Bool.and_eq_true] at h2
    refine ⟨h1, ?_⟩
    cases d <;> first | exact ⟨_, rfl⟩ | (exact absurd h2.1 (by simp [isTy]))
  have good_len : good.length ≤ 5 := by
    rw [← hgood]
    exact Nat.le_trans (List.length_filter_le ..) (by omega)
  have gsrt := srt_strs fun d hd => (good_mem d hd).2
  have gleaf : ∀ d ∈ good, Leaf d := fun d hd => nleaf d (good_mem d hd).1
  have nsrt := srt_ints nm
  have nuleaf : ∀ d ∈ nums, Leaf d := fun d hd => Leaf.nm (nm d hd)
  have gun := fun S => s_unlike (n + 7) gsrt gleaf (by omega) S
  have nun := fun S => s_unlike (n + 7) nsrt nuleaf (by omega) S
  unfold Srt at gsrt nsrt
  simp -dsimp [gsrt]
  refine oE_imp (gun S3) ?_
  rintro _ _ _ ⟨rfl, rfl, u1, rfl, hu1, lu1⟩
  simp -dsimp
  refine oE_imp (gun _) ?_
  rintro _ _ _ ⟨rfl, rfl, u2, rfl, hu2, lu2⟩
  simp -dsimp [tupleP]
  refine oE_imp (gun _) ?_
  rintro _ _ _ ⟨rfl, rfl, u3, rfl, hu3, lu3⟩
  simp -dsimp [slP]
  refine oE_imp (gun _) ?_
  rintro _ _ S4 ⟨rfl, rfl, u4, rfl, hu4, lu4⟩
  simp -dsimp
  obtain ⟨x, S5, e5, hx, g5⟩ := s_any (n + 1) (B := B + 1400) (g3.mono (by omega))
  simp -dsimp [e5]
  refine oE_imp (s_string (n + 4) (B := B) (g5.mono (by omega))) ?_
  rintro _ _ S6 ⟨rfl, ⟨z, rfl, lz, sz⟩, g6⟩
  simp -dsimp [nsrt]
  refine oE_imp (nun _) ?_
  rintro _ _ _ ⟨rfl, rfl, v1, rfl, hv1, lv1⟩
  simp -dsimp
  refine oE_imp (nun _) ?_
  rintro _ _ S7 ⟨rfl, rfl, v2, rfl, hv2, lv2⟩
  simp -dsimp [tupleP, addP]
  have cut : ∀ u : List PyData, ∀ d ∈ cutD u none (some 1), d ∈ u := by
    intro u d hd
    unfold cutD at hd
    exact List.mem_of_mem_drop (List.mem_of_mem_take hd)
  have cutl : ∀ u : List PyData, (cutD u none (some 1)).length ≤ u.length := by
    intro u
    unfold cutD
    exact Nat.le_trans (by simp only [List.length_take, List.length_drop]; omega) (Nat.sub_le u.length 0)
  have all : ∀ v ∈ [x, PyData.str z, .list nums, .list (srt nums), .list v1, .tuple v2, .list names, .list good, .list (srt good), .list u1, .tuple u2, .list (cutD u3 none (some 1)), .list u4.reverse], Jg v := by
    intro v hv
    simp only [List.mem_cons, List.not_mem_nil, or_false] at hv
    rcases hv with rfl | rfl | rfl | rfl | rfl | rfl | rfl | rfl | rfl | rfl | rfl | rfl | rfl
    · exact fun n S => M_judged n hx S
    · exact (JOk.leaf (.str sz (by omega))).jg
    · exact (JOk.list nuleaf (by omega)).jg
    · exact (JOk.list (fun d hd => nuleaf d (mem_srt.mp hd)) (by rw [len_srt]; omega)).jg
    · exact (JOk.list (fun d hd => nuleaf d (hv1 d hd)) (by omega)).jg
    · exact (JOk.tuple (fun d hd => nuleaf d (hv2 d hd)) (by omega)).jg
    · exact (JOk.list nleaf (by omega)).jg
    · exact (JOk.list gleaf (by omega)).jg
    · exact (JOk.list (fun d hd => gleaf d (mem_srt.mp hd)) (by rw [len_srt]; omega)).jg
    · exact (JOk.list (fun d hd => gleaf d (hu1 d hd)) (by omega)).jg
    · exact (JOk.tuple (fun d hd => gleaf d (hu2 d hd)) (by omega)).jg
    · exact (JOk.list (fun d hd => gleaf d (hu3 d (cut _ d hd))) (Nat.le_trans (cutl u3) (by omega))).jg
    · exact (JOk.list (fun d hd => gleaf d (hu4 d (List.mem_reverse.mp hd))) (by rw [List.length_reverse]; omega)).jg
  refine oS_for0 (fun i sl S' => S' = S7 ∧ shp A k sl) ⟨rfl, _, _, _, _, _, _, _, _, rfl⟩ ?_ ?_
  · rintro i d sl S' hd ⟨rfl, y1, y3, y4, y5, y6, y7, y8, y9, rfl⟩
    have := all d (List.mem_of_getElem? hd) (n + 3) S'
    simp -dsimp [this]
    exact ⟨_, _, _, _, _, _, _, _, rfl⟩
  · rintro sl S' ⟨rfl, h⟩
    simp -dsimp
    exact ⟨h, g6⟩
end K02
set_option Elab.async false
set_option linter.all false
set_option maxRecDepth 100000
set_option maxHeartbeats 4000000
namespace K02
open PySem PP L2
def jB (x : PyData) : Bool := reprOk2 x && (match x with
  | .str s => decide (s.length ≤ 1000)
  | .list ds => decide (ds.length ≤ 1000) && ds.all fun y => (match y with
    | .str s => decide (s.length ≤ 1000)
    | _ => true) && y.plain
  | _ => true)
theorem jB_ok {x : PyData} (h : jB x = true) : JOk x := by
  unfold jB at h
  rw [Bool.and_eq_true] at h
  obtain ⟨h1, h2⟩ := h
  refine ⟨fun s e => ?_, fun ds e => ?_, if_pos h1⟩
  · subst e
    have := of_decide_eq_true h2
    rw [LIM_eq]; omega
  · subst e
    dsimp only at h2
    rw [Bool.and_eq_true] at h2
    refine ⟨of_decide_eq_true h2.1, fun y hy => ?_⟩
    have h3 := List.all_eq_true.mp h2.2 y hy
    rw [Bool.and_eq_true] at h3
    refine ⟨fun s e => ?_, h3.2⟩
    subst e
    have := of_decide_eq_true h3.1
    rw [LIM_eq]; omega
theorem inP_true {ds : List PyData} (h : ∀ d ∈ ds, d = .bool true) : inP true (.bool false) (.list ds) = some (.pure, .bool true) := by
  rw [inP_list (by
    unfold inOk
    rw [plainAll_of (by
      intro x hx
      rw [h x hx]
      rfl)]
    simp [PyData.plain, PyData.depth, DEEP])]
  have : (ds.any fun y => PyData.eqv y (.bool false)) = false := by
    rw [List.any_eq_false]
    intro x hx
    rw [h x hx]
    simp [PyData.eqv]
  rw [this]
  rfl
/-! ## lists of sixty names -/
def nmy (d : PyData) : PyData := match d with
  | .int i => .str (("n" : Str) ++ Str.ofString (toString (10 + i)))
  | d => d
def MANY : List PyData := (rng 0 60).map nmy
theorem many_leaf : ∀ d ∈ MANY, Leaf d := by
  intro x hx
  have h : (MANY.all fun x => match x with
    | .str z => decide (z.length ≤ 30) && z.cps.toList.all fun c => decide (c < 16 ^ 8)
    | _ => false) = true := by decide +kernel
  have h2 := List.all_eq_true.mp h x hx
  split at h2
  · rename_i z
    rw [Bool.and_eq_true] at h2
    exact .str (fun c hc => of_decide_eq_true (List.all_eq_true.mp h2.2 c hc)) (of_decide_eq_true h2.1)
  · cases h2
theorem many_len : MANY.length = 60 := by decide +kernel
theorem many_at (i : Int) (h0 : 0 ≤ i) (h : i < 60) : ∃ d, ixP (.list MANY) (.int i) = some d ∧ d ∈ MANY := by
  obtain ⟨x, e, hx, _⟩ := atI_some (xs := MANY) h0 (by rw [many_len]; exact h)
  exact ⟨x, e, hx⟩
def LS : List PyData := [.list [.int 0, .str "a"], .list [.str "a", .int 0], .list [.none, .int 0], .list [.int 0, .list [.int 1]], .int 0, .int 100000000000, .bool true, .int (-1), .str (repS "a" 12), .str (repS "a" 13), .str "a0", .str "0a", .list [], .list [.int 0], .list [.int 0, .int 100000000000], .list [.bool true], .list [.int 1, .int 1], .list [.int 2, .int 1]]
theorem ls_jg : ∀ v ∈ LS, Jg v := by
  intro v hv
  have h : LS.all jB = true := by decide +kernel
  exact (jB_ok (List.all_eq_true.mp h v hv)).jg
theorem judge_map (n : Nat) {ds : List PyData} {S : SS} {a b c d e f g h i j k l m o : Slot} {Q : List PyData → SS → Prop} (hj : ∀ v ∈ ds, Jg v) (hl : ds.length ≤ 1000) (q : ∀ es, (∀ e ∈ es, e = .bool true) → es.length ≤ 1000 → Q es S) : oI (lcLoop (gNm 9) fYes (fCallF 1 (sem (n + 5) 33) (faCons (fVar 9) faNil)) [a, b, c, d, e, f, g, h, i, j, k, l, m, o] ds [] S) Q := by
  refine oI_lcM (fun _ => .bool true) (by rw [LIM_eq]; omega) ?_ ?_
  · intro v hv
    have := hj v hv n S
    simp -dsimp [this]
  · refine q _ (fun e he => ?_) (by rw [List.length_map]; omega)
    obtain ⟨_, _, rfl⟩ := List.mem_map.mp he
    rfl
theorem s_names_right (n : Nat) (ns : List Int) (S : SS) : oE (sem (n + 9) 34 [.py (.list (ns.map PyData.int))] S) fun t v S' => t = .pure ∧ v = .py (.bool true) := by
  rw [sem__law_names_right, oE_fun (by rfl)]
  unfold b__law_names_right
  simp -dsimp
  refine oS_for0 (fun i sl S' => ∃ x1 x2 x3 x4 x5 x6 x7 x8 x9, sl = [.p (.py (.list (ns.map PyData.int))), x1, x2, x3, x4, x5, x6, x7, x8, x9, .un, .un, .un, .un]) ?_ ?_ ?_
  · exact ⟨_, _, _, _, _, _, _, _, _, rfl⟩
  · rintro i d sl S hd ⟨x1, x2, x3, x4, x5, x6, x7, x8, x9, rfl⟩
    obtain ⟨hi, rfl⟩ := rng_get hd
    simp -dsimp
    refine (genK (n + 6)).go 24000 (by omega) (by omega) (by decide) ?_
    intro d gd
    simp -dsimp
    refine oS_for0 (fun i sl S' => shp (.p (.py (.list (ns.map PyData.int)))) S.length sl ∧ Gs S.length (2000 * (12 - i)) (S ++ [d]) S') ⟨⟨_, _, _, _, _, _, _, _, rfl⟩, Gs.new gd⟩ ?_ ?_
    · rintro j dj sl S2 hdj ⟨hs, g2⟩
      obtain ⟨hj, rfl⟩ := rng_get hdj
      rw [ap_Nm, oV_some]
      have hs2 : shp (.p (.py (.list (ns.map PyData.int)))) S.length (sl.set 3 (.p (.py (.int (0 + (j : Nat)))))) := by
        obtain ⟨x1, x3, x4, x5, x6, x7, x8, x9, rfl⟩ := hs
        exact ⟨_, _, _, _, _, _, _, _, rfl⟩
      exact oS_imp (s_inner n (B := 2000 * (12 - (j + 1))) (g2.mono (by omega)) hs2) fun sl S h => h
    · rintro sl S2 ⟨⟨x1, x3, x4, x5, x6, x7, x8, x9, rfl⟩, _⟩
      simp -dsimp
  · rintro sl S ⟨x1, x2, x3, x4, x5, x6, x7, x8, x9, rfl⟩
    simp -dsimp [wipeSl]
    have hN : ∀ S : SS, True := fun _ => trivial
    refine oI_lcM nmy (by rw [rng_len, LIM_eq]; omega) ?_ ?_
    · intro d hd
      obtain ⟨j, hj⟩ := List.getElem?_of_mem hd
      obtain ⟨hj, rfl⟩ := rng_get hj
      have es : strZP [.int (10 + (0 + (j : Nat)))] = some (.pure, .str (Str.ofString (toString (10 + (0 + (j : Nat)) : Int)))) := if_pos (by
        have : LG 40 (10 + (0 + (j : Nat)) : Int) := .of_lt (by omega)
        unfold LG at this
        omega)
      have el : (Str.ofString (toString (10 + (0 + (j : Nat)) : Int))).length ≤ 1000 := by
        have h := str_len (10 + j)
        have e : ((10 + j : Nat) : Int) = 10 + (0 + (j : Nat)) := by omega
        rw [e] at h
        rw [h]
        exact Nat.le_trans ((Nat.length_toDigits_le_iff (by decide) (by decide)).mpr (Nat.lt_of_lt_of_le (show 10 + j < 100 by omega) (show 100 ≤ 10 ^ 1000 by decide +kernel))) (Nat.le_refl _)
      have ea : ∀ z : Str, z.length ≤ 1000 → addP (.str "n") (.str z) = some (.pure, .str (("n" : Str) ++ z)) := fun z hz => if_pos (by
        have : (Str.ofString "n").length = 1 := by decide +kernel
        rw [this, LIM_eq]; omega)
      have ea := ea _ el
      simp -dsimp only [ap_Nm, oV_some, w_Fz, w_Bin, w_C, w_Call, w_aCons, w_aNil, cont_py, addP_int, oP_some, conts_cons, conts_nil, ap_VarS, ap_Var0, oE_val, List.set_cons_zero, List.set_cons_succ, es, ea]
      exact ⟨by simp, trivial, rfl, trivial⟩
    · show oV (slotOf Tg.fresh (Vl.py (PyData.list MANY))) _
      have hl := many_len
      have lf := many_leaf
      obtain ⟨a, ea, ha⟩ := many_at 59 (by decide) (by decide)
      obtain ⟨b, eb, hb⟩ := many_at 58 (by decide) (by decide)
      generalize MANY = M at hl lf ea ha eb hb
      have c1 := cutD_len M none (some 58)
      have c2 := cutD_len M none (some 59)
      have e1 := addP_l (a := cutD M none (some 58)) (b := [a, b]) (by simp; omega)
      have e2 := addP_l (a := cutD M none (some 59)) (b := [b]) (by simp; omega)
      have e3 := addP_l (a := M) (b := [.str "A"]) (by simp; omega)
      simp -dsimp [slP, ea, eb, e1, e2, e3, wipeSl]
      have lA : Leaf (.str "A") := nmn_leaf _ (by simp [NMN])
      refine judge_map (n + 3) ?_ (by simp) fun es he hle => ?_
      · intro v hv
        simp only [List.mem_cons, List.not_mem_nil, or_false] at hv
        rcases hv with rfl | rfl | rfl | rfl
        · exact (JOk.list lf (by omega)).jg
        · refine (JOk.list (fun d hd => ?_) (by simp; omega)).jg
          rcases List.mem_append.mp hd with hd | hd
          · exact lf d (cutD_mem hd)
          · simp only [List.mem_cons, List.not_mem_nil, or_false] at hd
            rcases hd with rfl | rfl
            · exact lf _ ha
            · exact lf _ hb
        · refine (JOk.list (fun d hd => ?_) (by simp; omega)).jg
          rcases List.mem_append.mp hd with hd | hd
          · exact lf d (cutD_mem hd)
          · rw [List.mem_singleton.mp hd]; exact lf _ hb
        · refine (JOk.list (fun d hd => ?_) (by simp; omega)).jg
          rcases List.mem_append.mp hd with hd | hd
          · exact lf d hd
          · rw [List.mem_singleton.mp hd]; exact lA
      have m1 : mulSP (.str "a") (.int 12) = some (.pure, .str (repS "a" 12)) := by kernel_rfl
      have m2 : mulSP (.str "a") (.int 13) = some (.pure, .str (repS "a" 13)) := by kernel_rfl
      simp -dsimp [m1, m2, pow1011, wipeSl]
      refine judge_map (n + 3) ls_jg (by simp [LS]) fun es2 he2 hle2 => ?_
      have e4 := addP_l (a := es) (b := es2) (by omega)
      have e5 := inP_true (ds := es ++ es2) fun d hd => by
        rcases List.mem_append.mp hd with hd | hd
        · exact he d hd
        · exact he2 d hd
      simp -dsimp [e4, e5]
end K02
set_option Elab.async false
set_option linter.all false
set_option maxRecDepth 100000
set_option maxHeartbeats 4000000
namespace K02
open PySem PP L2
/-! ## things at the door of is_fraction -/
structure Vk (v : PyData) : Prop where
  z : Sized v
  p : ∀ ds, v = .tuple ds → ∀ x ∈ ds, x.plain = true
  r : repr2P [v] = some (.pure, .str v.shown)
theorem Leaf.small {i : Int} (h : Leaf (.int i)) : LG 4500 i := by
  cases h.w with
  | int a b c => exact a.mono (by omega)
theorem Vk.leaf {d : PyData} (h : Leaf d) : Vk d where
  z a b e := by subst e; cases h.f
  p ds e := by subst e; cases h.f
  r := (JOk.leaf h).r
theorem Vk.list {ds : List PyData} (h : ∀ d ∈ ds, Leaf d) (hl : ds.length ≤ 100) : Vk (.list ds) where
  z a b e := by cases e
  p ds e := by cases e
  r := (JOk.list h hl).r
theorem Vk.tuple {ds : List PyData} (h : ∀ d ∈ ds, Leaf d) (hl : ds.length ≤ 100) : Vk (.tuple ds) where
  z a b e := by
    cases e
    exact (h (.int b) (by simp)).small
  p es e x hx := by
    cases e
    exact (h x hx).f.plain
  r := (JOk.tuple h hl).r
def vkB (x : PyData) : Bool := reprOk2 x && (match x with
    | .tuple ds => ds.all (fun y => y.plain) && (match ds with
      | [.int a, .int b] => decide (b.natAbs < 1000)
      | _ => true)
    | _ => true)
theorem vkB_ok {x : PyData} (h1 : vkB x = true) : Vk x := by
  unfold vkB at h1
  rw [Bool.and_eq_true] at h1
  refine ⟨fun a b e => ?_, fun ds e y hy => ?_, if_pos h1.1⟩
  · subst e
    have h2 := h1.2
    dsimp only at h2
    rw [Bool.and_eq_true] at h2
    have := of_decide_eq_true h2.2
    exact LG.mono (.of_lt (Nat.lt_trans this (show 1000 < 2 ^ (10 + 1) by decide))) (by decide)
  · subst e
    have h2 := h1.2
    dsimp only at h2
    rw [Bool.and_eq_true] at h2
    exact List.all_eq_true.mp h2.1 y hy
theorem Vk.menu {x : PyData} (hx : x ∈ M) : Vk x := by
  have h : M.all vkB = true := by decide +kernel
  exact vkB_ok (List.all_eq_true.mp h x hx)
theorem frc_mul {a b t : Int} (ht : 0 < t) (hb : b ≠ 0) : frc (a * t) (b * t) = frc a b := by
  unfold frc
  by_cases h : b < 0
  · have : b * t < 0 := Int.mul_neg_of_neg_of_pos h ht
    rw [if_pos h, if_pos this, ← Int.neg_mul, ← Int.neg_mul]
    exact low_mul ht
  · have : ¬ b * t < 0 := by
      have := Int.mul_pos (show 0 < b by omega) ht
      omega
    rw [if_neg h, if_neg this]
    exact low_mul ht
theorem frc_neg2 {a b : Int} (hb : b ≠ 0) : frc (-a) (-b) = frc a b := by
  unfold frc
  by_cases h : b < 0
  · rw [if_pos h, if_neg (by omega)]
  · rw [if_neg h, if_pos (by omega), Int.neg_neg, Int.neg_neg]
theorem fine2 {a b : Bool} : Fine 1 (.list [.bool a, .bool b]) := .list (by simp) fun x hx => by
  simp only [List.mem_cons, List.not_mem_nil, or_false] at hx
  rcases hx with rfl | rfl <;> exact .bool
theorem fine_tw (p : Int × Int) : Fine 1 (tw p) := .tuple (by simp) fun x hx => by
  simp only [List.mem_cons, List.not_mem_nil, or_false] at hx
  rcases hx with rfl | rfl <;> exact .int
theorem fine_tws {ps : List (Int × Int)} (h : ps.length ≤ 1000) : Fine 2 (.list (ps.map tw)) := .list (by rw [List.length_map, LIM_eq]; omega) fun x hx => by
  obtain ⟨p, _, rfl⟩ := List.mem_map.mp hx
  exact fine_tw p
theorem s_made (n : Nat) {k B : Nat} {S S0 : SS} (g : Gs k (B + 200) S0 S) : oE (sem (n + 8) 38 [.box k] S) fun t v S' => t = .pure ∧ v = .py (.bool true) ∧ Gs k B S0 S' := by
  rw [sem__law_made_right, oE_fun (by rfl)]
  unfold b__law_made_right
  simp -dsimp
  obtain ⟨a, b, S1, e1, hb, la, lb, g1⟩ := s_pair (n + 2) (B := B + 80) g
  simp -dsimp [e1, tw]
  refine (randK (n + 5)).go g1 (by decide) (by decide) ?_
  intro r S2 r0 r1 g2
  have lt : LG 10 (1 + r) := .of_lt (by
    have : (2 : Nat) ^ 11 = 2048 := by decide
    omega)
  have hf := frc_fq hb la lb
  have ef := s_frac (n + 5) (a := a) hb (lb.mono (by decide)) S2
  have ef2 := s_fraction_of (n + 4) (a := a) hb (lb.mono (by decide)) S2
  have mb := mulP_ok lb lt (by decide)
  have ma := mulP_ok la lt (by decide)
  have tb : b * (1 + r) ≠ 0 := Int.mul_ne_zero hb (by omega)
  have lbt := lb.mul lt
  have lat := la.mul lt
  have ef3 := s_fraction_of (n + 4) (a := a * (1 + r)) tb (lbt.mono (by decide)) S2
  rw [frc_mul (by omega) hb] at ef3
  have ef4 := s_fraction_of (n + 4) (a := -a) (b := -b) (by omega) ((LG.neg lb).mono (by decide)) S2
  rw [frc_neg2 hb] at ef4
  generalize frc a b = p at hf ef ef2 ef3 ef4
  have ex := exactK (fine_tws (ps := [p, p, p]) (by simp)) (by decide) (n + 7) S2 (by omega)
  simp only [List.map_cons, List.map_nil] at ex
  unfold tw at *
  simp -dsimp [ef, ef2, ef3, ef4, ma, mb, pick, ex, listP, addP, slP]
  obtain ⟨x, S3, e5, hx, g3⟩ := s_any n (B := B + 40) g2
  simp -dsimp [e5, addP]
  have l1 : Leaf (.int p.1) := .int (hf.s1.mono (by decide))
  have l2 : Leaf (.int p.2) := .int (hf.s2.mono (by decide))
  have la' : Leaf (.int a) := .int (la.mono (by decide))
  have lb' : Leaf (.int b) := .int (lb.mono (by decide))
  have c1 : ∀ i : Int, i.natAbs < 100 → Leaf (.int i) := fun i hi => .int (LG.mono (.of_lt (Nat.lt_trans hi (show 100 < 2 ^ (6 + 1) by decide))) (by decide))
  have two : ∀ {x y : PyData}, Leaf x → Leaf y → ∀ d ∈ [x, y], Leaf d := fun {x y} hx hy d hd => by
    simp only [List.mem_cons, List.not_mem_nil, or_false] at hd
    rcases hd with rfl | rfl
    · exact hx
    · exact hy
  refine oS_for0 (fun i sl S' => S' = S3 ∧ ∃ x1 x2 x3 x4 x5 x6 x7 x8, sl = [.p (.box k), x1, x2, x3, x4, x5, x6, x7, x8]) ⟨rfl, _, _, _, _, _, _, _, _, rfl⟩ ?_ ?_
  · rintro i d sl S' hd ⟨rfl, x1, x2, x3, x4, x5, x6, x7, x8, rfl⟩
    have hd := List.mem_of_getElem? hd
    have hv : Vk d := by
      simp only [List.mem_cons, List.not_mem_nil, or_false] at hd
      rcases hd with rfl | rfl | rfl | rfl | rfl | rfl | rfl | rfl | rfl | rfl | rfl | rfl | rfl | rfl | rfl | rfl | rfl | rfl | rfl | rfl | rfl | rfl
      · exact .tuple (two l1 l2) (by simp)
      · exact .list (two l1 l2) (by simp)
      · refine .tuple (fun d hd => ?_) (by simp)
        simp only [List.mem_cons, List.not_mem_nil, or_false] at hd
        rcases hd with rfl | rfl | rfl
        · exact l1
        · exact l2
        · exact c1 1 (by decide)
      · refine .tuple (fun d hd => two l1 l2 d (cutD_mem hd)) (Nat.le_trans (cutD_len _ _ _) (by simp))
      · exact .tuple (two la' lb') (by simp)
      · exact .tuple (two (.int (lat.mono (by decide))) (.int (lbt.mono (by decide)))) (by simp)
      · exact .tuple (two l1 (.int ((LG.neg hf.s2).mono (by decide)))) (by simp)
      · exact .tuple (two l1 (c1 0 (by decide))) (by simp)
      · exact vkB_ok (by decide +kernel)
      · exact vkB_ok (by decide +kernel)
      · exact vkB_ok (by decide +kernel)
      · exact .leaf .none
      · exact .leaf la'
      · exact vkB_ok (by decide +kernel)
      · exact vkB_ok (by decide +kernel)
      · exact .menu hx
      · exact vkB_ok (by decide +kernel)
      · exact vkB_ok (by decide +kernel)
      · exact vkB_ok (by decide +kernel)
      · exact vkB_ok (by decide +kernel)
      · exact vkB_ok (by decide +kernel)
      · exact vkB_ok (by decide +kernel)
    have f1 := s_is_fraction (n + 5) hv.z S'
    have f2 := s_law_fr (n + 4) hv.z hv.p S'
    have f3 := exactK (fine2 (a := isFr d) (b := isFr d)) (by decide) (n + 7) S' (by omega)
    have f4 := neP_refl (k := 0) (a := .str d.shown) .str (by decide)
    simp -dsimp [hv.r, f1, f2, f3, f4, pick]
  · rintro sl S' ⟨rfl, x1, x2, x3, x4, x5, x6, x7, x8, rfl⟩
    simp -dsimp
    exact g3.mono (by omega)
end K02
set_option Elab.async false
set_option linter.all false
set_option maxRecDepth 100000
set_option maxHeartbeats 4000000
namespace K02
open PySem PP L2
/-! ## sums and products -/
theorem cB0 (p q : Int × Int) : True := trivial
def fqs (B : SS) : Prop := True
/-- drawn fractions -/
theorem s_items (n N m : Nat) {v w : Nat} {k B : Nat} {S S0 : SS} {sl : Sl} {Q : List PyData → SS → Prop} (g : Gs k (B + 120 * m) S0 S) (hm : m ≤ 100) (h0 : sl[0]? = some (.p (.box k))) (hw : w ≠ 0) (hw2 : w < sl.length)
    (q : ∀ (ps : List (Int × Int)) S', ps.length ≤ m → (∀ p ∈ ps, p.2 ≠ 0 ∧ LG 33 p.1 ∧ LG 33 p.2) → Gs k B S0 S' → Q (ps.map tw) S') :
    oI (lcLoop (gNm w) fYes (fCallF 1 (sem (n + 5) 35) (faCons (fVar 0) faNil)) sl (rng 0 m) [] S) Q := by
  refine oI_lc (fun i acc S => hid (∃ ps : List (Int × Int), acc = ps.map tw ∧ ps.length ≤ i ∧ (∀ p ∈ ps, p.2 ≠ 0 ∧ LG 33 p.1 ∧ LG 33 p.2) ∧ Gs k (B + 120 * (m - i)) S0 S)) (hid.mk ⟨[], rfl, by simp, by simp, g⟩) (by rw [rng_len, LIM_eq]; omega) ?_ ?_
  · rintro i d acc S hd ⟨ps, rfl, hl, hp, gs⟩
    obtain ⟨hi, rfl⟩ := rng_get hd
    obtain ⟨a, b, S', e, h1, h2, h3, g'⟩ := s_pair n (B := B + 120 * (m - (i + 1))) (gs.mono (by omega))
    have e0 : ∀ x : Slot, (sl.set w x)[0]? = some (.p (.box k)) := fun x => by
      rw [List.getElem?_set_ne (by omega), h0]
    simp -dsimp [ap_Var, e0, e]
    refine hid.mk ⟨ps ++ [(a, b)], by simp [tw], by simp; omega, ?_, g'⟩
    intro p hp'
    rcases List.mem_append.mp hp' with hp' | hp'
    · exact hp p hp'
    · rw [List.mem_singleton.mp hp']; exact ⟨h1, h2, h3⟩
  · rintro acc S hl ⟨ps, rfl, hl2, hp, gs⟩
    rw [rng_len] at hl2 gs
    exact q ps S hl2 hp (gs.mono (by omega))
/-- made fractions of them -/
theorem s_fracs (n : Nat) {v : Nat} {S : SS} {sl : Sl} {Q : List PyData → SS → Prop} {ps : List (Int × Int)} (hl : ps.length ≤ 1000) (hp : ∀ p ∈ ps, p.2 ≠ 0 ∧ LG 33 p.1 ∧ LG 33 p.2) (hv : v < sl.length)
    (q : ∀ qs : List (Int × Int), qs.length = ps.length → (∀ p ∈ qs, Fq 33 p) → Q (qs.map tw) S) :
    oI (lcLoop (gNm v) fYes (fCallF 2 (sem (n + 2) 36) (faCons (fIx (fVar v) (fC (.int 0))) (faCons (fIx (fVar v) (fC (.int 1))) faNil))) sl (ps.map tw) [] S) Q := by
  have := q (ps.map fun p => frc p.1 p.2) (by simp) (fun p hp' => by
    obtain ⟨p, h, rfl⟩ := List.mem_map.mp hp'
    obtain ⟨h1, h2, h3⟩ := hp p h
    exact frc_fq h1 h2 h3)
  refine oI_lcM (fun d => match d with
    | .tuple [.int a, .int b] => tw (frc a b)
    | d => d) (by rw [List.length_map, LIM_eq]; omega) ?_ ?_
  · intro d hd
    obtain ⟨p, h, rfl⟩ := List.mem_map.mp hd
    obtain ⟨h1, h2, h3⟩ := hp p h
    have e0 : (sl.set v (.p (.py (tw p))))[v]? = some (.p (.py (tw p))) := List.getElem?_set_self hv
    have e := s_frac n (a := p.1) h1 (h3.mono (by decide)) S
    unfold tw at *
    simp -dsimp [ap_Var, e0, e]
  · rw [List.map_map] at this
    rw [List.map_map]
    exact this
end K02
set_option Elab.async false
set_option linter.all false
set_option maxRecDepth 100000
set_option maxHeartbeats 4000000
namespace K02
open PySem PP L2
def Sm (qs : List (Int × Int)) (i : Nat) : Int × Int := (qs.take i).foldl plus (0, 1)
def Pd (qs : List (Int × Int)) (i : Nat) : Int × Int := (qs.take i).foldl times (1, 1)
theorem fold_succ {α β : Type} (f : β → α → β) (z : β) {l : List α} {i : Nat} {a : α} (h : l[i]? = some a) : (l.take (i + 1)).foldl f z = f ((l.take i).foldl f z) a := by
  rw [List.take_add_one, h, List.foldl_append]
  rfl
theorem sm_fq {qs : List (Int × Int)} {i : Nat} (h : ∀ p ∈ qs, Fq 33 p) : Fq (i * 35) (Sm qs i) := by
  have := fold_fq (op := plus) plus_fq (m := 33) (qs.take i) 0 (0, 1) (fun p hp => h p (List.mem_of_mem_take hp)) fq01
  refine this.mono ?_
  have := List.length_take_le i qs
  omega
theorem pd_fq {qs : List (Int × Int)} {i : Nat} (h : ∀ p ∈ qs, Fq 33 p) : Fq (i * 35) (Pd qs i) := by
  have := fold_fq (op := times) times_fq (m := 33) (qs.take i) 0 (1, 1) (fun p hp => h p (List.mem_of_mem_take hp)) fq11
  refine this.mono ?_
  have := List.length_take_le i qs
  omega
theorem frac_plus (n : Nat) {k m : Nat} {p q : Int × Int} (h : Fq k p) (g : Fq m q) (l : k + m + 2 ≤ 4500) (S : SS) : sem (n + 2) 36 [.py (.int (p.1 * q.2 + q.1 * p.2)), .py (.int (p.2 * q.2))] S = some (.val .pure (.py (tw (plus p q))) S) := by
  obtain ⟨a, b, c⟩ := plus_lg h g
  exact s_frac n c (b.mono l) S
theorem frac_times (n : Nat) {k m : Nat} {p q : Int × Int} (h : Fq k p) (g : Fq m q) (l : k + m + 2 ≤ 4500) (S : SS) : sem (n + 2) 36 [.py (.int (p.1 * q.1)), .py (.int (p.2 * q.2))] S = some (.val .pure (.py (tw (times p q))) S) := by
  obtain ⟨a, b, c⟩ := times_lg h g
  exact s_frac n c (b.mono l) S
theorem tw0 (p : Int × Int) : ixP (tw p) (.int 0) = some (.int p.1) := ixP_t0
theorem tw1 (p : Int × Int) : ixP (tw p) (.int 1) = some (.int p.2) := ixP_t1
theorem fq_shw {p : Int × Int} (h : Fq 33 p) : Shw 79 (tw p) := .tuple (k := 36) (by
  intro d hd
  simp only [List.mem_cons, List.not_mem_nil, or_false] at hd
  rcases hd with rfl | rfl
  · exact .int h.s1 (by decide) (by decide)
  · exact .int h.s2 (by decide) (by decide)) (by simp)
theorem tws_repr {qs : List (Int × Int)} (h : ∀ p ∈ qs, Fq 33 p) (hl : qs.length ≤ 100) : repr2P [.list (qs.map tw)] = some (.pure, .str (PyData.list (qs.map tw)).shown) :=
  repr2_of (m := 100000) (k := 2) (.list (k := 79) (by
    intro d hd
    obtain ⟨p, hp, rfl⟩ := List.mem_map.mp hd
    exact fq_shw (h p hp)) (by rw [List.length_map]; omega)) (fine_tws (by omega)) (by decide) (by decide)
/-- how the law adds and multiplies -/
def tB (L : Nat → FF) (a b c : Nat) : FS := (fThen (fSet a (fCallF 2 (L 36) (faCons (fFz (fBin addP (fBin mulP (fIx (fVar a) (fC (.int (0)))) (fIx (fVar c) (fC (.int (1))))) (fBin mulP (fIx (fVar c) (fC (.int (0)))) (fIx (fVar a) (fC (.int (1))))))) (faCons (fBin mulP (fIx (fVar a) (fC (.int (1)))) (fIx (fVar c) (fC (.int (1))))) faNil))))
    (fThen (fSet b (fCallF 2 (L 36) (faCons (fBin mulP (fIx (fVar b) (fC (.int (0)))) (fIx (fVar c) (fC (.int (0))))) (faCons (fBin mulP (fIx (fVar b) (fC (.int (1)))) (fIx (fVar c) (fC (.int (1))))) faNil))))
    fNil))
theorem tB_ok (n : Nat) {a b c i : Nat} {qs : List (Int × Int)} (hq : ∀ p ∈ qs, Fq 33 p) (hl : qs.length ≤ 100) {p : Int × Int} (hp : qs[i]? = some p) {sl : Sl} {S : SS} {N : Sl → SS → Prop} {K : KS} (ha : sl[a]? = some (.p (.py (tw (Sm qs i))))) (hb : sl[b]? = some (.p (.py (tw (Pd qs i))))) (hc : sl[c]? = some (.p (.py (tw p)))) (ab : a ≠ b) (ac : a ≠ c)
    (q : N ((sl.set a (.p (.py (tw (Sm qs (i + 1)))))).set b (.p (.py (tw (Pd qs (i + 1)))))) S) : oS (tB (sem (n + 2)) a b c sl S) N K := by
  have hi : i < qs.length := (List.getElem?_eq_some_iff.mp hp).1
  have fp := hq p (List.mem_of_getElem? hp)
  have fs := sm_fq (i := i) hq
  have fd := pd_fq (i := i) hq
  have m1 := mulP_ok fs.s1 fp.s2 (by omega)
  have m2 := mulP_ok fp.s1 fs.s2 (by omega)
  have m3 := mulP_ok fs.s2 fp.s2 (by omega)
  have m4 := mulP_ok fd.s1 fp.s1 (by omega)
  have m5 := mulP_ok fd.s2 fp.s2 (by omega)
  have e1 := frac_plus n fs fp (by omega) S
  have e2 := frac_times n fd fp (by omega) S
  have hb2 : ∀ x : Slot, (sl.set a x)[b]? = some (.p (.py (tw (Pd qs i)))) := fun x => by rw [List.getElem?_set_ne ab, hb]
  have hc2 : ∀ x : Slot, (sl.set a x)[c]? = some (.p (.py (tw p))) := fun x => by rw [List.getElem?_set_ne ac, hc]
  have s1 : Sm qs (i + 1) = plus (Sm qs i) p := fold_succ plus (0, 1) hp
  have s2 : Pd qs (i + 1) = times (Pd qs i) p := fold_succ times (1, 1) hp
  rw [← s1] at e1
  rw [← s2] at e2
  unfold tB
  simp -dsimp [ap_Var, ha, hb, hc, hb2, hc2, tw0, tw1, m1, m2, m3, m4, m5, e1, e2]
  exact q
end K02
set_option Elab.async false
set_option linter.all false
set_option maxRecDepth 100000
set_option maxHeartbeats 4000000
namespace K02
open PySem PP L2
theorem pow_two_len : True := trivial
theorem inP_pick {n : Nat} {k B : Nat} {S S0 : SS} {qs : List (Int × Int)} {Q : Tg → Vl → SS → Prop} (g : Gs k (B + 20) S0 S) (h0 : qs ≠ []) (hl : qs.length ≤ 1000) (q : ∀ p S', p ∈ qs → Gs k B S0 S' → Q .pure (.py (tw p)) S') : oE (sem (n + 3) 22 [.box k, .py (.list (qs.map tw))] S) Q := by
  refine (pickK n).go g (by simpa using h0) (by rw [List.length_map]; omega) ?_
  intro x S' hx g'
  obtain ⟨p, hp, rfl⟩ := List.mem_map.mp hx
  exact q p S' hp g'
theorem Sm_len (qs : List (Int × Int)) : Sm qs qs.length = qs.foldl plus (0, 1) := by unfold Sm; rw [List.take_length]
theorem Pd_len (qs : List (Int × Int)) : Pd qs qs.length = qs.foldl times (1, 1) := by unfold Pd; rw [List.take_length]
theorem s_sums (n : Nat) {k B : Nat} {S S0 : SS} (g : Gs k (B + 800) S0 S) : oE (sem (n + 8) 39 [.box k] S) fun t v S' => t = .pure ∧ v = .py (.bool true) ∧ Gs k B S0 S' := by
  rw [sem__law_sums_right, oE_fun (by rfl)]
  unfold b__law_sums_right
  simp -dsimp
  refine (randK (n + 5)).go (g.mono (B' := B + 760 + 20) (by omega)) (by decide) (by decide) ?_
  intro r S1 r0 r1 g1
  have hr : rgOk r = true := rgOk_of (by omega) (by omega)
  simp -dsimp [hr, wipeSl]
  refine s_items (n + 2) 0 r.toNat (v := 0) (B := B + 40) (g1.mono (by omega)) (by omega) (by simp) (by decide) (by simp) ?_
  intro ps S2 hps hp g2
  simp -dsimp [wipeSl]
  refine s_fracs (n + 5) (by omega) hp (by simp) ?_
  intro qs hql hq
  have hl : qs.length ≤ 5 := by omega
  have er := tws_repr hq (by omega)
  generalize hz : (PyData.list (qs.map tw)).shown = z at er
  simp -dsimp [er]
  refine oS_for0 (fun i sl S' => hid (S' = S2 ∧ ∃ x5, sl = [.p (.box k), .p (.py (.list (qs.map tw))), .p (.py (.str z)), .p (.py (tw (Sm qs i))), .p (.py (tw (Pd qs i))), x5, .un, .un, .un, .un, .un])) (hid.mk ⟨rfl, _, rfl⟩) ?_ ?_
  · rintro i d sl S' hd ⟨rfl, x5, rfl⟩
    rw [List.getElem?_map] at hd
    obtain ⟨p, hp, rfl⟩ := Option.map_eq_some_iff.mp hd
    rw [ap_Nm, oV_some]
    exact tB_ok (n + 5) hq (by omega) hp (a := 3) (b := 4) (c := 5) rfl rfl rfl (by decide) (by decide) (hid.mk ⟨rfl, _, rfl⟩)
  rintro sl S' ⟨rfl, x5, rfl⟩
  rw [List.length_map]
  have e1 := s_sum (n + 2) (m := 33) hq (by omega) (by omega) S'
  have e2 := s_product (n + 2) (m := 33) hq (by omega) (by omega) S'
  rw [← Sm_len] at e1
  rw [← Pd_len] at e2
  generalize hT : Sm qs qs.length = T at e1
  generalize hP : Pd qs qs.length = P at e2
  have ex := exactK (fine_tws (ps := [T, T, P, P]) (by simp)) (by decide) (n + 7) S' (by omega)
  simp only [List.map_cons, List.map_nil] at ex
  have ad := addP_l (a := qs.map tw) (b := [tw (1, 3), tw (1, 2), tw (-1, 2), tw (0, 1)]) (by simp; omega)
  have ad2 : qs.map tw ++ [tw (1, 3), tw (1, 2), tw (-1, 2), tw (0, 1)] = (qs ++ [(1, 3), (1, 2), (-1, 2), (0, 1)]).map tw := by simp
  rw [ad2] at ad
  have ad3 : addP (.list (qs.map tw)) (.list [.tuple [.int 1, .int 3], .tuple [.int 1, .int 2], .tuple [.int (-1), .int 2], .tuple [.int 0, .int 1]]) = some (.fresh, .list ((qs ++ [(1, 3), (1, 2), (-1, 2), (0, 1)]).map tw)) := ad
  have hq2 : ∀ p ∈ qs ++ [(1, 3), (1, 2), (-1, 2), (0, 1)], Fq 33 p := by
    intro p hp
    rcases List.mem_append.mp hp with hp | hp
    · exact hq p hp
    · simp only [List.mem_cons, List.not_mem_nil, or_false] at hp
      have o : ∀ {a b : Int}, 0 < b → Int.gcd a b = 1 → a.natAbs < 4 → b.natAbs < 4 → Fq 33 (a, b) := fun h0 h1 h2 h3 => Fq.mono (k := 1) ⟨h0, h1, .of_lt h2, .of_lt h3⟩ (by decide)
      rcases hp with rfl | rfl | rfl | rfl <;> exact o (by decide) (by decide) (by decide) (by decide)
  have nm : List.map tw (qs ++ [(1, 3), (1, 2), (-1, 2), (0, 1)]) = List.map tw (qs ++ [(1, 3), (1, 2), (-1, 2), (0, 1)]) := rfl
  generalize hQ : qs ++ [(1, 3), (1, 2), (-1, 2), (0, 1)] = QS at ad3 hq2
  simp -dsimp [e1, e2, pick, ex, ad3]
  refine inP_pick (n := n + 4) (B := B + 20) (g2.mono (by omega)) (by rw [← hQ]; simp) (by rw [← hQ]; simp; omega) ?_
  intro p S3 hp3 g3
  simp -dsimp
  refine inP_pick (n := n + 4) (B := B) g3 (by rw [← hQ]; simp) (by rw [← hQ]; simp; omega) ?_
  intro q S4 hp4 g4
  have fp := hq2 p hp3
  have fq := hq2 q hp4
  simp -dsimp
  refine oS_for0 (fun i sl S' => hid (S' = S4 ∧ ∃ x8 x9 a b c, sl = [.p (.box k), .p (.py (.list (QS.map tw))), .p (.py (.str z)), a, b, c, .p (.py (tw p)), .p (.py (tw q)), x8, x9, .un])) (hid.mk ⟨rfl, _, _, _, _, _, rfl⟩) ?_ ?_
  · rintro i d sl S' hd ⟨rfl, x8, x9, a, b, c, rfl⟩
    have hd := List.mem_of_getElem? hd
    have ht : ∃ u w, d = .tuple [tw u, tw w] ∧ Fq 33 u ∧ Fq 33 w := by
      simp only [List.mem_cons, List.not_mem_nil, or_false] at hd
      rcases hd with rfl | rfl | rfl
      · exact ⟨_, _, rfl, fp, fq⟩
      · exact ⟨_, _, rfl, fq, fp⟩
      · exact ⟨_, _, rfl, fp, fp⟩
    obtain ⟨u, w, rfl, fu, fw⟩ := ht
    have m1 := mulP_ok fu.s1 fw.s2 (by decide)
    have m2 := mulP_ok fw.s1 fu.s2 (by decide)
    have l1 := s_is_less (n + 3) fu fw (by decide) (by decide) S'
    have ex := exactK (fine2 (a := decide (u.1 * w.2 < w.1 * u.2)) (b := decide (u.1 * w.2 < w.1 * u.2))) (by decide) (n + 7) S' (by omega)
    generalize hb : decide (u.1 * w.2 < w.1 * u.2) = b at l1 ex
    simp -dsimp [tw0, tw1, m1, m2, hb, l1, ex, pick]
    exact hid.mk ⟨rfl, _, _, _, _, _, rfl⟩
  · rintro sl S' ⟨rfl, x8, x9, a, b, c, rfl⟩
    have cut : cutD (QS.map tw) none (some (-4)) = qs.map tw := by
      rw [← hQ, List.map_append]
      unfold cutD
      rw [HT.sIx_none, show HT.sIx (qs.map tw ++ [(1, 3), (1, 2), (-1, 2), (0, 1)].map tw).length (qs.map tw ++ [(1, 3), (1, 2), (-1, 2), (0, 1)].map tw).length (some (-4)) = (qs.map tw).length by
        unfold HT.sIx
        simp
        omega]
      rw [List.drop_zero, Nat.sub_zero, List.take_left]
    have ee := eqP_refl (k := 0) (a := .str z) .str (by decide)
    simp -dsimp [slP, cut, er, ee]
    exact g4
end K02
set_option Elab.async false
set_option linter.all false
set_option maxRecDepth 100000
set_option maxHeartbeats 4000000
namespace K02
open PySem PP L2
theorem plus_zero {k : Nat} {p : Int × Int} (h : Fq k p) : plus (0, 1) p = p := by
  unfold plus
  obtain ⟨a, b⟩ := p
  have hb : 0 < b := h.pos
  have hg : Int.gcd a b = 1 := h.low
  simp only [Int.zero_mul, Int.mul_one, Int.one_mul, Int.zero_add]
  rw [frc_pos hb, low_self hg]
theorem fine_list {k : Nat} {ds : List PyData} (hl : ds.length ≤ 1000) (h : ∀ d ∈ ds, Fine k d) : Fine (k + 1) (.list ds) := .list (by rw [LIM_eq]; omega) h
theorem s_long (n : Nat) {k B : Nat} {S S0 : SS} (g : Gs k (B + 7200) S0 S) : oE (sem (n + 8) 40 [.box k] S) fun t v S' => t = .pure ∧ v = .py (.bool true) ∧ Gs k B S0 S' := by
  rw [sem__law_long_right, oE_fun (by rfl)]
  unfold b__law_long_right
  simp -dsimp [wipeSl]
  refine s_items (n + 2) 0 60 (v := 0) (B := B) (g.mono (by omega)) (by omega) (by simp) (by decide) (by simp) ?_
  intro ps S2 hps hp g2
  simp -dsimp [wipeSl]
  refine s_fracs (n + 5) (by omega) hp (by simp) ?_
  intro qs hql hq
  have hl : qs.length ≤ 60 := by omega
  have er := tws_repr hq (by omega)
  generalize hz : (PyData.list (qs.map tw)).shown = z at er
  simp -dsimp [er]
  refine oS_for0 (fun i sl S' => hid (S' = S2 ∧ ∃ x5, sl = [.p (.box k), .p (.py (.list (qs.map tw))), .p (.py (tw (Sm qs i))), .p (.py (tw (Pd qs i))), x5, .un, .un, .un, .un, .un])) (hid.mk ⟨rfl, _, rfl⟩) ?_ ?_
  · rintro i d sl S' hd ⟨rfl, x5, rfl⟩
    rw [List.getElem?_map] at hd
    obtain ⟨p, hp, rfl⟩ := Option.map_eq_some_iff.mp hd
    rw [ap_Nm, oV_some]
    exact tB_ok (n + 5) hq (by omega) hp (a := 2) (b := 3) (c := 4) rfl rfl rfl (by decide) (by decide) (hid.mk ⟨rfl, _, rfl⟩)
  rintro sl S' ⟨rfl, x5, rfl⟩
  rw [List.length_map]
  have e1 := s_sum (n + 2) (m := 33) hq (by omega) (by omega) S'
  have e2 := s_product (n + 2) (m := 33) hq (by omega) (by omega) S'
  rw [← Sm_len] at e1
  rw [← Pd_len] at e2
  have fT := (sm_fq (i := qs.length) hq).mono (m := 2100) (by omega)
  have fP := (pd_fq (i := qs.length) hq).mono (m := 2100) (by omega)
  generalize Sm qs qs.length = T at e1 fT
  generalize Pd qs qs.length = P at e2 fP
  have i1 := s_is_fraction (n + 5) (fT.sized (by decide)) S'
  have i2 := s_is_fraction (n + 5) (fP.sized (by decide)) S'
  rw [fT.fr] at i1
  rw [fP.fr] at i2
  have ex := exactK (fine_list (k := 1) (ds := [tw T, tw P, .bool true, .bool true]) (by simp) (by
    intro d hd
    simp only [List.mem_cons, List.not_mem_nil, or_false] at hd
    rcases hd with rfl | rfl | rfl | rfl
    · exact fine_tw _
    · exact fine_tw _
    · exact .bool
    · exact .bool)) (by decide) (n + 7) S' (by omega)
  have ne := neP_refl (k := 0) (a := .str z) .str (by decide)
  have m1 := mulP_ok fT.s1 fP.s2 (by decide)
  have m2 := mulP_ok fP.s1 fT.s2 (by decide)
  have m3 := mulP_ok fT.s2 fP.s2 (by decide)
  have e3 := frac_plus (n + 5) fT fP (by decide) S'
  have l1 := s_is_less (n + 3) fT fP (by decide) (by decide) S'
  have two : ∀ p ∈ [T, P], Fq 2100 p := by
    intro p hp
    simp only [List.mem_cons, List.not_mem_nil, or_false] at hp
    rcases hp with rfl | rfl
    · exact fT
    · exact fP
  have e4 := s_sum (n + 2) (ps := [T, P]) two (by decide) (by simp) S'
  simp only [List.foldl_cons, List.foldl_nil, plus_zero fT, List.map_cons, List.map_nil] at e4
  have ex2 := exactK (fine_list (k := 1) (ds := [.bool (decide (T.1 * P.2 < P.1 * T.2)), tw (plus T P)]) (by simp) (by
    intro d hd
    simp only [List.mem_cons, List.not_mem_nil, or_false] at hd
    rcases hd with rfl | rfl
    · exact .bool
    · exact fine_tw _)) (by decide) (n + 7) S' (by omega)
  generalize hb : decide (T.1 * P.2 < P.1 * T.2) = b at l1 ex2
  generalize plus T P = U at e3 e4 ex2
  simp -dsimp [er, e1, e2, i1, i2, ex, ne, tw0, tw1, m1, m2, m3, e3, l1, e4, hb, ex2]
  exact g2
/-! ## fractions drawn and reckoned with -/
theorem s_fractions_right (n : Nat) (ns : List Int) (S : SS) : oE (sem (n + 9) 41 [.py (.list (ns.map PyData.int))] S) fun t v S' => t = .pure ∧ v = .py (.bool true) := by
  rw [sem__law_fractions_right, oE_fun (by rfl)]
  unfold b__law_fractions_right
  simp -dsimp
  refine oS_for0 (fun i sl S' => hid (∃ x1 x2 x3, sl = [.p (.py (.list (ns.map PyData.int))), x1, x2, x3])) (hid.mk ⟨_, _, _, rfl⟩) ?_ ?_
  · rintro i d sl S hd ⟨x1, x2, x3, rfl⟩
    obtain ⟨hi, rfl⟩ := rng_get hd
    simp -dsimp
    refine (genK (n + 6)).go 14000 (by omega) (by omega) (by decide) ?_
    intro d gd
    simp -dsimp
    refine oS_for0 (fun i sl S' => hid ((∃ x1 x3, sl = [.p (.py (.list (ns.map PyData.int))), x1, .p (.box S.length), x3]) ∧ Gs S.length (7200 + 1000 * (5 - i)) (S ++ [d]) S')) (hid.mk ⟨⟨_, _, rfl⟩, (Gs.new gd).mono (by decide)⟩) ?_ ?_
    · rintro j dj sl S2 hdj ⟨⟨y1, y3, rfl⟩, g2⟩
      obtain ⟨hj, rfl⟩ := rng_get hdj
      simp -dsimp
      refine oE_imp (s_made n (B := 7200 + 1000 * (5 - (j + 1)) + 800) (g2.mono (by omega))) ?_
      rintro _ _ S3 ⟨rfl, rfl, g3⟩
      simp -dsimp
      refine oE_imp (s_sums n g3) ?_
      rintro _ _ S4 ⟨rfl, rfl, g4⟩
      simp -dsimp
      exact hid.mk ⟨⟨_, _, rfl⟩, g4⟩
    · rintro sl S2 ⟨⟨y1, y3, rfl⟩, g2⟩
      simp -dsimp
      refine oE_imp (s_long n (B := 0) (g2.mono (by omega))) ?_
      rintro _ _ S3 ⟨rfl, rfl, g3⟩
      simp -dsimp
      exact hid.mk ⟨_, _, _, rfl⟩
  · rintro sl S ⟨x1, x2, x3, rfl⟩
    simp -dsimp
end K02
set_option Elab.async false
set_option linter.all false
set_option maxRecDepth 100000
set_option maxHeartbeats 4000000
namespace K02
open PySem PP L2
/-! ## doors -/
def nw (d : PyData) : Bool := isTy .int d && !isTy .bool d
theorem s_fo_bad1 (n : Nat) {d : PyData} (h : nw d = false) (z : PyData) (S : SS) : sem (n + 3) 10 [.py d, .py z] S = some (.exn "InvalidNumber" d S) := by
  have e := s_is_whole (n + 1) d S
  unfold nw at h
  rw [h] at e
  rw [sem_fraction_of, funF2]
  simp [b_fraction_of, e]
theorem s_fo_bad2 (n : Nat) (a : Int) {d : PyData} (h : nw d = false ∨ d = .int 0) (S : SS) : sem (n + 3) 10 [.py (.int a), .py d] S = some (.exn "InvalidNumber" d S) := by
  have e0 := s_is_whole (n + 1) (.int a) S
  rw [sem_fraction_of, funF2]
  rcases h with h | rfl
  · have e := s_is_whole (n + 1) d S
    unfold nw at h
    rw [h] at e
    simp [b_fraction_of, e, e0, isTy]
  · have e := s_is_whole (n + 1) (.int 0) S
    simp [b_fraction_of, e, e0, isTy]
/-- the doors that are left as they are by the second way -/
theorem call43 (n : Nat) {j : Nat} (h0 : j ≠ 0) (h6 : j ≠ 6) (d : PyData) (S : SS) : sem (n + 1) 43 [.py (.int j), .py d] S = outE (sem n 42 [.py (.int j), .py d] S) := by
  rw [sem__law_right_call, funF2]
  have e6 : ¬ ((j : Int) = 6) := by omega
  simp [b__law_right_call, h0, e6]
  cases sem n 42 [.py (.int j), .py d] S with
  | none => rfl
  | some r => cases r with
    | exn c d S => rfl
    | val t v S => cases t <;> rfl
def kc : Nat → Str
  | 0 => "InvalidNumber"
  | 1 => "InvalidList"
  | _ => "InvalidFraction"
/-- what is wrong at a door of a kind -/
def OdK (j kind : Nat) (d : PyData) : Prop := match kind with
  | 0 => nw d = false ∨ (j ≠ 0 ∧ d = .int 0)
  | 1 => isTy .list d = false
  | _ => isFr d = false ∧ Sized d
def KN : List Nat := [0, 0, 1, 2, 1, 2, 2, 2, 0]
theorem good_tw : ∀ d ∈ [tw (1, 2)], Sized d ∧ isFr d = true := by
  intro d hd
  rw [List.mem_singleton.mp hd]
  exact ⟨Fq.sized (k := 1) ⟨by decide, by decide, .of_lt (by decide), .of_lt (by decide)⟩ (by decide), by decide⟩
theorem good_tw2 : ∀ d ∈ [tw (3, 1), tw (0, 1)], Sized d ∧ isFr d = true := by
  intro d hd
  simp only [List.mem_cons, List.not_mem_nil, or_false] at hd
  rcases hd with rfl | rfl
  · exact ⟨Fq.sized (k := 2) ⟨by decide, by decide, .of_lt (by decide), .of_lt (by decide)⟩ (by decide), by decide⟩
  · exact ⟨fq01.sized (by decide), by decide⟩
theorem call42 (n : Nat) {j kind : Nat} {d : PyData} (hj : KN[j]? = some kind) (h : OdK j kind d) (S : SS) : sem (n + 6) 42 [.py (.int j), .py d] S = some (.exn (kc kind) d S) := by
  have g1 := good_tw _ (List.mem_singleton.mpr rfl)
  rw [sem__law_call, funF2]
  match j, hj with
  | 0, hj =>
    cases hj
    have e := s_fo_bad1 (n + 2) (d := d) (by rcases h with h | ⟨h, _⟩; exact h; exact absurd rfl h) (.int 0) S
    simp [b__law_call, e, kc]
  | 1, hj =>
    cases hj
    have e := s_fo_bad2 (n + 2) 3 (d := d) (by rcases h with h | ⟨_, h⟩; exact .inl h; exact .inr h) S
    simp [b__law_call, e, kc]
  | 2, hj =>
    cases hj
    have e := s_sum_not n 15 (.inl rfl) (d := d) h S
    simp [b__law_call, e, kc]
  | 3, hj =>
    cases hj
    have e := s_sum_bad n 15 (.inl rfl) (ds := [tw (1, 2)]) (b := d) (r := [.none]) h.2 h.1 good_tw S
    have e : sem (n + 5) 15 [.py (.list [.tuple [.int 1, .int 2], d, .none])] S = some (.exn "InvalidFraction" d S) := e
    simp [b__law_call, e, kc]
  | 4, hj =>
    cases hj
    have e := s_sum_not n 16 (.inr rfl) (d := d) h S
    simp [b__law_call, e, kc]
  | 5, hj =>
    cases hj
    have e := s_sum_bad n 16 (.inr rfl) (ds := [tw (3, 1), tw (0, 1)]) (b := d) (r := [.tuple [.int 2, .int 4]]) h.2 h.1 good_tw2 S
    have e : sem (n + 5) 16 [.py (.list [.tuple [.int 3, .int 1], .tuple [.int 0, .int 1], d, .tuple [.int 2, .int 4]])] S = some (.exn "InvalidFraction" d S) := e
    simp [b__law_call, e, kc]
  | 6, hj =>
    cases hj
    have e := s_less_bad1 (n + 1) (d := d) (e := .none) h.2 h.1 S
    simp [b__law_call, e, kc]
  | 7, hj =>
    cases hj
    have e := s_less_bad2 (n + 1) (d := tw (1, 2)) (e := d) g1.1 g1.2 h.2 h.1 S
    have e : sem (n + 5) 17 [.py (.tuple [.int 1, .int 2]), .py d] S = some (.exn "InvalidFraction" d S) := e
    simp [b__law_call, e, kc]
  | 8, hj =>
    cases hj
    have e := s_fo_bad2 (n + 2) 0 (d := d) (by rcases h with h | ⟨_, h⟩; exact .inl h; exact .inr h) S
    simp [b__law_call, e, kc]
  | j + 9, hj => simp [KN] at hj
theorem call43x (n : Nat) {j kind : Nat} {d : PyData} (hj : KN[j]? = some kind) (h : OdK j kind d) (S : SS) : sem (n + 7) 43 [.py (.int j), .py d] S = some (.exn (kc kind) d S) := by
  by_cases h0 : j = 0
  · subst h0
    cases hj
    rw [sem__law_right_call, funF2]
    have e := s_fo_bad1 (n + 3) (d := d) (by rcases h with h | ⟨h, _⟩; exact h; exact absurd rfl h) (.int 2) S
    simp [b__law_right_call, e, kc]
  · by_cases h6 : j = 6
    · subst h6
      cases hj
      rw [sem__law_right_call, funF2]
      have e := s_less_bad1 (n + 2) (d := d) (e := .tuple [.int 1, .int 2]) h.2 h.1 S
      simp [b__law_right_call, e, kc]
    · rw [call43 (n + 6) h0 h6, call42 n hj h]
      rfl
end K02
set_option Elab.async false
set_option linter.all false
set_option maxRecDepth 100000
set_option maxHeartbeats 4000000
namespace K02
open PySem PP L2
theorem flat_rep (k : Nat) (d : PyData) : (List.replicate k [d]).flatten = List.replicate k d := by
  induction k with
  | zero => rfl
  | succ k ih => rw [List.replicate_succ, List.flatten_cons, ih]; rfl
theorem call9 (n : Nat) {j : Nat} (hj : j = 9 ∨ j = 10) {d : PyData} (h : isFr d = false ∧ Sized d) {at' : Int} (h0 : 0 ≤ at') (h1 : at' ≤ 12) (S : SS) : sem (n + 6) 42 [.py (.int j), .py (.tuple [d, .int at'])] S = some (.exn (kc 2) d S) := by
  obtain ⟨a, rfl⟩ := Int.eq_ofNat_of_zero_le h0
  have f13 : Fq 33 (1, 3) := Fq.mono (k := 1) ⟨by decide, by decide, .of_lt (by decide), .of_lt (by decide)⟩ (by decide)
  have g : ∀ x ∈ List.replicate a (tw (1, 3)), Sized x ∧ isFr x = true := fun x hx => by
    rw [(List.mem_replicate.mp hx).2]
    exact ⟨f13.sized (by decide), f13.fr⟩
  have c1 : (a : Int) ≤ 10000 ∧ -10000 ≤ (a : Int) ∧ [tw (1, 3)].length ≤ 9 := ⟨by omega, by omega, by simp⟩
  have c2 : 12 - (a : Int) ≤ 10000 ∧ -10000 ≤ 12 - (a : Int) ∧ [tw (1, 3)].length ≤ 9 := ⟨by omega, by omega, by simp⟩
  have e0 : ∀ sl, fVar 0 (.p (.py (.int j)) :: sl) S = some (.val .pure (.py (.int j)) S) := fun sl => rfl
  have a1 := addP_l (a := List.replicate a (tw (1, 3))) (b := [d]) (by simp; omega)
  have a2 := addP_l (a := List.replicate a (tw (1, 3)) ++ [d]) (b := List.replicate (12 - a) (tw (1, 3))) (by simp; omega)
  have app : List.replicate a (tw (1, 3)) ++ [d] ++ List.replicate (12 - a) (tw (1, 3)) = List.replicate a (tw (1, 3)) ++ d :: List.replicate (12 - a) (tw (1, 3)) := by simp
  have e15 := s_sum_bad n 15 (.inl rfl) (r := List.replicate (12 - a) (tw (1, 3))) h.2 h.1 g S
  have e16 := s_sum_bad n 16 (.inr rfl) (r := List.replicate (12 - a) (tw (1, 3))) h.2 h.1 g S
  have f1 := flat_rep a (tw (1, 3))
  have f2 := flat_rep (12 - a) (tw (1, 3))
  have tr : ∀ (sl : Sl) (i : Nat), i ≠ j → (i : Nat) < 9 → True := fun _ _ _ _ => trivial
  unfold tw at *
  generalize hg : List.replicate a (PyData.tuple [.int 1, .int 3]) = G1 at *
  generalize hg2 : List.replicate (12 - a) (PyData.tuple [.int 1, .int 3]) = G2 at *
  rw [sem__law_call, funF2]
  rcases hj with rfl | rfl
  · simp [b__law_call, c1.1, c1.2.1, c2.1, c2.2.1, f1, f2, a1, a2, e15, kc]
  · simp [b__law_call, c1.1, c1.2.1, c2.1, c2.2.1, f1, f2, a1, a2, e16, kc]
def kB (L : Nat → FF) : FS := (fThen (fIfS (fTb (fBin eqP (fVar 3) (fC (.int (0))))) (fThen (fDrop (fCallF 2 (L 42) (faCons (fVar 0) (faCons (fVar 1) faNil))))
    fNil) (fThen (fDrop (fCallF 2 (L 43) (faCons (fVar 0) (faCons (fVar 1) faNil))))
    fNil))
    fNil)
def ks (k : Nat) : PyData := .list [.bool (k == 0), .bool (k == 1), .bool (k == 2)]
def ks0 : PyData := .list [.bool false, .bool false, .bool false]
theorem fine_ks (k : Nat) : Fine 1 (ks k) := .list (by simp) fun x hx => by
  simp only [List.mem_cons, List.not_mem_nil, or_false] at hx
  rcases hx with rfl | rfl | rfl <;> exact .bool
theorem fine_res (k : Nat) (z : Str) : Fine 2 (.list [ks k, .str z]) := .list (by simp) fun x hx => by
  simp only [List.mem_cons, List.not_mem_nil, or_false] at hx
  rcases hx with rfl | rfl
  · exact fine_ks k
  · exact .str
theorem caught_x (n : Nat) {door other : PyData} {k : Nat} (hk : k < 3) {d : PyData} (hr : repr2P [d] = some (.pure, .str d.shown)) {S : SS} (h2 : sem n 42 [.py door, .py other] S = some (.exn (kc k) d S)) (h3 : sem n 43 [.py door, .py other] S = some (.exn (kc k) d S)) :
    sem (n + 1) 44 [.py door, .py other] S = some (.val .pure (.py (.list [ks k, .str d.shown])) S) := by
  apply oE_is
  have hc : errCs.contains (kc k) = true := by
    match k, hk with
    | 0, _ => decide
    | 1, _ => decide
    | 2, _ => decide
  have i1 : isi_InvalidNumber.lookup (kc k) = some (k == 0) := by
    match k, hk with
    | 0, _ => decide
    | 1, _ => decide
    | 2, _ => decide
  have i2 : isi_InvalidList.lookup (kc k) = some (k == 1) := by
    match k, hk with
    | 0, _ => decide
    | 1, _ => decide
    | 2, _ => decide
  have i3 : isi_InvalidFraction.lookup (kc k) = some (k == 2) := by
    match k, hk with
    | 0, _ => decide
    | 1, _ => decide
    | 2, _ => decide
  have fin := fine_res k d.shown
  generalize hR : PyData.list [ks k, .str d.shown] = R at fin
  rw [sem__law_caught, oE_fun (by rfl)]
  unfold b__law_caught
  simp -dsimp
  refine oS_for0 (fun i sl S' => hid (S' = S ∧ ∃ x3 x4 x5 x6, sl = [.p (.py door), .p (.py other), .own (.list (List.replicate i R)), x3, x4, x5, x6])) (hid.mk ⟨rfl, _, _, _, _, rfl⟩) ?_ ?_
  · rintro i w sl S' hd ⟨rfl, x3, x4, x5, x6, rfl⟩
    have hi : i < 2 := (List.getElem?_eq_some_iff.mp hd).1
    have hw : kB (sem n) [.p (.py door), .p (.py other), .own (.list (List.replicate i R)), .p (.py w), .p (.py .none), x5, x6] S' = some (.exn (kc k) d [.p (.py door), .p (.py other), .own (.list (List.replicate i R)), .p (.py w), .p (.py .none), x5, x6] S') := by
      match i, hi, hd with
      | 0, _, hd => cases hd; simp [kB, h2]
      | 1, _, hd => cases hd; simp [kB, h3]
    simp -dsimp
    refine w_KeepX hw hc ?_
    simp -dsimp [i1, i2, i3, hc, hr]
    have rs : List.replicate (i + 1) R = List.replicate i R ++ [.list [.list [.bool (k == 0), .bool (k == 1), .bool (k == 2)], .str d.shown]] := by
      rw [List.replicate_succ', ← hR]
      rfl
    rw [rs]
    exact ⟨by simpa using hc, by omega, hid.mk ⟨rfl, _, _, _, _, rfl⟩⟩
  · rintro sl S' ⟨rfl, x3, x4, x5, x6, rfl⟩
    have e := eqP_refl fin (by decide)
    have x1 : ixP (.list [R, R]) (.int 0) = some R := rfl
    have x2 : ixP (.list [R, R]) (.int 1) = some R := rfl
    simp -dsimp [x1, x2, e, hR]
theorem caught_n (n : Nat) {door other : PyData} {t2 t3 : Tg} {v2 v3 : Vl} {S : SS} (h2 : sem n 42 [.py door, .py other] S = some (.val t2 v2 S)) (h3 : sem n 43 [.py door, .py other] S = some (.val t3 v3 S)) :
    sem (n + 1) 44 [.py door, .py other] S = some (.val .pure (.py (.list [ks0, .none])) S) := by
  apply oE_is
  have fin : Fine 2 (.list [ks0, .none]) := .list (by simp) fun x hx => by
    simp only [List.mem_cons, List.not_mem_nil, or_false] at hx
    rcases hx with rfl | rfl
    · exact .list (by simp) fun x hx => by
        simp only [List.mem_cons, List.not_mem_nil, or_false] at hx
        rcases hx with rfl | rfl | rfl <;> exact .bool
    · exact .none
  generalize hR : PyData.list [ks0, .none] = R at fin
  rw [sem__law_caught, oE_fun (by rfl)]
  unfold b__law_caught
  simp -dsimp
  refine oS_for0 (fun i sl S' => hid (S' = S ∧ ∃ x3 x4 x5 x6, sl = [.p (.py door), .p (.py other), .own (.list (List.replicate i R)), x3, x4, x5, x6])) (hid.mk ⟨rfl, _, _, _, _, rfl⟩) ?_ ?_
  · rintro i w sl S' hd ⟨rfl, x3, x4, x5, x6, rfl⟩
    have hi : i < 2 := (List.getElem?_eq_some_iff.mp hd).1
    have hw : kB (sem n) [.p (.py door), .p (.py other), .own (.list (List.replicate i R)), .p (.py w), .p (.py .none), x5, x6] S' = some (.nx [.p (.py door), .p (.py other), .own (.list (List.replicate i R)), .p (.py w), .p (.py .none), x5, x6] S') := by
      match i, hi, hd with
      | 0, _, hd => cases hd; cases t2 <;> simp [kB, h2]
      | 1, _, hd => cases hd; cases t3 <;> simp [kB, h3]
    simp -dsimp
    refine w_KeepN hw ?_
    simp -dsimp
    have rs : List.replicate (i + 1) R = List.replicate i R ++ [.list [.list [.bool false, .bool false, .bool false], .none]] := by
      rw [List.replicate_succ', ← hR]
      rfl
    rw [rs]
    exact ⟨by omega, hid.mk ⟨rfl, _, _, _, _, rfl⟩⟩
  · rintro sl S' ⟨rfl, x3, x4, x5, x6, rfl⟩
    have e := eqP_refl fin (by decide)
    have x1 : ixP (.list [R, R]) (.int 0) = some R := rfl
    have x2 : ixP (.list [R, R]) (.int 1) = some R := rfl
    simp -dsimp [x1, x2, e, hR]
/-- the doors 0 to 8, a thing that is wrong there -/
theorem caught_ok (n : Nat) {j kind : Nat} {d : PyData} (hj : KN[j]? = some kind) (h : OdK j kind d) (hr : repr2P [d] = some (.pure, .str d.shown)) (S : SS) : sem (n + 8) 44 [.py (.int j), .py d] S = some (.val .pure (.py (.list [ks kind, .str d.shown])) S) := by
  have hk : kind < 3 := by
    have : kind ∈ KN := List.mem_of_getElem? hj
    have h : (KN.all fun k => decide (k < 3)) = true := by decide
    exact of_decide_eq_true (List.all_eq_true.mp h kind this)
  exact caught_x (n + 7) hk hr (call42 (n + 1) hj h S) (call43x n hj h S)
theorem caught_9 (n : Nat) {j : Nat} (hj : j = 9 ∨ j = 10) {d : PyData} (h : isFr d = false ∧ Sized d) {at' : Int} (h0 : 0 ≤ at') (h1 : at' ≤ 12) (hr : repr2P [d] = some (.pure, .str d.shown)) (S : SS) : sem (n + 8) 44 [.py (.int j), .py (.tuple [d, .int at'])] S = some (.val .pure (.py (.list [ks 2, .str d.shown])) S) := by
  refine caught_x (n + 7) (by decide) hr (call9 (n + 1) hj h h0 h1 S) ?_
  rw [call43 (n + 6) (by omega) (by omega), call9 n hj h h0 h1 S]
  rfl
theorem caught_1 (n : Nat) {m : Int} (h0 : 0 < m) (hm : LG 100 m) (S : SS) : sem (n + 8) 44 [.py (.int (1 : Nat)), .py (.int (-m))] S = some (.val .pure (.py (.list [ks0, .none])) S) := by
  have a : ∀ n, sem (n + 6) 42 [.py (.int (1 : Nat)), .py (.int (-m))] S = some (.val .pure (.py (tw (frc 3 (-m)))) S) := fun n => by
    have e := s_fraction_of (n + 2) (a := 3) (b := -m) (by omega) ((LG.neg hm).mono (by decide)) S
    rw [sem__law_call, funF2]
    simp [b__law_call, e]
  refine caught_n (n + 7) (t3 := .pure) (v3 := .py (tw (frc 3 (-m)))) (a (n + 1)) ((call43 (n + 6) (by decide) (by decide) _ _).trans ?_)
  rw [a]
  rfl
theorem caught_2 (n : Nat) {m : Int} (h0 : 0 < m) (hm : LG 100 m) (S : SS) : sem (n + 8) 44 [.py (.int (2 : Nat)), .py (.list [.tuple [.int m, .int 1]])] S = some (.val .pure (.py (.list [ks0, .none])) S) := by
  have f : Fq 100 (m, 1) := ⟨show (0 : Int) < 1 by decide, by simp, hm, .of_lt (Nat.lt_of_lt_of_le (show (1 : Int).natAbs < 2 by decide) (Nat.pow_le_pow_right (n := 2) (by decide) (show 1 ≤ 101 by decide)))⟩
  have a : ∀ n, sem (n + 6) 42 [.py (.int (2 : Nat)), .py (.list [.tuple [.int m, .int 1]])] S = some (.val .pure (.py (tw ([(m, 1)].foldl plus (0, 1)))) S) := fun n => by
    have e := s_sum n (m := 100) (ps := [(m, 1)]) (fun p hp => by rw [List.mem_singleton.mp hp]; exact f) (by decide) (by simp) S
    have e : sem (n + 5) 15 [.py (.list [.tuple [.int m, .int 1]])] S = some (.val .pure (.py (tw ([(m, 1)].foldl plus (0, 1)))) S) := e
    generalize tw ([(m, 1)].foldl plus (0, 1)) = w at e ⊢
    rw [sem__law_call, funF2]
    simp [b__law_call, e]
  refine caught_n (n + 7) (t3 := .pure) (v3 := .py (tw ([(m, 1)].foldl plus (0, 1)))) (a (n + 1)) ((call43 (n + 6) (by decide) (by decide) _ _).trans ?_)
  rw [a]
  rfl
end K02
set_option Elab.async false
set_option linter.all false
set_option maxRecDepth 100000
set_option maxHeartbeats 4000000
namespace K02
open PySem PP L2
theorem bad24 : isFr (.tuple [.int 2, .int 4]) = false ∧ Sized (.tuple [.int 2, .int 4]) := ⟨by decide, fun a b e => by
  cases e
  exact LG.mono (k := 2) (.of_lt (by decide)) (by decide)⟩
theorem s_alone (n : Nat) {f : Str} (hf : f = "sum_of" ∨ f = "product_of") (S : SS) : sem (n + 6) 45 [.fn f, .py (.tuple [.int 2, .int 4])] S = some (.val .pure (.py (.bool true)) S) := by
  apply oE_is
  rw [sem__law_alone, oE_fun (by rfl)]
  unfold b__law_alone
  have e15 := s_sum_bad n 15 (.inl rfl) (ds := []) (r := []) bad24.2 bad24.1 (by simp) S
  have e16 := s_sum_bad n 16 (.inr rfl) (ds := []) (r := []) bad24.2 bad24.1 (by simp) S
  rw [List.nil_append] at e15 e16
  have hw : (fThen (fDrop (fCallL 0 (fs__law_alone (sem (n + 5))) (faCons (fFz (fSeq .list .fresh (faCons (fVar 1) faNil))) faNil))) fNil) [.p (.fn f), .p (.py (.tuple [.int 2, .int 4])), .p (.py .none), .un] S = some (.exn "InvalidFraction" (.tuple [.int 2, .int 4]) [.p (.fn f), .p (.py (.tuple [.int 2, .int 4])), .p (.py .none), .un] S) := by
    rcases hf with rfl | rfl
    · simp [fs__law_alone, e15]
    · have : (Str.ofString "product_of" == Str.ofString "sum_of") = false := by decide
      simp [fs__law_alone, e16, List.lookup_cons, this]
  simp -dsimp
  refine w_KeepX hw (by decide) ?_
  have i3 : isi_InvalidFraction.lookup (Str.ofString "InvalidFraction") = some true := by decide
  have hc : Str.ofString "InvalidFraction" ∈ errCs := by decide
  have e := eqP_refl (k := 1) (a := .tuple [.int 2, .int 4]) (fine_tw (2, 4)) (by decide)
  simp -dsimp [i3, hc, e]
/-! ## the strange things -/
structure Od (d : PyData) : Prop where
  w : nw d = false
  f : isFr d = false
  z : Sized d
  r : repr2P [d] = some (.pure, .str d.shown)
def odB (x : PyData) : Bool := vkB x && !nw x && !isFr x
theorem odB_ok {x : PyData} (h : odB x = true) : Od x := by
  unfold odB at h
  rw [Bool.and_eq_true, Bool.and_eq_true] at h
  have v := vkB_ok h.1.1
  exact ⟨by simpa using h.1.2, by simpa using h.2, v.z, v.r⟩
def STR (m : Int) : List PyData := [.none, .bool true, .bool false, .str "", .str "1", .dict [], .tuple [], .tuple [.str "a"], .list [.int 1, .int 2], .tuple [.int 1, .int 2, .int 3], .tuple [.int 2, .int 4], .tuple [.int 1, .int 0], .tuple [.int 1, .int (-2)], .tuple [.int 0, .int 2], .tuple [.bool true, .int 2], .tuple [.int 1, .bool true], .tuple [.int m, .int m], .tuple [.int (m * 2), .int 2]]
theorem str_od {m : Int} (h0 : 0 < m) (hm : LG 100 m) : ∀ d ∈ STR m, (d.shown = "(1, 1)" ∨ Od d) ∧ repr2P [d] = some (.pure, .str d.shown) := by
  have cl : ([.none, .bool true, .bool false, .str "", .str "1", .dict [], .tuple [], .tuple [.str "a"], .list [.int 1, .int 2], .tuple [.int 1, .int 2, .int 3], .tuple [.int 2, .int 4], .tuple [.int 1, .int 0], .tuple [.int 1, .int (-2)], .tuple [.int 0, .int 2], .tuple [.bool true, .int 2], .tuple [.int 1, .bool true]].all odB) = true := by decide +kernel
  intro d hd
  have e : STR m = [.none, .bool true, .bool false, .str "", .str "1", .dict [], .tuple [], .tuple [.str "a"], .list [.int 1, .int 2], .tuple [.int 1, .int 2, .int 3], .tuple [.int 2, .int 4], .tuple [.int 1, .int 0], .tuple [.int 1, .int (-2)], .tuple [.int 0, .int 2], .tuple [.bool true, .int 2], .tuple [.int 1, .bool true]] ++ [.tuple [.int m, .int m], .tuple [.int (m * 2), .int 2]] := rfl
  rw [e] at hd
  rcases List.mem_append.mp hd with hd | hd
  · have := odB_ok (List.all_eq_true.mp cl d hd)
    exact ⟨.inr this, this.r⟩
  · have l2 : LG 200 (m * 2) := (hm.mul (LG.of_lt (k := 1) (i := 2) (by decide))).mono (by decide)
    have two : ∀ {x y : Int}, LG 200 x → LG 200 y → Vk (.tuple [.int x, .int y]) := fun {x y} hx hy => .tuple (by
      intro d hd
      simp only [List.mem_cons, List.not_mem_nil, or_false] at hd
      rcases hd with rfl | rfl
      · exact .int (hx.mono (by decide))
      · exact .int (hy.mono (by decide))) (by simp)
    simp only [List.mem_cons, List.not_mem_nil, or_false] at hd
    rcases hd with rfl | rfl
    · have v := two (hm.mono (by decide)) (hm.mono (by decide))
      refine ⟨?_, v.r⟩
      by_cases h1 : m = 1
      · subst h1
        exact .inl (by decide +kernel)
      · refine .inr ⟨rfl, ?_, v.z, v.r⟩
        have g : m.natAbs ≠ 1 := by omega
        simp [isFr, Int.gcd_self, g]
    · have v := two l2 (LG.mono (LG.of_lt (k := 1) (i := 2) (by decide)) (by decide))
      refine ⟨.inr ⟨rfl, ?_, v.z, v.r⟩, v.r⟩
      have g : Int.gcd (m * 2) 2 ≠ 1 := by
        intro e
        have := Int.dvd_coe_gcd (Int.dvd_mul_left m 2) (Int.dvd_refl 2)
        rw [e] at this
        exact absurd this (by decide)
      simp [isFr, g]
def n11 (d : PyData) : Bool := !decide (d.shown = Str.ofString "(1, 1)")
theorem shown_eq {d : PyData} (S : SS) : neP (.str d.shown) (.str "(1, 1)") = some (.pure, .bool (n11 d)) := by
  unfold n11
  rw [neP_of (by unfold eqOk; simp [PyData.plain, PyData.depth, DEEP])]
  simp only [PyData.eqv]
  congr 3
/-- sl in the law's third part -/
def sh3 (A : Slot) (k : Nat) (m : Int) (str : List PyData) (sl : Sl) : Prop := ∃ x1 x5 x6 x7 x8 x9, sl = [A, x1, .p (.box k), .p (.py (.int m)), .p (.py (.list str)), x5, x6, x7, x8, x9, .un]
theorem neq_res (kind : Nat) (z : Str) : neP (.list [ks kind, .str z]) (.list [ks kind, .str z]) = some (.pure, .bool false) := neP_refl (fine_res kind z) (by decide)
theorem neq_res0 : neP (.list [ks0, .none]) (.list [ks0, .none]) = some (.pure, .bool false) := by kernel_rfl
theorem Od.odk {d : PyData} (h : Od d) (j kind : Nat) (hk : kind = 1 → isTy .list d = false) : OdK j kind d := by
  match kind, hk with
  | 0, _ => exact .inl h.w
  | 1, hk => exact hk rfl
  | k + 2, _ => exact ⟨h.f, h.z⟩
theorem int_odk {i : Int} (j kind : Nat) (hk : kind ≠ 0) : OdK j kind (.int i) := by
  match kind, hk with
  | 0, hk => exact absurd rfl hk
  | 1, _ => exact rfl
  | k + 2, _ => exact ⟨rfl, fun a b e => by cases e⟩
def rB (L : Nat → FF) : FS := (fThen (fIfS (fOrT (fTb (fBin neP (fVar 6) (fC (.int (1))))) (fNotT (fTb (fIsi .list (fVar 7))))) (fThen (fIfS (fTb (fBin neP (fCallF 2 (L 44) (faCons (fVar 5) (faCons (fVar 7) faNil))) (fSeq .list .fresh (faCons (fFz (fLc (fiRg1 (faCons (fC (.int (3))) faNil)) (gNm 10) fYes (fBin eqP (fVar 10) (fVar 6)) [10])) (faCons (fCall repr2P (faCons (fVar 7) faNil)) faNil))))) (fThen (fRet (fC (.bool false)))
    fNil) fNil)
    fNil) fNil)
    fNil)
def ky (kind : Nat) (d : PyData) : PyData := match d with
  | .int i => .bool (decide (i = (kind : Int)))
  | d => d
theorem ref_inner (n : Nat) {j kind : Nat} (hj : KN[j]? = some kind) {L : List PyData} (hL : ∀ d ∈ L, (kind = 1 ∧ isTy .list d = true) ∨ (OdK j kind d ∧ repr2P [d] = some (.pure, .str d.shown))) {A x1 b m e x7 x8 x9 : Slot} {S : SS} {N : Sl → SS → Prop} {K : KS}
    (q : ∀ x7, N [A, x1, b, m, e, .p (.py (.int j)), .p (.py (.int kind)), x7, x8, x9, .un] S) : oS (forLoop (gNm 7) (rB (sem (n + 8))) L [A, x1, b, m, e, .p (.py (.int j)), .p (.py (.int kind)), x7, x8, x9, .un] S) N K := by
  have hk : kind < 3 := by
    have : kind ∈ KN := List.mem_of_getElem? hj
    have h : (KN.all fun k => decide (k < 3)) = true := by decide
    exact of_decide_eq_true (List.all_eq_true.mp h kind this)
  have hm : (rng 0 3).map (ky kind) = [.bool (kind == 0), .bool (kind == 1), .bool (kind == 2)] := by
    match kind, hk with
    | 0, _ => kernel_rfl
    | 1, _ => kernel_rfl
    | 2, _ => kernel_rfl
  refine oS_for0 (fun i sl S' => hid (S' = S ∧ ∃ x7, sl = [A, x1, b, m, e, .p (.py (.int j)), .p (.py (.int kind)), x7, x8, x9, .un])) (hid.mk ⟨rfl, _, rfl⟩) ?_ ?_
  · rintro i d sl S' hd ⟨rfl, x7, rfl⟩
    have hd := List.mem_of_getElem? hd
    unfold rB
    by_cases hs : kind = 1 ∧ isTy .list d = true
    · obtain ⟨rfl, hs⟩ := hs
      simp -dsimp [hs]
      exact hid.mk ⟨rfl, _, rfl⟩
    · obtain ⟨ho, hr⟩ := (hL d hd).resolve_left hs
      have ec := caught_ok n hj ho hr S'
      have hn := neq_res kind d.shown
      have lc : ∀ Q : List PyData → SS → Prop, Q [.bool (kind == 0), .bool (kind == 1), .bool (kind == 2)] S' → oI (lcLoop (gNm 10) fYes (fBin eqP (fVar 10) (fVar 6)) [A, x1, b, m, e, .p (.py (.int j)), .p (.py (.int kind)), .p (.py d), x8, x9, .un] (rng 0 3) [] S') Q := by
        intro Q q
        refine oI_lcM (ky kind) (by simp [rng_len]) ?_ (by rw [hm]; exact q)
        intro w hw
        obtain ⟨i, hi⟩ := List.getElem?_of_mem hw
        obtain ⟨_, rfl⟩ := rng_get hi
        simp -dsimp [ky]
      by_cases h1 : kind = 1
      · subst h1
        have hs' : isTy .list d = false := by simpa using hs
        simp -dsimp [hs']
        refine oE_eq ec ?_
        simp -dsimp [wipeSl]
        refine lc _ ?_
        unfold ks at hn
        simp -dsimp at hn
        simp -dsimp [ks, hr, hn]
        exact hid.mk ⟨rfl, _, rfl⟩
      · have h1' : ¬ ((kind : Int) = 1) := by omega
        simp -dsimp [h1']
        refine oE_eq ec ?_
        simp -dsimp [wipeSl]
        refine lc _ ?_
        unfold ks at hn
        simp -dsimp [ks, hr, hn]
        exact hid.mk ⟨rfl, _, rfl⟩
  · rintro sl S' ⟨rfl, x7, rfl⟩
    exact q _
end K02
set_option Elab.async false
set_option linter.all false
set_option maxRecDepth 100000
set_option maxHeartbeats 4000000
namespace K02
open PySem PP L2
theorem caught_3 (n : Nat) {m : Int} (hm : LG 100 m) (S : SS) : sem (n + 8) 44 [.py (.int (3 : Nat)), .py (.tuple [.int m, .int 1])] S = some (.val .pure (.py (.list [ks 2, .str (PyData.none).shown])) S) := by
  have f : Fq 100 (m, 1) := ⟨show (0 : Int) < 1 by decide, by simp, hm, .of_lt (Nat.lt_of_lt_of_le (show (1 : Int).natAbs < 2 by decide) (Nat.pow_le_pow_right (n := 2) (by decide) (show 1 ≤ 101 by decide)))⟩
  have g : ∀ d ∈ [tw (1, 2), tw (m, 1)], Sized d ∧ isFr d = true := by
    intro d hd
    simp only [List.mem_cons, List.not_mem_nil, or_false] at hd
    rcases hd with rfl | rfl
    · exact good_tw _ (List.mem_singleton.mpr rfl)
    · exact ⟨f.sized (by decide), f.fr⟩
  have a : ∀ n, sem (n + 6) 42 [.py (.int (3 : Nat)), .py (.tuple [.int m, .int 1])] S = some (.exn (kc 2) .none S) := fun n => by
    have e := s_sum_bad n 15 (.inl rfl) (ds := [tw (1, 2), tw (m, 1)]) (b := .none) (r := []) (fun a b e => by cases e) rfl g S
    have e : sem (n + 5) 15 [.py (.list [.tuple [.int 1, .int 2], .tuple [.int m, .int 1], .none])] S = some (.exn "InvalidFraction" .none S) := e
    rw [sem__law_call, funF2]
    simp [b__law_call, e, kc]
  refine caught_x (n + 7) (by decide) (Vk.leaf .none).r (a (n + 1)) ((call43 (n + 6) (by decide) (by decide) _ _).trans ?_)
  rw [a]
  rfl
theorem s_refusals (n : Nat) (ns : List Int) (S : SS) : oE (sem (n + 9) 46 [.py (.list (ns.map PyData.int))] S) fun t v S' => t = .pure ∧ v = .py (.bool true) := by
  rw [sem__law_refusals_right, oE_fun (by rfl)]
  unfold b__law_refusals_right
  simp -dsimp
  refine oS_for0 (fun i sl S' => hid (∃ x1 x2 x3 x4 x5 x6 x7 x8 x9, sl = [.p (.py (.list (ns.map PyData.int))), x1, x2, x3, x4, x5, x6, x7, x8, x9, .un])) (hid.mk ⟨_, _, _, _, _, _, _, _, _, rfl⟩) ?_ ?_
  · rintro i d sl S hd ⟨x1, x2, x3, x4, x5, x6, x7, x8, x9, rfl⟩
    obtain ⟨hi, rfl⟩ := rng_get hd
    simp -dsimp
    refine (genK (n + 6)).go 14000 (by omega) (by omega) (by decide) ?_
    intro d gd
    simp -dsimp [pow109]
    refine (randK (n + 6)).go (B := 13980) (Gs.new gd) (by decide) (by decide) ?_
    intro r S2 r0 r1 g2
    have lm : LG 100 (1 + r) := LG.mono (k := 30) (.of_lt (by
      have : (2 : Nat) ^ 31 = 2147483648 := by decide
      omega)) (by decide)
    have m0 : 0 < 1 + r := by omega
    have od := str_od m0 lm
    have lmi : Leaf (.int (1 + r)) := .int (lm.mono (by decide))
    have ad : addP (.int 1) (.int r) = some (.pure, .int (1 + r)) := rfl
    simp -dsimp only [outT_p, w_aNil, cont_py, oV_some, ad, oP_some]
    generalize 1 + r = m at lm m0 od lmi ⊢
    have mu := mulP_ok (j := 2) lm (LG.of_lt (k := 1) (i := 2) (by decide)) (by decide)
    simp -dsimp [mu, wipeSl]
    refine oI_lcP n11 (fun d => d) ?_ ?_ ?_
    · simp
    · intro d hd
      have e1 := (od d hd).2
      have e2 := shown_eq (d := d) S2
      simp -dsimp [e1, e2]
    rw [List.map_id']
    have od2 : ∀ d ∈ (STR m).filter n11, Od d := by
      intro d hd
      obtain ⟨h1, h2⟩ := List.mem_filter.mp hd
      rcases (od d h1).1 with h | h
      · unfold n11 at h2
        rw [h] at h2
        simp at h2
      · exact h
    have ln : ((STR m).filter n11).length ≤ 100 := Nat.le_trans (List.length_filter_le ..) (by simp [STR])
    unfold STR at od2 ln
    generalize hE : List.filter n11 _ = E at od2 ln ⊢
    simp -dsimp
    refine oS_for0 (fun i sl S' => hid (S' = S2 ∧ sh3 (.p (.py (.list (ns.map PyData.int)))) S.length m E sl)) (hid.mk ⟨rfl, _, _, _, _, _, _, rfl⟩) ?_ ?_
    · rintro j w sl S' hd ⟨rfl, y1, y5, y6, y7, y8, y9, rfl⟩
      have hj : j < 8 := by
        have := (List.getElem?_eq_some_iff.mp hd).1
        simpa [enumD] using this
      obtain ⟨kind, hk⟩ : ∃ kind, [0, 0, 1, 2, 1, 2, 2, 2][j]? = some kind := ⟨[0, 0, 1, 2, 1, 2, 2, 2][j], List.getElem?_eq_getElem hj⟩
      have hw : w = .tuple [.int j, .int (kind : Nat)] := by
        have h1 : ([0, 0, 1, 2, 1, 2, 2, 2].map fun k : Nat => PyData.int (k : Int))[j]? = some (.int (kind : Nat)) := by rw [List.getElem?_map, hk]; rfl
        have h2 := enumD_get h1
        rw [show [PyData.int 0, .int 0, .int 1, .int 2, .int 1, .int 2, .int 2, .int 2] = [0, 0, 1, 2, 1, 2, 2, 2].map (fun k : Nat => PyData.int (k : Int)) from rfl, h2] at hd
        exact (Option.some.inj hd).symm
      subst hw
      have hkn : KN[j]? = some kind := by
        unfold KN
        rw [show [0, 0, 1, 2, 1, 2, 2, 2, 0] = [0, 0, 1, 2, 1, 2, 2, 2] ++ [0] from rfl, List.getElem?_append_left (by simpa using hj), hk]
      have okE : ∀ d ∈ E, (kind = 1 ∧ isTy .list d = true) ∨ (OdK j kind d ∧ repr2P [d] = some (.pure, .str d.shown)) := by
        intro d hd
        by_cases h : kind = 1 ∧ isTy .list d = true
        · exact .inl h
        · refine .inr ⟨(od2 d hd).odk j kind fun hk => ?_, (od2 d hd).r⟩
          cases q : isTy .list d with
          | true => exact absurd ⟨hk, q⟩ h
          | false => rfl
      have okI : ∀ i : Int, LG 200 i → kind ≠ 0 → (kind = 1 ∧ isTy .list (.int i) = true) ∨ (OdK j kind (.int i) ∧ repr2P [.int i] = some (.pure, .str (PyData.int i).shown)) := fun i hi hk => .inr ⟨int_odk j kind hk, (Vk.leaf (.int (hi.mono (by decide)))).r⟩
      have lz : LG 200 0 := .of_lt (by decide)
      have okL : ∀ L : List PyData, (∀ d ∈ L, d ∈ E ∨ (j = 1 ∧ d = .int 0) ∨ (kind ≠ 0 ∧ (d = .int m ∨ d = .int (-m) ∨ d = .int 0))) → ∀ d ∈ L, (kind = 1 ∧ isTy .list d = true) ∨ (OdK j kind d ∧ repr2P [d] = some (.pure, .str d.shown)) := by
        intro L hL d hd
        rcases hL d hd with h | ⟨h1, rfl⟩ | ⟨hk, rfl | rfl | rfl⟩
        · exact okE d h
        · subst h1
          cases hk
          exact .inr ⟨.inr ⟨by decide, rfl⟩, (Vk.leaf (.int (lz.mono (by decide)))).r⟩
        · exact okI _ (lm.mono (by decide)) hk
        · exact okI _ ((LG.neg lm).mono (by decide)) hk
        · exact okI _ lz hk
      have fin : ∀ (L : List PyData) (x7 : Slot), (∀ d ∈ L, d ∈ E ∨ (j = 1 ∧ d = .int 0) ∨ (kind ≠ 0 ∧ (d = .int m ∨ d = .int (-m) ∨ d = .int 0))) → ∀ {N : Sl → SS → Prop} {K : KS}, (∀ x7, N [.p (.py (.list (ns.map PyData.int))), y1, .p (.box S.length), .p (.py (.int m)), .p (.py (.list E)), .p (.py (.int j)), .p (.py (.int kind)), x7, y8, y9, .un] S') → oS (forLoop (gNm 7) (rB (sem (n + 8))) L [.p (.py (.list (ns.map PyData.int))), y1, .p (.box S.length), .p (.py (.int m)), .p (.py (.list E)), .p (.py (.int j)), .p (.py (.int kind)), x7, y8, y9, .un] S') N K := fun L x7 hL N K q => ref_inner n hkn (okL L hL) q
      have go : ∀ (A B : List PyData), (∀ d ∈ A, j = 1 ∧ d = .int 0) → (∀ d ∈ B, kind ≠ 0 ∧ (d = .int m ∨ d = .int (-m) ∨ d = .int 0)) → A.length ≤ 10 → B.length ≤ 10 → addP (.list E) (.list A) = some (.fresh, .list (E ++ A)) ∧ addP (.list (E ++ A)) (.list B) = some (.fresh, .list (E ++ A ++ B)) ∧ ∀ d ∈ E ++ A ++ B, d ∈ E ∨ (j = 1 ∧ d = .int 0) ∨ (kind ≠ 0 ∧ (d = .int m ∨ d = .int (-m) ∨ d = .int 0)) := by
        intro A B hA hB la lb
        refine ⟨addP_l (by omega), addP_l (by rw [List.length_append]; omega), fun d hd => ?_⟩
        rcases List.mem_append.mp hd with hd | hd
        · rcases List.mem_append.mp hd with hd | hd
          · exact .inl hd
          · exact .inr (.inl (hA d hd))
        · exact .inr (.inr (hB d hd))
      have jc : (j = 1 ∧ ((j : Int) = 1)) ∨ (j ≠ 1 ∧ ¬ ((j : Int) = 1)) := by omega
      have kc : (kind ≠ 0 ∧ (0 < kind)) ∨ (kind = 0 ∧ ¬ (0 < kind)) := by omega
      have B1 : ∀ d ∈ [PyData.int m, .int (-m), .int 0], d = .int m ∨ d = .int (-m) ∨ d = .int 0 := by
        intro d hd
        simpa using hd
      rcases jc with ⟨hj1, hj2⟩ | ⟨hj1, hj2⟩ <;> rcases kc with ⟨hk1, hk2⟩ | ⟨hk1, hk2⟩
      · subst hj1
        obtain ⟨a1, a2, a3⟩ := go [.int 0] [.int m, .int (-m), .int 0] (by simp) (fun d hd => ⟨hk1, B1 d hd⟩) (by simp) (by simp)
        simp only [List.append_assoc, List.cons_append, List.nil_append] at a3
        simp -dsimp [hk2, a1, a2]
        refine fin _ _ (fun d hd => by
          rcases a3 d hd with h | ⟨_, h⟩ | h
          · exact .inl h
          · exact .inr (.inl ⟨rfl, h⟩)
          · exact .inr (.inr h)) fun x7 => ?_
        try simp -dsimp
        exact hid.mk ⟨rfl, _, _, _, _, _, _, rfl⟩
      · subst hj1
        obtain ⟨a1, a2, a3⟩ := go [.int 0] [] (by simp) (by simp) (by simp) (by simp)
        simp only [List.append_nil] at a1 a2 a3
        simp -dsimp [hk2, a1, a2]
        refine fin _ _ (fun d hd => by
          rcases a3 d hd with h | ⟨_, h⟩ | h
          · exact .inl h
          · exact .inr (.inl ⟨rfl, h⟩)
          · exact .inr (.inr h)) fun x7 => ?_
        try simp -dsimp
        exact hid.mk ⟨rfl, _, _, _, _, _, _, rfl⟩
      · obtain ⟨a1, a2, a3⟩ := go [] [.int m, .int (-m), .int 0] (by simp) (fun d hd => ⟨hk1, B1 d hd⟩) (by simp) (by simp)
        simp only [List.append_nil] at a1 a2 a3
        simp -dsimp [hj2, hk2, a1, a2]
        exact fin _ _ a3 fun x7 => by
          try simp -dsimp
          exact hid.mk ⟨rfl, _, _, _, _, _, _, rfl⟩
      · obtain ⟨a1, a2, a3⟩ := go [] [] (by simp) (by simp) (by simp) (by simp)
        simp only [List.append_nil] at a1 a2 a3
        simp -dsimp [hj2, hk2, a1, a2]
        exact fin _ _ a3 fun x7 => by
          try simp -dsimp
          exact hid.mk ⟨rfl, _, _, _, _, _, _, rfl⟩
    · rintro sl S' ⟨rfl, y1, y5, y6, y7, y8, y9, rfl⟩
      simp -dsimp
      refine oS_for0 (fun i sl S'' => hid (S'' = S' ∧ sh3 (.p (.py (.list (ns.map PyData.int)))) S.length m E sl)) (hid.mk ⟨rfl, _, _, _, _, _, _, rfl⟩) ?_ ?_
      · rintro j d sl S2 hd ⟨rfl, z1, z5, z6, z7, z8, z9, rfl⟩
        have hd := List.mem_of_getElem? hd
        have cl : ([PyData.int 0, .none, .bool true, .str "0", .list [.int 0]].all fun d => vkB d && (!nw d || (match d with
          | .int i => decide (i = 0)
          | _ => false))) = true := by decide +kernel
        have h1 := List.all_eq_true.mp cl d hd
        rw [Bool.and_eq_true] at h1
        have hv := vkB_ok h1.1
        have ho : OdK 8 0 d := by
          have h2 := h1.2
          rw [Bool.or_eq_true] at h2
          rcases h2 with h2 | h2
          · exact .inl (by simpa using h2)
          · refine .inr ⟨by decide, ?_⟩
            cases d with
            | int i => rw [of_decide_eq_true h2]
            | _ => cases h2
        have ec : sem (n + 8) 44 [.py (.int 8), .py d] S2 = some (.val .pure (.py (.list [.list [.bool true, .bool false, .bool false], .str d.shown])) S2) := caught_ok n (j := 8) (kind := 0) rfl ho hv.r S2
        have hn : neP (.list [.list [.bool true, .bool false, .bool false], .str d.shown]) (.list [.list [.bool true, .bool false, .bool false], .str d.shown]) = some (.pure, .bool false) := neq_res 0 d.shown
        simp -dsimp [ec, hv.r, hn]
        exact hid.mk ⟨rfl, _, _, _, _, _, _, rfl⟩
      rintro sl S2' ⟨rfl, z1, z5, z6, z7, z8, z9, rfl⟩
      have adE := addP_l (a := E) (b := [.int m]) (by simp; omega)
      simp -dsimp [adE]
      have odE : ∀ d ∈ E ++ [.int m], (isFr d = false ∧ Sized d) ∧ repr2P [d] = some (.pure, .str d.shown) := by
        intro d hd
        rcases List.mem_append.mp hd with hd | hd
        · exact ⟨⟨(od2 d hd).f, (od2 d hd).z⟩, (od2 d hd).r⟩
        · rw [List.mem_singleton.mp hd]
          exact ⟨⟨rfl, fun a b e => by cases e⟩, (Vk.leaf lmi).r⟩
      have lE : (E ++ [PyData.int m]).length ≤ 101 := by simp; omega
      generalize E ++ [PyData.int m] = F at odE lE
      refine oS_for0 (fun i sl S'' => hid (Gs S.length (13980 - 100 * i) (S ++ [d]) S'' ∧ sh3 (.p (.py (.list (ns.map PyData.int)))) S.length m E sl)) (hid.mk ⟨g2, _, _, _, _, _, _, rfl⟩) ?_ ?_
      · rintro j dd sl S3 hd ⟨g3, z1, z5, z6, z7, z8, z9, rfl⟩
        have hj : j < F.length := (List.getElem?_eq_some_iff.mp hd).1
        obtain ⟨hf, hr⟩ := odE dd (List.mem_of_getElem? hd)
        simp -dsimp
        refine oS_for0 (fun i sl S'' => hid (Gs S.length (13980 - 100 * j - 50 * i) (S ++ [d]) S'' ∧ ∃ x1 x5 x6 x8 x9, sl = [.p (.py (.list (ns.map PyData.int))), x1, .p (.box S.length), .p (.py (.int m)), .p (.py (.list E)), x5, x6, .p (.py dd), x8, x9, .un])) (hid.mk ⟨g3, _, _, _, _, _, rfl⟩) ?_ ?_
        · rintro i w sl S4 hw ⟨g4, z1, z5, z6, z8, z9, rfl⟩
          have hi : i < 2 := (List.getElem?_eq_some_iff.mp hw).1
          have hw2 : ∃ q : Nat, w = .int q ∧ (q = 9 ∨ q = 10) := by
            match i, hi, hw with
            | 0, _, hw => cases hw; exact ⟨9, rfl, .inl rfl⟩
            | 1, _, hw => cases hw; exact ⟨10, rfl, .inr rfl⟩
          obtain ⟨q, rfl, hq⟩ := hw2
          simp -dsimp
          refine (randK (n + 6)).go (g4.mono (B' := 13980 - 100 * j - 50 * (i + 1) + 20 + 20) (by omega)) (by decide) (by decide) ?_
          intro r2 S5 r20 r21 g5
          simp -dsimp
          refine (pickK (n + 5)).go g5 (by simp) (by simp) ?_
          intro x S6 hx g6
          obtain ⟨a, rfl, a0, a1⟩ : ∃ a : Int, x = .int a ∧ 0 ≤ a ∧ a ≤ 12 := by
            simp only [List.mem_cons, List.not_mem_nil, or_false] at hx
            rcases hx with rfl | rfl | rfl <;> exact ⟨_, rfl, by omega, by omega⟩
          have ec : sem (n + 8) 44 [.py (.int q), .py (.tuple [dd, .int a])] S6 = some (.val .pure (.py (.list [.list [.bool false, .bool false, .bool true], .str dd.shown])) S6) := caught_9 n hq hf a0 a1 hr S6
          have hn : neP (.list [.list [.bool false, .bool false, .bool true], .str dd.shown]) (.list [.list [.bool false, .bool false, .bool true], .str dd.shown]) = some (.pure, .bool false) := neq_res 2 dd.shown
          simp -dsimp [ec, hr, hn]
          exact hid.mk ⟨g6, _, _, _, _, _, rfl⟩
        · rintro sl S4 ⟨g4, z1, z5, z6, z8, z9, rfl⟩
          simp -dsimp
          exact hid.mk ⟨g4.mono (by simp; omega), _, _, _, _, _, _, rfl⟩
      rintro sl S3 ⟨g3, z1, z5, z6, z7, z8, z9, rfl⟩
      have al1 := s_alone (n + 2) (f := Str.ofString "sum_of") (.inl rfl) S3
      have al2 := s_alone (n + 2) (f := Str.ofString "product_of") (.inr rfl) S3
      have neg : LG 100 (-m) := LG.neg lm
      have c1 : sem (n + 8) 44 [.py (.int 1), .py (.int (-m))] S3 = some (.val .pure (.py (.list [.list [.bool false, .bool false, .bool false], .none])) S3) := caught_1 n m0 lm S3
      have c2 : sem (n + 8) 44 [.py (.int 2), .py (.list [.tuple [.int m, .int 1]])] S3 = some (.val .pure (.py (.list [.list [.bool false, .bool false, .bool false], .none])) S3) := caught_2 n m0 lm S3
      have c3 : sem (n + 8) 44 [.py (.int 3), .py (.tuple [.int m, .int 1])] S3 = some (.val .pure (.py (.list [.list [.bool false, .bool false, .bool true], .str (PyData.none).shown])) S3) := caught_3 n lm S3
      have hn0 : neP (.list [.list [.bool false, .bool false, .bool false], .none]) (.list [.list [.bool false, .bool false, .bool false], .none]) = some (.pure, .bool false) := neq_res0
      have hn3 : neP (.list [.list [.bool false, .bool false, .bool true], .str (PyData.none).shown]) (.list [.list [.bool false, .bool false, .bool true], .str (PyData.none).shown]) = some (.pure, .bool false) := neq_res 2 _
      have rn := (Vk.leaf Leaf.none).r
      simp -dsimp [al1, al2]
      refine oS_for0 (fun i sl S'' => hid (S'' = S3 ∧ sh3 (.p (.py (.list (ns.map PyData.int)))) S.length m E sl)) (hid.mk ⟨rfl, _, _, _, _, _, _, rfl⟩) ?_ ?_
      · rintro j dd sl S4 hd ⟨rfl, z1, z5, z6, z7, z8, z9, rfl⟩
        have hj : j < 2 := (List.getElem?_eq_some_iff.mp hd).1
        match j, hj, hd with
        | 0, _, hd =>
          cases hd
          simp -dsimp [c1, hn0]
          exact hid.mk ⟨rfl, _, _, _, _, _, _, rfl⟩
        | 1, _, hd =>
          cases hd
          simp -dsimp [c2, hn0]
          exact hid.mk ⟨rfl, _, _, _, _, _, _, rfl⟩
      · rintro sl S4 ⟨rfl, z1, z5, z6, z7, z8, z9, rfl⟩
        simp -dsimp [c3, rn, hn3]
        exact hid.mk ⟨_, _, _, _, _, _, _, _, _, rfl⟩
  · rintro sl S ⟨x1, x2, x3, x4, x5, x6, x7, x8, x9, rfl⟩
    simp -dsimp
end K02
set_option Elab.async false
set_option linter.all false
set_option maxRecDepth 100000
set_option maxHeartbeats 4000000
namespace K02
open PySem PP L2
theorem law_true (ns : List Int) : oE (sem 101 47 [.py (.list (ns.map PyData.int))] []) fun t v S' => t = .pure ∧ v = .py (.bool true) := by
  rw [sem_law, oE_fun (by rfl)]
  unfold b_law
  simp -dsimp
  refine oE_imp (s_names_right 91 ns _) ?_
  rintro _ _ S1 ⟨rfl, rfl⟩
  simp -dsimp
  refine oE_imp (s_fractions_right 91 ns _) ?_
  rintro _ _ S2 ⟨rfl, rfl⟩
  simp -dsimp
  refine oE_imp (s_refusals 91 ns _) ?_
  rintro _ _ S3 ⟨rfl, rfl⟩
  simp -dsimp
theorem law_true2 (ns : List Int) : ∃ t S, sem (100 + 1) 47 [.py (.list (ns.map PyData.int))] [] = some (.val t (.py (.bool true)) S) := by
  obtain ⟨t, v, S, e, rfl, rfl⟩ := oE_ex (law_true ns)
  exact ⟨_, S, e⟩
end K02
set_option Elab.async false
set_option linter.all false
set_option maxRecDepth 100000
set_option maxHeartbeats 0
namespace K02
open PySem L2 PySem.Spec PyProof.Rows PP He
abbrev PR : Program := PySem.Challenge.pw_reasonhouse_k02_names_fractions_and_refu
def inCls : Stmt → Stmt
  | .ClassDef _ _ _ (st :: _) _ _ _ _ _ _ _ => st
  | s => s
def sIni : Stmt := inCls (tp 1)
def D_is_whole : DefD := ⟨("is_whole", none), "is_whole", "is_whole", defArgs (tp 9), defBody (tp 9), defScope (tp 9), [], []⟩
def D_is_signs : DefD := ⟨("is_signs", none), "is_signs", "is_signs", defArgs (tp 10), defBody (tp 10), defScope (tp 10), [], []⟩
def D_is_name : DefD := ⟨("is_name", none), "is_name", "is_name", defArgs (tp 11), defBody (tp 11), defScope (tp 11), [], []⟩
def D_ascends : DefD := ⟨("ascends", none), "ascends", "ascends", defArgs (tp 12), defBody (tp 12), defScope (tp 12), [], []⟩
def D_is_names : DefD := ⟨("is_names", none), "is_names", "is_names", defArgs (tp 13), defBody (tp 13), defScope (tp 13), [], []⟩
def D_check_list : DefD := ⟨("check_list", none), "check_list", "check_list", defArgs (tp 14), defBody (tp 14), defScope (tp 14), [], []⟩
def D_common_of : DefD := ⟨("common_of", none), "common_of", "common_of", defArgs (tp 16), defBody (tp 16), defScope (tp 16), [], []⟩
def D_is_fraction : DefD := ⟨("is_fraction", none), "is_fraction", "is_fraction", defArgs (tp 17), defBody (tp 17), defScope (tp 17), [], []⟩
def D_check_fraction : DefD := ⟨("check_fraction", none), "check_fraction", "check_fraction", defArgs (tp 18), defBody (tp 18), defScope (tp 18), [], []⟩
def D_lowest_of : DefD := ⟨("lowest_of", none), "lowest_of", "lowest_of", defArgs (tp 19), defBody (tp 19), defScope (tp 19), [], []⟩
def D_fraction_of : DefD := ⟨("fraction_of", none), "fraction_of", "fraction_of", defArgs (tp 20), defBody (tp 20), defScope (tp 20), [], []⟩
def D_plus_of : DefD := ⟨("plus_of", none), "plus_of", "plus_of", defArgs (tp 21), defBody (tp 21), defScope (tp 21), [], []⟩
def D_times_of : DefD := ⟨("times_of", none), "times_of", "times_of", defArgs (tp 22), defBody (tp 22), defScope (tp 22), [], []⟩
def D_less_than : DefD := ⟨("less_than", none), "less_than", "less_than", defArgs (tp 23), defBody (tp 23), defScope (tp 23), [], []⟩
def D_check_fractions : DefD := ⟨("check_fractions", none), "check_fractions", "check_fractions", defArgs (tp 24), defBody (tp 24), defScope (tp 24), [], []⟩
def D_sum_of : DefD := ⟨("sum_of", none), "sum_of", "sum_of", defArgs (tp 25), defBody (tp 25), defScope (tp 25), [], []⟩
def D_product_of : DefD := ⟨("product_of", none), "product_of", "product_of", defArgs (tp 26), defBody (tp 26), defScope (tp 26), [], []⟩
def D_is_less : DefD := ⟨("is_less", none), "is_less", "is_less", defArgs (tp 27), defBody (tp 27), defScope (tp 27), [], []⟩
def D__law_hash : DefD := ⟨("_law_hash", none), "_law_hash", "_law_hash", defArgs (tp 29), defBody (tp 29), defScope (tp 29), [], []⟩
def D__law_cell : DefD := ⟨("_law_cell", none), "_law_cell", "_law_cell", defArgs (tp 30), defBody (tp 30), defScope (tp 30), [], []⟩
def D__law_generator : DefD := ⟨("_law_generator", none), "_law_generator", "_law_generator", defArgs (tp 31), defBody (tp 31), defScope (tp 31), [], []⟩
def D__law_random : DefD := ⟨("_law_random", none), "_law_random", "_law_random", defArgs (tp 32), defBody (tp 32), defScope (tp 32), [], []⟩
def D__law_pick : DefD := ⟨("_law_pick", none), "_law_pick", "_law_pick", defArgs (tp 33), defBody (tp 33), defScope (tp 33), [], []⟩
def D__law_copied : DefD := ⟨("_law_copied", none), "_law_copied", "_law_copied", defArgs (tp 34), defBody (tp 34), defScope (tp 34), [], []⟩
def D__law_exact : DefD := ⟨("_law_exact", none), "_law_exact", "_law_exact", defArgs (tp 35), defBody (tp 35), defScope (tp 35), [], []⟩
def D__law_unlike : DefD := ⟨("_law_unlike", none), "_law_unlike", "_law_unlike", defArgs (tp 36), defBody (tp 36), defScope (tp 36), [], []⟩
def D__law_low : DefD := ⟨("_law_low", none), "_law_low", "_law_low", defArgs (tp 37), defBody (tp 37), defScope (tp 37), [], []⟩
def D__law_any : DefD := ⟨("_law_any", none), "_law_any", "_law_any", defArgs (tp 38), defBody (tp 38), defScope (tp 38), [], []⟩
def D__law_big : DefD := ⟨("_law_big", none), "_law_big", "_law_big", defArgs (tp 39), defBody (tp 39), defScope (tp 39), [], []⟩
def D__law_name : DefD := ⟨("_law_name", none), "_law_name", "_law_name", defArgs (tp 40), defBody (tp 40), defScope (tp 40), [], []⟩
def D__law_rise : DefD := ⟨("_law_rise", none), "_law_rise", "_law_rise", defArgs (tp 41), defBody (tp 41), defScope (tp 41), [], []⟩
def D__law_string : DefD := ⟨("_law_string", none), "_law_string", "_law_string", defArgs (tp 42), defBody (tp 42), defScope (tp 42), [], []⟩
def D__law_numbers : DefD := ⟨("_law_numbers", none), "_law_numbers", "_law_numbers", defArgs (tp 43), defBody (tp 43), defScope (tp 43), [], []⟩
def D__law_judged : DefD := ⟨("_law_judged", none), "_law_judged", "_law_judged", defArgs (tp 44), defBody (tp 44), defScope (tp 44), [], []⟩
def D__law_names_right : DefD := ⟨("_law_names_right", none), "_law_names_right", "_law_names_right", defArgs (tp 45), defBody (tp 45), defScope (tp 45), [], []⟩
def D__law_drawn_pair : DefD := ⟨("_law_drawn_pair", none), "_law_drawn_pair", "_law_drawn_pair", defArgs (tp 46), defBody (tp 46), defScope (tp 46), [], []⟩
def D__law_fraction : DefD := ⟨("_law_fraction", none), "_law_fraction", "_law_fraction", defArgs (tp 47), defBody (tp 47), defScope (tp 47), [], []⟩
def D__law_is_fraction : DefD := ⟨("_law_is_fraction", none), "_law_is_fraction", "_law_is_fraction", defArgs (tp 48), defBody (tp 48), defScope (tp 48), [], []⟩
def D__law_made_right : DefD := ⟨("_law_made_right", none), "_law_made_right", "_law_made_right", defArgs (tp 49), defBody (tp 49), defScope (tp 49), [], []⟩
def D__law_sums_right : DefD := ⟨("_law_sums_right", none), "_law_sums_right", "_law_sums_right", defArgs (tp 50), defBody (tp 50), defScope (tp 50), [], []⟩
def D__law_long_right : DefD := ⟨("_law_long_right", none), "_law_long_right", "_law_long_right", defArgs (tp 51), defBody (tp 51), defScope (tp 51), [], []⟩
def D__law_fractions_right : DefD := ⟨("_law_fractions_right", none), "_law_fractions_right", "_law_fractions_right", defArgs (tp 52), defBody (tp 52), defScope (tp 52), [], []⟩
def D__law_call : DefD := ⟨("_law_call", none), "_law_call", "_law_call", defArgs (tp 53), defBody (tp 53), defScope (tp 53), [], []⟩
def D__law_right_call : DefD := ⟨("_law_right_call", none), "_law_right_call", "_law_right_call", defArgs (tp 54), defBody (tp 54), defScope (tp 54), [], []⟩
def D__law_caught : DefD := ⟨("_law_caught", none), "_law_caught", "_law_caught", defArgs (tp 55), defBody (tp 55), defScope (tp 55), [], []⟩
def D__law_alone : DefD := ⟨("_law_alone", none), "_law_alone", "_law_alone", defArgs (tp 56), defBody (tp 56), defScope (tp 56), [], []⟩
def D__law_refusals_right : DefD := ⟨("_law_refusals_right", none), "_law_refusals_right", "_law_refusals_right", defArgs (tp 57), defBody (tp 57), defScope (tp 57), [], []⟩
def D_law : DefD := ⟨("law", none), "law", "law", defArgs (tp 58), defBody (tp 58), defScope (tp 58), [], []⟩
def fn : List DefD := [D_is_whole, D_is_signs, D_is_name, D_ascends, D_is_names, D_check_list, D_common_of, D_is_fraction, D_check_fraction, D_lowest_of, D_fraction_of, D_plus_of, D_times_of, D_less_than, D_check_fractions, D_sum_of, D_product_of, D_is_less, D__law_hash, D__law_cell, D__law_generator, D__law_random, D__law_pick, D__law_copied, D__law_exact, D__law_unlike, D__law_low, D__law_any, D__law_big, D__law_name, D__law_rise, D__law_string, D__law_numbers, D__law_judged, D__law_names_right, D__law_drawn_pair, D__law_fraction, D__law_is_fraction, D__law_made_right, D__law_sums_right, D__law_long_right, D__law_fractions_right, D__law_call, D__law_right_call, D__law_caught, D__law_alone, D__law_refusals_right, D_law]
def fa : List Fa := ([.glo "is_whole", .glo "is_signs", .glo "is_name", .glo "ascends", .glo "is_names", .glo "check_list", .glo "common_of", .glo "is_fraction", .glo "check_fraction", .glo "lowest_of", .glo "fraction_of", .glo "plus_of", .glo "times_of", .glo "less_than", .glo "check_fractions", .glo "sum_of", .glo "product_of", .glo "is_less", .glo "_law_hash", .glo "_law_cell", .glo "_law_generator", .glo "_law_random", .glo "_law_pick", .glo "_law_copied", .glo "_law_exact", .glo "_law_unlike", .glo "_law_low", .glo "_law_any", .glo "_law_big", .glo "_law_name"] : List Fa) ++ ([.glo "_law_rise", .glo "_law_string", .glo "_law_numbers", .glo "_law_judged", .glo "_law_names_right", .glo "_law_drawn_pair", .glo "_law_fraction", .glo "_law_is_fraction", .glo "_law_made_right", .glo "_law_sums_right", .glo "_law_long_right", .glo "_law_fractions_right", .glo "_law_call", .glo "_law_right_call", .glo "_law_caught", .glo "_law_alone", .glo "_law_refusals_right", .glo "law", .glo "ReasonError", .glo "InvalidNumber", .glo "InvalidFraction", .glo "InvalidList", .free "abs", .free "bool", .free "dict", .free "enumerate", .free "int", .free "isinstance", .free "len", .free "list"] : List Fa) ++ ([.free "max", .free "range", .free "repr", .free "sorted", .free "str", .free "sum", .free "tuple", .free "zip", .str "SMALL" "abcdefghijklmnopqrstuvwxyz", .str "FIGURES" "0123456789", .int "MOST_NAME" (12)] : List Fa)
def ts : List Tab := []
def ex (K : PySem.W.Frag) : Bool := errsB PR K errCs && (nodB K && (isiB K isi_InvalidNumber (.ref (ga K "InvalidNumber")) && (isiB K isi_InvalidList (.ref (ga K "InvalidList")) && (isiB K isi_InvalidFraction (.ref (ga K "InvalidFraction"))))))
def iv : IniW := iniV (defArgs sIni) (defBody sIni) (defScope sIni)
theorem iniOk : IniOk PR (defArgs sIni) (defBody sIni) (defScope sIni) :=
  ⟨⟨_, _, _, _, _, _, _, _, _, _, _, _, ⟨0, 0, 0, 0⟩, rfl, rfl, _, fun env => rfl⟩, rfl, rfl, rfl, rfl, rfl, rfl, rfl, by decide +kernel, by decide +kernel⟩
section
variable {w : World} {K : PySem.W.Frag} {mg : Str → Option Value} {h : Heap} {base : Heap}
theorem mf (X : K.In h) (G : h.Ns mainGlobals mg) (c : SaysP PR fa fn ts ex iv w K) : MF PR w K mg (ga K "ReasonError") (ma K (ga K "ReasonError") "__init__") := by
  have m0 := c.more
  unfold ex at m0
  obtain ⟨k0, m1⟩ := ba m0
  obtain ⟨k1, m2⟩ := ba m1
  obtain ⟨k2, m3⟩ := ba m2
  obtain ⟨k3, m4⟩ := ba m3
  exact {
    f_abs := free_ok X G (c.t.d.fact 52)
    f_bool := free_ok X G (c.t.d.fact 53)
    f_dict := free_ok X G (c.t.d.fact 54)
    f_enumerate := free_ok X G (c.t.d.fact 55)
    f_int := free_ok X G (c.t.d.fact 56)
    f_isinstance := free_ok X G (c.t.d.fact 57)
    f_len := free_ok X G (c.t.d.fact 58)
    f_list := free_ok X G (c.t.d.fact 59)
    f_max := free_ok X G (c.t.d.fact 60)
    f_range := free_ok X G (c.t.d.fact 61)
    f_repr := free_ok X G (c.t.d.fact 62)
    f_sorted := free_ok X G (c.t.d.fact 63)
    f_str := free_ok X G (c.t.d.fact 64)
    f_sum := free_ok X G (c.t.d.fact 65)
    f_tuple := free_ok X G (c.t.d.fact 66)
    f_zip := free_ok X G (c.t.d.fact 67)
    c_SMALL := str_ok X G (c.t.d.fact 68)
    c_FIGURES := str_ok X G (c.t.d.fact 69)
    c_MOST_NAME := int_ok X G (c.t.d.fact 70)
    nodig := nodB_ok k1
    g_sum_of := ⟨_, glo_ok X G (c.t.d.fact 15)⟩
    g_product_of := ⟨_, glo_ok X G (c.t.d.fact 16)⟩
    g_ReasonError := glo_ok X G (c.t.d.fact 48)
    errs := errsB_ok X G iniOk c.ini k0
    isi_InvalidNumber := ⟨_, glo_ok X G (c.t.d.fact 49), isiB_ok X G k2⟩
    isi_InvalidList := ⟨_, glo_ok X G (c.t.d.fact 51), isiB_ok X G k3⟩
    isi_InvalidFraction := ⟨_, glo_ok X G (c.t.d.fact 50), isiB_ok X G m4⟩ }
/-- the defs, as they stand -/
structure Fns (K : PySem.W.Frag) (mg : Str → Option Value) : Prop where
  d_is_whole : ∃ fd, FunD K "is_whole" "is_whole" (defArgs (tp 9)) (defBody (tp 9)) (defScope (tp 9)) [] [] (ga K "is_whole") fd
  g_is_whole : mg "is_whole" = some (.ref (ga K "is_whole"))
  d_is_signs : ∃ fd, FunD K "is_signs" "is_signs" (defArgs (tp 10)) (defBody (tp 10)) (defScope (tp 10)) [] [] (ga K "is_signs") fd
  g_is_signs : mg "is_signs" = some (.ref (ga K "is_signs"))
  d_is_name : ∃ fd, FunD K "is_name" "is_name" (defArgs (tp 11)) (defBody (tp 11)) (defScope (tp 11)) [] [] (ga K "is_name") fd
  g_is_name : mg "is_name" = some (.ref (ga K "is_name"))
  d_ascends : ∃ fd, FunD K "ascends" "ascends" (defArgs (tp 12)) (defBody (tp 12)) (defScope (tp 12)) [] [] (ga K "ascends") fd
  g_ascends : mg "ascends" = some (.ref (ga K "ascends"))
  d_is_names : ∃ fd, FunD K "is_names" "is_names" (defArgs (tp 13)) (defBody (tp 13)) (defScope (tp 13)) [] [] (ga K "is_names") fd
  g_is_names : mg "is_names" = some (.ref (ga K "is_names"))
  d_check_list : ∃ fd, FunD K "check_list" "check_list" (defArgs (tp 14)) (defBody (tp 14)) (defScope (tp 14)) [] [] (ga K "check_list") fd
  g_check_list : mg "check_list" = some (.ref (ga K "check_list"))
  d_common_of : ∃ fd, FunD K "common_of" "common_of" (defArgs (tp 16)) (defBody (tp 16)) (defScope (tp 16)) [] [] (ga K "common_of") fd
  g_common_of : mg "common_of" = some (.ref (ga K "common_of"))
  d_is_fraction : ∃ fd, FunD K "is_fraction" "is_fraction" (defArgs (tp 17)) (defBody (tp 17)) (defScope (tp 17)) [] [] (ga K "is_fraction") fd
  g_is_fraction : mg "is_fraction" = some (.ref (ga K "is_fraction"))
  d_check_fraction : ∃ fd, FunD K "check_fraction" "check_fraction" (defArgs (tp 18)) (defBody (tp 18)) (defScope (tp 18)) [] [] (ga K "check_fraction") fd
  g_check_fraction : mg "check_fraction" = some (.ref (ga K "check_fraction"))
  d_lowest_of : ∃ fd, FunD K "lowest_of" "lowest_of" (defArgs (tp 19)) (defBody (tp 19)) (defScope (tp 19)) [] [] (ga K "lowest_of") fd
  g_lowest_of : mg "lowest_of" = some (.ref (ga K "lowest_of"))
  d_fraction_of : ∃ fd, FunD K "fraction_of" "fraction_of" (defArgs (tp 20)) (defBody (tp 20)) (defScope (tp 20)) [] [] (ga K "fraction_of") fd
  g_fraction_of : mg "fraction_of" = some (.ref (ga K "fraction_of"))
  d_plus_of : ∃ fd, FunD K "plus_of" "plus_of" (defArgs (tp 21)) (defBody (tp 21)) (defScope (tp 21)) [] [] (ga K "plus_of") fd
  g_plus_of : mg "plus_of" = some (.ref (ga K "plus_of"))
  d_times_of : ∃ fd, FunD K "times_of" "times_of" (defArgs (tp 22)) (defBody (tp 22)) (defScope (tp 22)) [] [] (ga K "times_of") fd
  g_times_of : mg "times_of" = some (.ref (ga K "times_of"))
  d_less_than : ∃ fd, FunD K "less_than" "less_than" (defArgs (tp 23)) (defBody (tp 23)) (defScope (tp 23)) [] [] (ga K "less_than") fd
  g_less_than : mg "less_than" = some (.ref (ga K "less_than"))
  d_check_fractions : ∃ fd, FunD K "check_fractions" "check_fractions" (defArgs (tp 24)) (defBody (tp 24)) (defScope (tp 24)) [] [] (ga K "check_fractions") fd
  g_check_fractions : mg "check_fractions" = some (.ref (ga K "check_fractions"))
  d_sum_of : ∃ fd, FunD K "sum_of" "sum_of" (defArgs (tp 25)) (defBody (tp 25)) (defScope (tp 25)) [] [] (ga K "sum_of") fd
  g_sum_of : mg "sum_of" = some (.ref (ga K "sum_of"))
  d_product_of : ∃ fd, FunD K "product_of" "product_of" (defArgs (tp 26)) (defBody (tp 26)) (defScope (tp 26)) [] [] (ga K "product_of") fd
  g_product_of : mg "product_of" = some (.ref (ga K "product_of"))
  d_is_less : ∃ fd, FunD K "is_less" "is_less" (defArgs (tp 27)) (defBody (tp 27)) (defScope (tp 27)) [] [] (ga K "is_less") fd
  g_is_less : mg "is_less" = some (.ref (ga K "is_less"))
  d__law_hash : ∃ fd, FunD K "_law_hash" "_law_hash" (defArgs (tp 29)) (defBody (tp 29)) (defScope (tp 29)) [] [] (ga K "_law_hash") fd
  g__law_hash : mg "_law_hash" = some (.ref (ga K "_law_hash"))
  d__law_cell : ∃ fd, FunD K "_law_cell" "_law_cell" (defArgs (tp 30)) (defBody (tp 30)) (defScope (tp 30)) [] [] (ga K "_law_cell") fd
  g__law_cell : mg "_law_cell" = some (.ref (ga K "_law_cell"))
  d__law_generator : ∃ fd, FunD K "_law_generator" "_law_generator" (defArgs (tp 31)) (defBody (tp 31)) (defScope (tp 31)) [] [] (ga K "_law_generator") fd
  g__law_generator : mg "_law_generator" = some (.ref (ga K "_law_generator"))
  d__law_random : ∃ fd, FunD K "_law_random" "_law_random" (defArgs (tp 32)) (defBody (tp 32)) (defScope (tp 32)) [] [] (ga K "_law_random") fd
  g__law_random : mg "_law_random" = some (.ref (ga K "_law_random"))
  d__law_pick : ∃ fd, FunD K "_law_pick" "_law_pick" (defArgs (tp 33)) (defBody (tp 33)) (defScope (tp 33)) [] [] (ga K "_law_pick") fd
  g__law_pick : mg "_law_pick" = some (.ref (ga K "_law_pick"))
  d__law_copied : ∃ fd, FunD K "_law_copied" "_law_copied" (defArgs (tp 34)) (defBody (tp 34)) (defScope (tp 34)) [] [] (ga K "_law_copied") fd
  g__law_copied : mg "_law_copied" = some (.ref (ga K "_law_copied"))
  d__law_exact : ∃ fd, FunD K "_law_exact" "_law_exact" (defArgs (tp 35)) (defBody (tp 35)) (defScope (tp 35)) [] [] (ga K "_law_exact") fd
  g__law_exact : mg "_law_exact" = some (.ref (ga K "_law_exact"))
  d__law_unlike : ∃ fd, FunD K "_law_unlike" "_law_unlike" (defArgs (tp 36)) (defBody (tp 36)) (defScope (tp 36)) [] [] (ga K "_law_unlike") fd
  g__law_unlike : mg "_law_unlike" = some (.ref (ga K "_law_unlike"))
  d__law_low : ∃ fd, FunD K "_law_low" "_law_low" (defArgs (tp 37)) (defBody (tp 37)) (defScope (tp 37)) [] [] (ga K "_law_low") fd
  g__law_low : mg "_law_low" = some (.ref (ga K "_law_low"))
  d__law_any : ∃ fd, FunD K "_law_any" "_law_any" (defArgs (tp 38)) (defBody (tp 38)) (defScope (tp 38)) [] [] (ga K "_law_any") fd
  g__law_any : mg "_law_any" = some (.ref (ga K "_law_any"))
  d__law_big : ∃ fd, FunD K "_law_big" "_law_big" (defArgs (tp 39)) (defBody (tp 39)) (defScope (tp 39)) [] [] (ga K "_law_big") fd
  g__law_big : mg "_law_big" = some (.ref (ga K "_law_big"))
  d__law_name : ∃ fd, FunD K "_law_name" "_law_name" (defArgs (tp 40)) (defBody (tp 40)) (defScope (tp 40)) [] [] (ga K "_law_name") fd
  g__law_name : mg "_law_name" = some (.ref (ga K "_law_name"))
  d__law_rise : ∃ fd, FunD K "_law_rise" "_law_rise" (defArgs (tp 41)) (defBody (tp 41)) (defScope (tp 41)) [] [] (ga K "_law_rise") fd
  g__law_rise : mg "_law_rise" = some (.ref (ga K "_law_rise"))
  d__law_string : ∃ fd, FunD K "_law_string" "_law_string" (defArgs (tp 42)) (defBody (tp 42)) (defScope (tp 42)) [] [] (ga K "_law_string") fd
  g__law_string : mg "_law_string" = some (.ref (ga K "_law_string"))
  d__law_numbers : ∃ fd, FunD K "_law_numbers" "_law_numbers" (defArgs (tp 43)) (defBody (tp 43)) (defScope (tp 43)) [] [] (ga K "_law_numbers") fd
  g__law_numbers : mg "_law_numbers" = some (.ref (ga K "_law_numbers"))
  d__law_judged : ∃ fd, FunD K "_law_judged" "_law_judged" (defArgs (tp 44)) (defBody (tp 44)) (defScope (tp 44)) [] [] (ga K "_law_judged") fd
  g__law_judged : mg "_law_judged" = some (.ref (ga K "_law_judged"))
  d__law_names_right : ∃ fd, FunD K "_law_names_right" "_law_names_right" (defArgs (tp 45)) (defBody (tp 45)) (defScope (tp 45)) [] [] (ga K "_law_names_right") fd
  g__law_names_right : mg "_law_names_right" = some (.ref (ga K "_law_names_right"))
  d__law_drawn_pair : ∃ fd, FunD K "_law_drawn_pair" "_law_drawn_pair" (defArgs (tp 46)) (defBody (tp 46)) (defScope (tp 46)) [] [] (ga K "_law_drawn_pair") fd
  g__law_drawn_pair : mg "_law_drawn_pair" = some (.ref (ga K "_law_drawn_pair"))
  d__law_fraction : ∃ fd, FunD K "_law_fraction" "_law_fraction" (defArgs (tp 47)) (defBody (tp 47)) (defScope (tp 47)) [] [] (ga K "_law_fraction") fd
  g__law_fraction : mg "_law_fraction" = some (.ref (ga K "_law_fraction"))
  d__law_is_fraction : ∃ fd, FunD K "_law_is_fraction" "_law_is_fraction" (defArgs (tp 48)) (defBody (tp 48)) (defScope (tp 48)) [] [] (ga K "_law_is_fraction") fd
  g__law_is_fraction : mg "_law_is_fraction" = some (.ref (ga K "_law_is_fraction"))
  d__law_made_right : ∃ fd, FunD K "_law_made_right" "_law_made_right" (defArgs (tp 49)) (defBody (tp 49)) (defScope (tp 49)) [] [] (ga K "_law_made_right") fd
  g__law_made_right : mg "_law_made_right" = some (.ref (ga K "_law_made_right"))
  d__law_sums_right : ∃ fd, FunD K "_law_sums_right" "_law_sums_right" (defArgs (tp 50)) (defBody (tp 50)) (defScope (tp 50)) [] [] (ga K "_law_sums_right") fd
  g__law_sums_right : mg "_law_sums_right" = some (.ref (ga K "_law_sums_right"))
  d__law_long_right : ∃ fd, FunD K "_law_long_right" "_law_long_right" (defArgs (tp 51)) (defBody (tp 51)) (defScope (tp 51)) [] [] (ga K "_law_long_right") fd
  g__law_long_right : mg "_law_long_right" = some (.ref (ga K "_law_long_right"))
  d__law_fractions_right : ∃ fd, FunD K "_law_fractions_right" "_law_fractions_right" (defArgs (tp 52)) (defBody (tp 52)) (defScope (tp 52)) [] [] (ga K "_law_fractions_right") fd
  g__law_fractions_right : mg "_law_fractions_right" = some (.ref (ga K "_law_fractions_right"))
  d__law_call : ∃ fd, FunD K "_law_call" "_law_call" (defArgs (tp 53)) (defBody (tp 53)) (defScope (tp 53)) [] [] (ga K "_law_call") fd
  g__law_call : mg "_law_call" = some (.ref (ga K "_law_call"))
  d__law_right_call : ∃ fd, FunD K "_law_right_call" "_law_right_call" (defArgs (tp 54)) (defBody (tp 54)) (defScope (tp 54)) [] [] (ga K "_law_right_call") fd
  g__law_right_call : mg "_law_right_call" = some (.ref (ga K "_law_right_call"))
  d__law_caught : ∃ fd, FunD K "_law_caught" "_law_caught" (defArgs (tp 55)) (defBody (tp 55)) (defScope (tp 55)) [] [] (ga K "_law_caught") fd
  g__law_caught : mg "_law_caught" = some (.ref (ga K "_law_caught"))
  d__law_alone : ∃ fd, FunD K "_law_alone" "_law_alone" (defArgs (tp 56)) (defBody (tp 56)) (defScope (tp 56)) [] [] (ga K "_law_alone") fd
  g__law_alone : mg "_law_alone" = some (.ref (ga K "_law_alone"))
  d__law_refusals_right : ∃ fd, FunD K "_law_refusals_right" "_law_refusals_right" (defArgs (tp 57)) (defBody (tp 57)) (defScope (tp 57)) [] [] (ga K "_law_refusals_right") fd
  g__law_refusals_right : mg "_law_refusals_right" = some (.ref (ga K "_law_refusals_right"))
  d_law : ∃ fd, FunD K "law" "law" (defArgs (tp 58)) (defBody (tp 58)) (defScope (tp 58)) [] [] (ga K "law") fd
  g_law : mg "law" = some (.ref (ga K "law"))
theorem fns (X : K.In h) (G : h.Ns mainGlobals mg) (c : SaysP PR fa fn ts ex iv w K) : Fns K mg where
  d_is_whole := c.t.d.def_ 0 (d := D_is_whole)
  g_is_whole := glo_ok X G (c.t.d.fact 0)
  d_is_signs := c.t.d.def_ 1 (d := D_is_signs)
  g_is_signs := glo_ok X G (c.t.d.fact 1)
  d_is_name := c.t.d.def_ 2 (d := D_is_name)
  g_is_name := glo_ok X G (c.t.d.fact 2)
  d_ascends := c.t.d.def_ 3 (d := D_ascends)
  g_ascends := glo_ok X G (c.t.d.fact 3)
  d_is_names := c.t.d.def_ 4 (d := D_is_names)
  g_is_names := glo_ok X G (c.t.d.fact 4)
  d_check_list := c.t.d.def_ 5 (d := D_check_list)
  g_check_list := glo_ok X G (c.t.d.fact 5)
  d_common_of := c.t.d.def_ 6 (d := D_common_of)
  g_common_of := glo_ok X G (c.t.d.fact 6)
  d_is_fraction := c.t.d.def_ 7 (d := D_is_fraction)
  g_is_fraction := glo_ok X G (c.t.d.fact 7)
  d_check_fraction := c.t.d.def_ 8 (d := D_check_fraction)
  g_check_fraction := glo_ok X G (c.t.d.fact 8)
  d_lowest_of := c.t.d.def_ 9 (d := D_lowest_of)
  g_lowest_of := glo_ok X G (c.t.d.fact 9)
  d_fraction_of := c.t.d.def_ 10 (d := D_fraction_of)
  g_fraction_of := glo_ok X G (c.t.d.fact 10)
  d_plus_of := c.t.d.def_ 11 (d := D_plus_of)
  g_plus_of := glo_ok X G (c.t.d.fact 11)
  d_times_of := c.t.d.def_ 12 (d := D_times_of)
  g_times_of := glo_ok X G (c.t.d.fact 12)
  d_less_than := c.t.d.def_ 13 (d := D_less_than)
  g_less_than := glo_ok X G (c.t.d.fact 13)
  d_check_fractions := c.t.d.def_ 14 (d := D_check_fractions)
  g_check_fractions := glo_ok X G (c.t.d.fact 14)
  d_sum_of := c.t.d.def_ 15 (d := D_sum_of)
  g_sum_of := glo_ok X G (c.t.d.fact 15)
  d_product_of := c.t.d.def_ 16 (d := D_product_of)
  g_product_of := glo_ok X G (c.t.d.fact 16)
  d_is_less := c.t.d.def_ 17 (d := D_is_less)
  g_is_less := glo_ok X G (c.t.d.fact 17)
  d__law_hash := c.t.d.def_ 18 (d := D__law_hash)
  g__law_hash := glo_ok X G (c.t.d.fact 18)
  d__law_cell := c.t.d.def_ 19 (d := D__law_cell)
  g__law_cell := glo_ok X G (c.t.d.fact 19)
  d__law_generator := c.t.d.def_ 20 (d := D__law_generator)
  g__law_generator := glo_ok X G (c.t.d.fact 20)
  d__law_random := c.t.d.def_ 21 (d := D__law_random)
  g__law_random := glo_ok X G (c.t.d.fact 21)
  d__law_pick := c.t.d.def_ 22 (d := D__law_pick)
  g__law_pick := glo_ok X G (c.t.d.fact 22)
  d__law_copied := c.t.d.def_ 23 (d := D__law_copied)
  g__law_copied := glo_ok X G (c.t.d.fact 23)
  d__law_exact := c.t.d.def_ 24 (d := D__law_exact)
  g__law_exact := glo_ok X G (c.t.d.fact 24)
  d__law_unlike := c.t.d.def_ 25 (d := D__law_unlike)
  g__law_unlike := glo_ok X G (c.t.d.fact 25)
  d__law_low := c.t.d.def_ 26 (d := D__law_low)
  g__law_low := glo_ok X G (c.t.d.fact 26)
  d__law_any := c.t.d.def_ 27 (d := D__law_any)
  g__law_any := glo_ok X G (c.t.d.fact 27)
  d__law_big := c.t.d.def_ 28 (d := D__law_big)
  g__law_big := glo_ok X G (c.t.d.fact 28)
  d__law_name := c.t.d.def_ 29 (d := D__law_name)
  g__law_name := glo_ok X G (c.t.d.fact 29)
  d__law_rise := c.t.d.def_ 30 (d := D__law_rise)
  g__law_rise := glo_ok X G (c.t.d.fact 30)
  d__law_string := c.t.d.def_ 31 (d := D__law_string)
  g__law_string := glo_ok X G (c.t.d.fact 31)
  d__law_numbers := c.t.d.def_ 32 (d := D__law_numbers)
  g__law_numbers := glo_ok X G (c.t.d.fact 32)
  d__law_judged := c.t.d.def_ 33 (d := D__law_judged)
  g__law_judged := glo_ok X G (c.t.d.fact 33)
  d__law_names_right := c.t.d.def_ 34 (d := D__law_names_right)
  g__law_names_right := glo_ok X G (c.t.d.fact 34)
  d__law_drawn_pair := c.t.d.def_ 35 (d := D__law_drawn_pair)
  g__law_drawn_pair := glo_ok X G (c.t.d.fact 35)
  d__law_fraction := c.t.d.def_ 36 (d := D__law_fraction)
  g__law_fraction := glo_ok X G (c.t.d.fact 36)
  d__law_is_fraction := c.t.d.def_ 37 (d := D__law_is_fraction)
  g__law_is_fraction := glo_ok X G (c.t.d.fact 37)
  d__law_made_right := c.t.d.def_ 38 (d := D__law_made_right)
  g__law_made_right := glo_ok X G (c.t.d.fact 38)
  d__law_sums_right := c.t.d.def_ 39 (d := D__law_sums_right)
  g__law_sums_right := glo_ok X G (c.t.d.fact 39)
  d__law_long_right := c.t.d.def_ 40 (d := D__law_long_right)
  g__law_long_right := glo_ok X G (c.t.d.fact 40)
  d__law_fractions_right := c.t.d.def_ 41 (d := D__law_fractions_right)
  g__law_fractions_right := glo_ok X G (c.t.d.fact 41)
  d__law_call := c.t.d.def_ 42 (d := D__law_call)
  g__law_call := glo_ok X G (c.t.d.fact 42)
  d__law_right_call := c.t.d.def_ 43 (d := D__law_right_call)
  g__law_right_call := glo_ok X G (c.t.d.fact 43)
  d__law_caught := c.t.d.def_ 44 (d := D__law_caught)
  g__law_caught := glo_ok X G (c.t.d.fact 44)
  d__law_alone := c.t.d.def_ 45 (d := D__law_alone)
  g__law_alone := glo_ok X G (c.t.d.fact 45)
  d__law_refusals_right := c.t.d.def_ 46 (d := D__law_refusals_right)
  g__law_refusals_right := glo_ok X G (c.t.d.fact 46)
  d_law := c.t.d.def_ 47 (d := D_law)
  g_law := glo_ok X G (c.t.d.fact 47)
theorem sc_is_whole : FnScope ["value"] ["value"] (defScope (tp 9)) := ⟨rfl, rfl, rfl, by decide +kernel, rfl, by decide +kernel, by decide +kernel⟩
theorem sc_is_signs : FnScope ["value", "signs", "sign"] ["value", "signs"] (defScope (tp 10)) := ⟨rfl, rfl, rfl, by decide +kernel, rfl, by decide +kernel, by decide +kernel⟩
theorem sc_is_name : FnScope ["value"] ["value"] (defScope (tp 11)) := ⟨rfl, rfl, rfl, by decide +kernel, rfl, by decide +kernel, by decide +kernel⟩
theorem sc_ascends : FnScope ["items", "at"] ["items"] (defScope (tp 12)) := ⟨rfl, rfl, rfl, by decide +kernel, rfl, by decide +kernel, by decide +kernel⟩
theorem sc_is_names : FnScope ["value", "item"] ["value"] (defScope (tp 13)) := ⟨rfl, rfl, rfl, by decide +kernel, rfl, by decide +kernel, by decide +kernel⟩
theorem sc_check_list : FnScope ["value"] ["value"] (defScope (tp 14)) := ⟨rfl, rfl, rfl, by decide +kernel, rfl, by decide +kernel, by decide +kernel⟩
theorem sc_common_of : FnScope ["one", "other"] ["one", "other"] (defScope (tp 16)) := ⟨rfl, rfl, rfl, by decide +kernel, rfl, by decide +kernel, by decide +kernel⟩
theorem sc_is_fraction : FnScope ["value"] ["value"] (defScope (tp 17)) := ⟨rfl, rfl, rfl, by decide +kernel, rfl, by decide +kernel, by decide +kernel⟩
theorem sc_check_fraction : FnScope ["value"] ["value"] (defScope (tp 18)) := ⟨rfl, rfl, rfl, by decide +kernel, rfl, by decide +kernel, by decide +kernel⟩
theorem sc_lowest_of : FnScope ["above", "below", "part"] ["above", "below"] (defScope (tp 19)) := ⟨rfl, rfl, rfl, by decide +kernel, rfl, by decide +kernel, by decide +kernel⟩
theorem sc_fraction_of : FnScope ["above", "below"] ["above", "below"] (defScope (tp 20)) := ⟨rfl, rfl, rfl, by decide +kernel, rfl, by decide +kernel, by decide +kernel⟩
theorem sc_plus_of : FnScope ["one", "other"] ["one", "other"] (defScope (tp 21)) := ⟨rfl, rfl, rfl, by decide +kernel, rfl, by decide +kernel, by decide +kernel⟩
theorem sc_times_of : FnScope ["one", "other"] ["one", "other"] (defScope (tp 22)) := ⟨rfl, rfl, rfl, by decide +kernel, rfl, by decide +kernel, by decide +kernel⟩
theorem sc_less_than : FnScope ["one", "other"] ["one", "other"] (defScope (tp 23)) := ⟨rfl, rfl, rfl, by decide +kernel, rfl, by decide +kernel, by decide +kernel⟩
theorem sc_check_fractions : FnScope ["fractions", "item"] ["fractions"] (defScope (tp 24)) := ⟨rfl, rfl, rfl, by decide +kernel, rfl, by decide +kernel, by decide +kernel⟩
theorem sc_sum_of : FnScope ["fractions", "total", "item"] ["fractions"] (defScope (tp 25)) := ⟨rfl, rfl, rfl, by decide +kernel, rfl, by decide +kernel, by decide +kernel⟩
theorem sc_product_of : FnScope ["fractions", "total", "item"] ["fractions"] (defScope (tp 26)) := ⟨rfl, rfl, rfl, by decide +kernel, rfl, by decide +kernel, by decide +kernel⟩
theorem sc_is_less : FnScope ["one", "other"] ["one", "other"] (defScope (tp 27)) := ⟨rfl, rfl, rfl, by decide +kernel, rfl, by decide +kernel, by decide +kernel⟩
theorem sc__law_hash : FnScope ["seed", "index", "mixed"] ["seed", "index"] (defScope (tp 29)) := ⟨rfl, rfl, rfl, by decide +kernel, rfl, by decide +kernel, by decide +kernel⟩
theorem sc__law_cell : FnScope ["script", "index"] ["script", "index"] (defScope (tp 30)) := ⟨rfl, rfl, rfl, by decide +kernel, rfl, by decide +kernel, by decide +kernel⟩
theorem sc__law_generator : FnScope ["script", "index", "seed"] ["script", "index"] (defScope (tp 31)) := ⟨rfl, rfl, rfl, by decide +kernel, rfl, by decide +kernel, by decide +kernel⟩
theorem sc__law_random : FnScope ["generator", "bound", "drawn", "turn"] ["generator", "bound"] (defScope (tp 32)) := ⟨rfl, rfl, rfl, by decide +kernel, rfl, by decide +kernel, by decide +kernel⟩
theorem sc__law_pick : FnScope ["generator", "things"] ["generator", "things"] (defScope (tp 33)) := ⟨rfl, rfl, rfl, by decide +kernel, rfl, by decide +kernel, by decide +kernel⟩
theorem sc__law_copied : FnScope ["value", "item", "key"] ["value"] (defScope (tp 34)) := ⟨rfl, rfl, rfl, by decide +kernel, rfl, by decide +kernel, by decide +kernel⟩
theorem sc__law_exact : FnScope ["told", "due", "key", "one", "other"] ["told", "due"] (defScope (tp 35)) := ⟨rfl, rfl, rfl, by decide +kernel, rfl, by decide +kernel, by decide +kernel⟩
theorem sc__law_unlike : FnScope ["items", "found", "item"] ["items"] (defScope (tp 36)) := ⟨rfl, rfl, rfl, by decide +kernel, rfl, by decide +kernel, by decide +kernel⟩
theorem sc__law_low : FnScope ["above", "below", "one", "other", "turn"] ["above", "below"] (defScope (tp 37)) := ⟨rfl, rfl, rfl, by decide +kernel, rfl, by decide +kernel, by decide +kernel⟩
theorem sc__law_any : FnScope ["generator", "menu"] ["generator"] (defScope (tp 38)) := ⟨rfl, rfl, rfl, by decide +kernel, rfl, by decide +kernel, by decide +kernel⟩
theorem sc__law_big : FnScope ["generator", "far"] ["generator"] (defScope (tp 39)) := ⟨rfl, rfl, rfl, by decide +kernel, rfl, by decide +kernel, by decide +kernel⟩
theorem sc__law_name : FnScope ["value", "sign"] ["value"] (defScope (tp 40)) := ⟨rfl, rfl, rfl, by decide +kernel, rfl, by decide +kernel, by decide +kernel⟩
theorem sc__law_rise : FnScope ["items", "at"] ["items"] (defScope (tp 41)) := ⟨rfl, rfl, rfl, by decide +kernel, rfl, by decide +kernel, by decide +kernel⟩
theorem sc__law_string : FnScope ["generator", "signs", "turn"] ["generator"] (defScope (tp 42)) := ⟨rfl, rfl, rfl, by decide +kernel, rfl, by decide +kernel, by decide +kernel⟩
theorem sc__law_numbers : FnScope ["generator", "turn"] ["generator"] (defScope (tp 43)) := ⟨rfl, rfl, rfl, by decide +kernel, rfl, by decide +kernel, by decide +kernel⟩
theorem sc__law_judged : FnScope ["value", "kept", "lots", "due", "told", "again", "item"] ["value"] (defScope (tp 44)) := ⟨rfl, rfl, rfl, by decide +kernel, rfl, by decide +kernel, by decide +kernel⟩
theorem sc__law_names_right : FnScope ["script", "index", "generator", "turn", "numbers", "menu", "names", "good", "lists", "value", "many", "due", "at", "name"] ["script"] (defScope (tp 45)) := ⟨rfl, rfl, rfl, by decide +kernel, rfl, by decide +kernel, by decide +kernel⟩
theorem sc__law_drawn_pair : FnScope ["generator", "below"] ["generator"] (defScope (tp 46)) := ⟨rfl, rfl, rfl, by decide +kernel, rfl, by decide +kernel, by decide +kernel⟩
theorem sc__law_fraction : FnScope ["above", "below", "low"] ["above", "below"] (defScope (tp 47)) := ⟨rfl, rfl, rfl, by decide +kernel, rfl, by decide +kernel, by decide +kernel⟩
theorem sc__law_is_fraction : FnScope ["value", "part"] ["value"] (defScope (tp 48)) := ⟨rfl, rfl, rfl, by decide +kernel, rfl, by decide +kernel, by decide +kernel⟩
theorem sc__law_made_right : FnScope ["generator", "above", "below", "times", "due", "told", "values", "value", "shown"] ["generator"] (defScope (tp 49)) := ⟨rfl, rfl, rfl, by decide +kernel, rfl, by decide +kernel, by decide +kernel⟩
theorem sc__law_sums_right : FnScope ["generator", "items", "kept", "total", "product", "item", "one", "other", "pair", "due", "turn"] ["generator"] (defScope (tp 50)) := ⟨rfl, rfl, rfl, by decide +kernel, rfl, by decide +kernel, by decide +kernel⟩
theorem sc__law_long_right : FnScope ["generator", "items", "total", "product", "item", "shown", "told", "both", "pair", "turn"] ["generator"] (defScope (tp 51)) := ⟨rfl, rfl, rfl, by decide +kernel, rfl, by decide +kernel, by decide +kernel⟩
theorem sc__law_fractions_right : FnScope ["script", "index", "generator", "turn"] ["script"] (defScope (tp 52)) := ⟨rfl, rfl, rfl, by decide +kernel, rfl, by decide +kernel, by decide +kernel⟩
theorem sc__law_call : FnScope ["door", "other", "goods"] ["door", "other"] (defScope (tp 53)) := ⟨rfl, rfl, rfl, by decide +kernel, rfl, by decide +kernel, by decide +kernel⟩
theorem sc__law_right_call : FnScope ["door", "other"] ["door", "other"] (defScope (tp 54)) := ⟨rfl, rfl, rfl, by decide +kernel, rfl, by decide +kernel, by decide +kernel⟩
theorem sc__law_caught : FnScope ["door", "other", "found", "way", "caught", "error", "kinds"] ["door", "other"] (defScope (tp 55)) := ⟨rfl, rfl, rfl, by decide +kernel, rfl, by decide +kernel, by decide +kernel⟩
theorem sc__law_alone : FnScope ["call", "odd", "caught", "error"] ["call", "odd"] (defScope (tp 56)) := ⟨rfl, rfl, rfl, by decide +kernel, rfl, by decide +kernel, by decide +kernel⟩
theorem sc__law_refusals_right : FnScope ["script", "index", "generator", "number", "strange", "door", "kind", "odd", "call", "good", "at"] ["script"] (defScope (tp 57)) := ⟨rfl, rfl, rfl, by decide +kernel, rfl, by decide +kernel, by decide +kernel⟩
theorem sc_law : FnScope ["script"] ["script"] (defScope (tp 58)) := ⟨rfl, rfl, rfl, by decide +kernel, rfl, by decide +kernel, by decide +kernel⟩
theorem oks (M : MF PR w K mg (ga K "ReasonError") (ma K (ga K "ReasonError") "__init__")) (F : Fns K mg) : ∀ n, Oks PR w K mg base n (sem n)
  | 0 => {
      o_is_whole := let ⟨_, D⟩ := F.d_is_whole; ck_of (ps := ["value"]) D F.g_is_whole (fun _ _ _ _ _ _ us hl => match us, hl with | [_], _ => rfl) (fnG_zero spF_none)
      o_is_signs := let ⟨_, D⟩ := F.d_is_signs; ck_of (ps := ["value", "signs"]) D F.g_is_signs (fun _ _ _ _ _ _ us hl => match us, hl with | [_, _], _ => rfl) (fnG_zero spF_none)
      o_is_name := let ⟨_, D⟩ := F.d_is_name; ck_of (ps := ["value"]) D F.g_is_name (fun _ _ _ _ _ _ us hl => match us, hl with | [_], _ => rfl) (fnG_zero spF_none)
      o_ascends := let ⟨_, D⟩ := F.d_ascends; ck_of (ps := ["items"]) D F.g_ascends (fun _ _ _ _ _ _ us hl => match us, hl with | [_], _ => rfl) (fnG_zero spF_none)
      o_is_names := let ⟨_, D⟩ := F.d_is_names; ck_of (ps := ["value"]) D F.g_is_names (fun _ _ _ _ _ _ us hl => match us, hl with | [_], _ => rfl) (fnG_zero spF_none)
      o_check_list := let ⟨_, D⟩ := F.d_check_list; ck_of (ps := ["value"]) D F.g_check_list (fun _ _ _ _ _ _ us hl => match us, hl with | [_], _ => rfl) (fnG_zero spF_none)
      o_common_of := let ⟨_, D⟩ := F.d_common_of; ck_of (ps := ["one", "other"]) D F.g_common_of (fun _ _ _ _ _ _ us hl => match us, hl with | [_, _], _ => rfl) (fnG_zero spF_none)
      o_is_fraction := let ⟨_, D⟩ := F.d_is_fraction; ck_of (ps := ["value"]) D F.g_is_fraction (fun _ _ _ _ _ _ us hl => match us, hl with | [_], _ => rfl) (fnG_zero spF_none)
      o_check_fraction := let ⟨_, D⟩ := F.d_check_fraction; ck_of (ps := ["value"]) D F.g_check_fraction (fun _ _ _ _ _ _ us hl => match us, hl with | [_], _ => rfl) (fnG_zero spF_none)
      o_lowest_of := let ⟨_, D⟩ := F.d_lowest_of; ck_of (ps := ["above", "below"]) D F.g_lowest_of (fun _ _ _ _ _ _ us hl => match us, hl with | [_, _], _ => rfl) (fnG_zero spF_none)
      o_fraction_of := let ⟨_, D⟩ := F.d_fraction_of; ck_of (ps := ["above", "below"]) D F.g_fraction_of (fun _ _ _ _ _ _ us hl => match us, hl with | [_, _], _ => rfl) (fnG_zero spF_none)
      o_plus_of := let ⟨_, D⟩ := F.d_plus_of; ck_of (ps := ["one", "other"]) D F.g_plus_of (fun _ _ _ _ _ _ us hl => match us, hl with | [_, _], _ => rfl) (fnG_zero spF_none)
      o_times_of := let ⟨_, D⟩ := F.d_times_of; ck_of (ps := ["one", "other"]) D F.g_times_of (fun _ _ _ _ _ _ us hl => match us, hl with | [_, _], _ => rfl) (fnG_zero spF_none)
      o_less_than := let ⟨_, D⟩ := F.d_less_than; ck_of (ps := ["one", "other"]) D F.g_less_than (fun _ _ _ _ _ _ us hl => match us, hl with | [_, _], _ => rfl) (fnG_zero spF_none)
      o_check_fractions := let ⟨_, D⟩ := F.d_check_fractions; ck_of (ps := ["fractions"]) D F.g_check_fractions (fun _ _ _ _ _ _ us hl => match us, hl with | [_], _ => rfl) (fnG_zero spF_none)
      o_sum_of := let ⟨_, D⟩ := F.d_sum_of; ck_of (ps := ["fractions"]) D F.g_sum_of (fun _ _ _ _ _ _ us hl => match us, hl with | [_], _ => rfl) (fnG_zero spF_none)
      o_product_of := let ⟨_, D⟩ := F.d_product_of; ck_of (ps := ["fractions"]) D F.g_product_of (fun _ _ _ _ _ _ us hl => match us, hl with | [_], _ => rfl) (fnG_zero spF_none)
      o_is_less := let ⟨_, D⟩ := F.d_is_less; ck_of (ps := ["one", "other"]) D F.g_is_less (fun _ _ _ _ _ _ us hl => match us, hl with | [_, _], _ => rfl) (fnG_zero spF_none)
      o__law_hash := let ⟨_, D⟩ := F.d__law_hash; ck_of (ps := ["seed", "index"]) D F.g__law_hash (fun _ _ _ _ _ _ us hl => match us, hl with | [_, _], _ => rfl) (fnG_zero spF_none)
      o__law_cell := let ⟨_, D⟩ := F.d__law_cell; ck_of (ps := ["script", "index"]) D F.g__law_cell (fun _ _ _ _ _ _ us hl => match us, hl with | [_, _], _ => rfl) (fnG_zero spF_none)
      o__law_generator := let ⟨_, D⟩ := F.d__law_generator; ck_of (ps := ["script", "index"]) D F.g__law_generator (fun _ _ _ _ _ _ us hl => match us, hl with | [_, _], _ => rfl) (fnG_zero spF_none)
      o__law_random := let ⟨_, D⟩ := F.d__law_random; ck_of (ps := ["generator", "bound"]) D F.g__law_random (fun _ _ _ _ _ _ us hl => match us, hl with | [_, _], _ => rfl) (fnG_zero spF_none)
      o__law_pick := let ⟨_, D⟩ := F.d__law_pick; ck_of (ps := ["generator", "things"]) D F.g__law_pick (fun _ _ _ _ _ _ us hl => match us, hl with | [_, _], _ => rfl) (fnG_zero spF_none)
      o__law_copied := let ⟨_, D⟩ := F.d__law_copied; ck_of (ps := ["value"]) D F.g__law_copied (fun _ _ _ _ _ _ us hl => match us, hl with | [_], _ => rfl) (fnG_zero spF_none)
      o__law_exact := let ⟨_, D⟩ := F.d__law_exact; ck_of (ps := ["told", "due"]) D F.g__law_exact (fun _ _ _ _ _ _ us hl => match us, hl with | [_, _], _ => rfl) (fnG_zero spF_none)
      o__law_unlike := let ⟨_, D⟩ := F.d__law_unlike; ck_of (ps := ["items"]) D F.g__law_unlike (fun _ _ _ _ _ _ us hl => match us, hl with | [_], _ => rfl) (fnG_zero spF_none)
      o__law_low := let ⟨_, D⟩ := F.d__law_low; ck_of (ps := ["above", "below"]) D F.g__law_low (fun _ _ _ _ _ _ us hl => match us, hl with | [_, _], _ => rfl) (fnG_zero spF_none)
      o__law_any := let ⟨_, D⟩ := F.d__law_any; ck_of (ps := ["generator"]) D F.g__law_any (fun _ _ _ _ _ _ us hl => match us, hl with | [_], _ => rfl) (fnG_zero spF_none)
      o__law_big := let ⟨_, D⟩ := F.d__law_big; ck_of (ps := ["generator"]) D F.g__law_big (fun _ _ _ _ _ _ us hl => match us, hl with | [_], _ => rfl) (fnG_zero spF_none)
      o__law_name := let ⟨_, D⟩ := F.d__law_name; ck_of (ps := ["value"]) D F.g__law_name (fun _ _ _ _ _ _ us hl => match us, hl with | [_], _ => rfl) (fnG_zero spF_none)
      o__law_rise := let ⟨_, D⟩ := F.d__law_rise; ck_of (ps := ["items"]) D F.g__law_rise (fun _ _ _ _ _ _ us hl => match us, hl with | [_], _ => rfl) (fnG_zero spF_none)
      o__law_string := let ⟨_, D⟩ := F.d__law_string; ck_of (ps := ["generator"]) D F.g__law_string (fun _ _ _ _ _ _ us hl => match us, hl with | [_], _ => rfl) (fnG_zero spF_none)
      o__law_numbers := let ⟨_, D⟩ := F.d__law_numbers; ck_of (ps := ["generator"]) D F.g__law_numbers (fun _ _ _ _ _ _ us hl => match us, hl with | [_], _ => rfl) (fnG_zero spF_none)
      o__law_judged := let ⟨_, D⟩ := F.d__law_judged; ck_of (ps := ["value"]) D F.g__law_judged (fun _ _ _ _ _ _ us hl => match us, hl with | [_], _ => rfl) (fnG_zero spF_none)
      o__law_names_right := let ⟨_, D⟩ := F.d__law_names_right; ck_of (ps := ["script"]) D F.g__law_names_right (fun _ _ _ _ _ _ us hl => match us, hl with | [_], _ => rfl) (fnG_zero spF_none)
      o__law_drawn_pair := let ⟨_, D⟩ := F.d__law_drawn_pair; ck_of (ps := ["generator"]) D F.g__law_drawn_pair (fun _ _ _ _ _ _ us hl => match us, hl with | [_], _ => rfl) (fnG_zero spF_none)
      o__law_fraction := let ⟨_, D⟩ := F.d__law_fraction; ck_of (ps := ["above", "below"]) D F.g__law_fraction (fun _ _ _ _ _ _ us hl => match us, hl with | [_, _], _ => rfl) (fnG_zero spF_none)
      o__law_is_fraction := let ⟨_, D⟩ := F.d__law_is_fraction; ck_of (ps := ["value"]) D F.g__law_is_fraction (fun _ _ _ _ _ _ us hl => match us, hl with | [_], _ => rfl) (fnG_zero spF_none)
      o__law_made_right := let ⟨_, D⟩ := F.d__law_made_right; ck_of (ps := ["generator"]) D F.g__law_made_right (fun _ _ _ _ _ _ us hl => match us, hl with | [_], _ => rfl) (fnG_zero spF_none)
      o__law_sums_right := let ⟨_, D⟩ := F.d__law_sums_right; ck_of (ps := ["generator"]) D F.g__law_sums_right (fun _ _ _ _ _ _ us hl => match us, hl with | [_], _ => rfl) (fnG_zero spF_none)
      o__law_long_right := let ⟨_, D⟩ := F.d__law_long_right; ck_of (ps := ["generator"]) D F.g__law_long_right (fun _ _ _ _ _ _ us hl => match us, hl with | [_], _ => rfl) (fnG_zero spF_none)
      o__law_fractions_right := let ⟨_, D⟩ := F.d__law_fractions_right; ck_of (ps := ["script"]) D F.g__law_fractions_right (fun _ _ _ _ _ _ us hl => match us, hl with | [_], _ => rfl) (fnG_zero spF_none)
      o__law_call := let ⟨_, D⟩ := F.d__law_call; ck_of (ps := ["door", "other"]) D F.g__law_call (fun _ _ _ _ _ _ us hl => match us, hl with | [_, _], _ => rfl) (fnG_zero spF_none)
      o__law_right_call := let ⟨_, D⟩ := F.d__law_right_call; ck_of (ps := ["door", "other"]) D F.g__law_right_call (fun _ _ _ _ _ _ us hl => match us, hl with | [_, _], _ => rfl) (fnG_zero spF_none)
      o__law_caught := let ⟨_, D⟩ := F.d__law_caught; ck_of (ps := ["door", "other"]) D F.g__law_caught (fun _ _ _ _ _ _ us hl => match us, hl with | [_, _], _ => rfl) (fnG_zero spF_none)
      o__law_alone := let ⟨_, D⟩ := F.d__law_alone; ck_of (ps := ["call", "odd"]) D F.g__law_alone (fun _ _ _ _ _ _ us hl => match us, hl with | [_, _], _ => rfl) (fnG_zero spF_none)
      o__law_refusals_right := let ⟨_, D⟩ := F.d__law_refusals_right; ck_of (ps := ["script"]) D F.g__law_refusals_right (fun _ _ _ _ _ _ us hl => match us, hl with | [_], _ => rfl) (fnG_zero spF_none)
      k_fraction_of_below_above := let ⟨_, D⟩ := F.d_fraction_of; ckk_of (ps := ["above", "below"]) D F.g_fraction_of (fun _ _ _ _ _ _ us hl => match us, hl with | [_, _], _ => rfl) (fnG_zero spF_none)
      k_is_fraction_value := let ⟨_, D⟩ := F.d_is_fraction; ckk_of (ps := ["value"]) D F.g_is_fraction (fun _ _ _ _ _ _ us hl => match us, hl with | [_], _ => rfl) (fnG_zero spF_none)
      k_is_less_other_one := let ⟨_, D⟩ := F.d_is_less; ckk_of (ps := ["one", "other"]) D F.g_is_less (fun _ _ _ _ _ _ us hl => match us, hl with | [_, _], _ => rfl) (fnG_zero spF_none)
      k_is_name_value := let ⟨_, D⟩ := F.d_is_name; ckk_of (ps := ["value"]) D F.g_is_name (fun _ _ _ _ _ _ us hl => match us, hl with | [_], _ => rfl) (fnG_zero spF_none)
      k_is_names_value := let ⟨_, D⟩ := F.d_is_names; ckk_of (ps := ["value"]) D F.g_is_names (fun _ _ _ _ _ _ us hl => match us, hl with | [_], _ => rfl) (fnG_zero spF_none)
      k_product_of_fractions := let ⟨_, D⟩ := F.d_product_of; ckk_of (ps := ["fractions"]) D F.g_product_of (fun _ _ _ _ _ _ us hl => match us, hl with | [_], _ => rfl) (fnG_zero spF_none)
      k_sum_of_fractions := let ⟨_, D⟩ := F.d_sum_of; ckk_of (ps := ["fractions"]) D F.g_sum_of (fun _ _ _ _ _ _ us hl => match us, hl with | [_], _ => rfl) (fnG_zero spF_none) }
  | n + 1 => {
      o_is_whole := let ⟨_, D⟩ := F.d_is_whole; ck_of (ps := ["value"]) D F.g_is_whole (fun _ _ _ _ _ _ us hl => match us, hl with | [_], _ => rfl) (fnG_D D sc_is_whole fun cdv A outer s H E hr hg => d_is_whole M (oks M F n) (bx_ct hr hg sc_is_whole.nd))
      o_is_signs := let ⟨_, D⟩ := F.d_is_signs; ck_of (ps := ["value", "signs"]) D F.g_is_signs (fun _ _ _ _ _ _ us hl => match us, hl with | [_, _], _ => rfl) (fnG_D D sc_is_signs fun cdv A outer s H E hr hg => d_is_signs M (oks M F n) (bx_ct hr hg sc_is_signs.nd))
      o_is_name := let ⟨_, D⟩ := F.d_is_name; ck_of (ps := ["value"]) D F.g_is_name (fun _ _ _ _ _ _ us hl => match us, hl with | [_], _ => rfl) (fnG_D D sc_is_name fun cdv A outer s H E hr hg => d_is_name M (oks M F n) (bx_ct hr hg sc_is_name.nd))
      o_ascends := let ⟨_, D⟩ := F.d_ascends; ck_of (ps := ["items"]) D F.g_ascends (fun _ _ _ _ _ _ us hl => match us, hl with | [_], _ => rfl) (fnG_D D sc_ascends fun cdv A outer s H E hr hg => d_ascends M (oks M F n) (bx_ct hr hg sc_ascends.nd))
      o_is_names := let ⟨_, D⟩ := F.d_is_names; ck_of (ps := ["value"]) D F.g_is_names (fun _ _ _ _ _ _ us hl => match us, hl with | [_], _ => rfl) (fnG_D D sc_is_names fun cdv A outer s H E hr hg => d_is_names M (oks M F n) (bx_ct hr hg sc_is_names.nd))
      o_check_list := let ⟨_, D⟩ := F.d_check_list; ck_of (ps := ["value"]) D F.g_check_list (fun _ _ _ _ _ _ us hl => match us, hl with | [_], _ => rfl) (fnG_D D sc_check_list fun cdv A outer s H E hr hg => d_check_list M (oks M F n) (bx_ct hr hg sc_check_list.nd))
      o_common_of := let ⟨_, D⟩ := F.d_common_of; ck_of (ps := ["one", "other"]) D F.g_common_of (fun _ _ _ _ _ _ us hl => match us, hl with | [_, _], _ => rfl) (fnG_D D sc_common_of fun cdv A outer s H E hr hg => d_common_of M (oks M F n) (bx_ct hr hg sc_common_of.nd))
      o_is_fraction := let ⟨_, D⟩ := F.d_is_fraction; ck_of (ps := ["value"]) D F.g_is_fraction (fun _ _ _ _ _ _ us hl => match us, hl with | [_], _ => rfl) (fnG_D D sc_is_fraction fun cdv A outer s H E hr hg => d_is_fraction M (oks M F n) (bx_ct hr hg sc_is_fraction.nd))
      o_check_fraction := let ⟨_, D⟩ := F.d_check_fraction; ck_of (ps := ["value"]) D F.g_check_fraction (fun _ _ _ _ _ _ us hl => match us, hl with | [_], _ => rfl) (fnG_D D sc_check_fraction fun cdv A outer s H E hr hg => d_check_fraction M (oks M F n) (bx_ct hr hg sc_check_fraction.nd))
      o_lowest_of := let ⟨_, D⟩ := F.d_lowest_of; ck_of (ps := ["above", "below"]) D F.g_lowest_of (fun _ _ _ _ _ _ us hl => match us, hl with | [_, _], _ => rfl) (fnG_D D sc_lowest_of fun cdv A outer s H E hr hg => d_lowest_of M (oks M F n) (bx_ct hr hg sc_lowest_of.nd))
      o_fraction_of := let ⟨_, D⟩ := F.d_fraction_of; ck_of (ps := ["above", "below"]) D F.g_fraction_of (fun _ _ _ _ _ _ us hl => match us, hl with | [_, _], _ => rfl) (fnG_D D sc_fraction_of fun cdv A outer s H E hr hg => d_fraction_of M (oks M F n) (bx_ct hr hg sc_fraction_of.nd))
      o_plus_of := let ⟨_, D⟩ := F.d_plus_of; ck_of (ps := ["one", "other"]) D F.g_plus_of (fun _ _ _ _ _ _ us hl => match us, hl with | [_, _], _ => rfl) (fnG_D D sc_plus_of fun cdv A outer s H E hr hg => d_plus_of M (oks M F n) (bx_ct hr hg sc_plus_of.nd))
      o_times_of := let ⟨_, D⟩ := F.d_times_of; ck_of (ps := ["one", "other"]) D F.g_times_of (fun _ _ _ _ _ _ us hl => match us, hl with | [_, _], _ => rfl) (fnG_D D sc_times_of fun cdv A outer s H E hr hg => d_times_of M (oks M F n) (bx_ct hr hg sc_times_of.nd))
      o_less_than := let ⟨_, D⟩ := F.d_less_than; ck_of (ps := ["one", "other"]) D F.g_less_than (fun _ _ _ _ _ _ us hl => match us, hl with | [_, _], _ => rfl) (fnG_D D sc_less_than fun cdv A outer s H E hr hg => d_less_than M (oks M F n) (bx_ct hr hg sc_less_than.nd))
      o_check_fractions := let ⟨_, D⟩ := F.d_check_fractions; ck_of (ps := ["fractions"]) D F.g_check_fractions (fun _ _ _ _ _ _ us hl => match us, hl with | [_], _ => rfl) (fnG_D D sc_check_fractions fun cdv A outer s H E hr hg => d_check_fractions M (oks M F n) (bx_ct hr hg sc_check_fractions.nd))
      o_sum_of := let ⟨_, D⟩ := F.d_sum_of; ck_of (ps := ["fractions"]) D F.g_sum_of (fun _ _ _ _ _ _ us hl => match us, hl with | [_], _ => rfl) (fnG_D D sc_sum_of fun cdv A outer s H E hr hg => d_sum_of M (oks M F n) (bx_ct hr hg sc_sum_of.nd))
      o_product_of := let ⟨_, D⟩ := F.d_product_of; ck_of (ps := ["fractions"]) D F.g_product_of (fun _ _ _ _ _ _ us hl => match us, hl with | [_], _ => rfl) (fnG_D D sc_product_of fun cdv A outer s H E hr hg => d_product_of M (oks M F n) (bx_ct hr hg sc_product_of.nd))
      o_is_less := let ⟨_, D⟩ := F.d_is_less; ck_of (ps := ["one", "other"]) D F.g_is_less (fun _ _ _ _ _ _ us hl => match us, hl with | [_, _], _ => rfl) (fnG_D D sc_is_less fun cdv A outer s H E hr hg => d_is_less M (oks M F n) (bx_ct hr hg sc_is_less.nd))
      o__law_hash := let ⟨_, D⟩ := F.d__law_hash; ck_of (ps := ["seed", "index"]) D F.g__law_hash (fun _ _ _ _ _ _ us hl => match us, hl with | [_, _], _ => rfl) (fnG_D D sc__law_hash fun cdv A outer s H E hr hg => d__law_hash M (oks M F n) (bx_ct hr hg sc__law_hash.nd))
      o__law_cell := let ⟨_, D⟩ := F.d__law_cell; ck_of (ps := ["script", "index"]) D F.g__law_cell (fun _ _ _ _ _ _ us hl => match us, hl with | [_, _], _ => rfl) (fnG_D D sc__law_cell fun cdv A outer s H E hr hg => d__law_cell M (oks M F n) (bx_ct hr hg sc__law_cell.nd))
      o__law_generator := let ⟨_, D⟩ := F.d__law_generator; ck_of (ps := ["script", "index"]) D F.g__law_generator (fun _ _ _ _ _ _ us hl => match us, hl with | [_, _], _ => rfl) (fnG_D D sc__law_generator fun cdv A outer s H E hr hg => d__law_generator M (oks M F n) (bx_ct hr hg sc__law_generator.nd))
      o__law_random := let ⟨_, D⟩ := F.d__law_random; ck_of (ps := ["generator", "bound"]) D F.g__law_random (fun _ _ _ _ _ _ us hl => match us, hl with | [_, _], _ => rfl) (fnG_D D sc__law_random fun cdv A outer s H E hr hg => d__law_random M (oks M F n) (bx_ct hr hg sc__law_random.nd))
      o__law_pick := let ⟨_, D⟩ := F.d__law_pick; ck_of (ps := ["generator", "things"]) D F.g__law_pick (fun _ _ _ _ _ _ us hl => match us, hl with | [_, _], _ => rfl) (fnG_D D sc__law_pick fun cdv A outer s H E hr hg => d__law_pick M (oks M F n) (bx_ct hr hg sc__law_pick.nd))
      o__law_copied := let ⟨_, D⟩ := F.d__law_copied; ck_of (ps := ["value"]) D F.g__law_copied (fun _ _ _ _ _ _ us hl => match us, hl with | [_], _ => rfl) (fnG_D D sc__law_copied fun cdv A outer s H E hr hg => d__law_copied M (oks M F n) (bx_ct hr hg sc__law_copied.nd))
      o__law_exact := let ⟨_, D⟩ := F.d__law_exact; ck_of (ps := ["told", "due"]) D F.g__law_exact (fun _ _ _ _ _ _ us hl => match us, hl with | [_, _], _ => rfl) (fnG_D D sc__law_exact fun cdv A outer s H E hr hg => d__law_exact M (oks M F n) (bx_ct hr hg sc__law_exact.nd))
      o__law_unlike := let ⟨_, D⟩ := F.d__law_unlike; ck_of (ps := ["items"]) D F.g__law_unlike (fun _ _ _ _ _ _ us hl => match us, hl with | [_], _ => rfl) (fnG_D D sc__law_unlike fun cdv A outer s H E hr hg => d__law_unlike M (oks M F n) (bx_ct hr hg sc__law_unlike.nd))
      o__law_low := let ⟨_, D⟩ := F.d__law_low; ck_of (ps := ["above", "below"]) D F.g__law_low (fun _ _ _ _ _ _ us hl => match us, hl with | [_, _], _ => rfl) (fnG_D D sc__law_low fun cdv A outer s H E hr hg => d__law_low M (oks M F n) (bx_ct hr hg sc__law_low.nd))
      o__law_any := let ⟨_, D⟩ := F.d__law_any; ck_of (ps := ["generator"]) D F.g__law_any (fun _ _ _ _ _ _ us hl => match us, hl with | [_], _ => rfl) (fnG_D D sc__law_any fun cdv A outer s H E hr hg => d__law_any M (oks M F n) (bx_ct hr hg sc__law_any.nd))
      o__law_big := let ⟨_, D⟩ := F.d__law_big; ck_of (ps := ["generator"]) D F.g__law_big (fun _ _ _ _ _ _ us hl => match us, hl with | [_], _ => rfl) (fnG_D D sc__law_big fun cdv A outer s H E hr hg => d__law_big M (oks M F n) (bx_ct hr hg sc__law_big.nd))
      o__law_name := let ⟨_, D⟩ := F.d__law_name; ck_of (ps := ["value"]) D F.g__law_name (fun _ _ _ _ _ _ us hl => match us, hl with | [_], _ => rfl) (fnG_D D sc__law_name fun cdv A outer s H E hr hg => d__law_name M (oks M F n) (bx_ct hr hg sc__law_name.nd))
      o__law_rise := let ⟨_, D⟩ := F.d__law_rise; ck_of (ps := ["items"]) D F.g__law_rise (fun _ _ _ _ _ _ us hl => match us, hl with | [_], _ => rfl) (fnG_D D sc__law_rise fun cdv A outer s H E hr hg => d__law_rise M (oks M F n) (bx_ct hr hg sc__law_rise.nd))
      o__law_string := let ⟨_, D⟩ := F.d__law_string; ck_of (ps := ["generator"]) D F.g__law_string (fun _ _ _ _ _ _ us hl => match us, hl with | [_], _ => rfl) (fnG_D D sc__law_string fun cdv A outer s H E hr hg => d__law_string M (oks M F n) (bx_ct hr hg sc__law_string.nd))
      o__law_numbers := let ⟨_, D⟩ := F.d__law_numbers; ck_of (ps := ["generator"]) D F.g__law_numbers (fun _ _ _ _ _ _ us hl => match us, hl with | [_], _ => rfl) (fnG_D D sc__law_numbers fun cdv A outer s H E hr hg => d__law_numbers M (oks M F n) (bx_ct hr hg sc__law_numbers.nd))
      o__law_judged := let ⟨_, D⟩ := F.d__law_judged; ck_of (ps := ["value"]) D F.g__law_judged (fun _ _ _ _ _ _ us hl => match us, hl with | [_], _ => rfl) (fnG_D D sc__law_judged fun cdv A outer s H E hr hg => d__law_judged M (oks M F n) (bx_ct hr hg sc__law_judged.nd))
      o__law_names_right := let ⟨_, D⟩ := F.d__law_names_right; ck_of (ps := ["script"]) D F.g__law_names_right (fun _ _ _ _ _ _ us hl => match us, hl with | [_], _ => rfl) (fnG_D D sc__law_names_right fun cdv A outer s H E hr hg => d__law_names_right M (oks M F n) (bx_ct hr hg sc__law_names_right.nd))
      o__law_drawn_pair := let ⟨_, D⟩ := F.d__law_drawn_pair; ck_of (ps := ["generator"]) D F.g__law_drawn_pair (fun _ _ _ _ _ _ us hl => match us, hl with | [_], _ => rfl) (fnG_D D sc__law_drawn_pair fun cdv A outer s H E hr hg => d__law_drawn_pair M (oks M F n) (bx_ct hr hg sc__law_drawn_pair.nd))
      o__law_fraction := let ⟨_, D⟩ := F.d__law_fraction; ck_of (ps := ["above", "below"]) D F.g__law_fraction (fun _ _ _ _ _ _ us hl => match us, hl with | [_, _], _ => rfl) (fnG_D D sc__law_fraction fun cdv A outer s H E hr hg => d__law_fraction M (oks M F n) (bx_ct hr hg sc__law_fraction.nd))
      o__law_is_fraction := let ⟨_, D⟩ := F.d__law_is_fraction; ck_of (ps := ["value"]) D F.g__law_is_fraction (fun _ _ _ _ _ _ us hl => match us, hl with | [_], _ => rfl) (fnG_D D sc__law_is_fraction fun cdv A outer s H E hr hg => d__law_is_fraction M (oks M F n) (bx_ct hr hg sc__law_is_fraction.nd))
      o__law_made_right := let ⟨_, D⟩ := F.d__law_made_right; ck_of (ps := ["generator"]) D F.g__law_made_right (fun _ _ _ _ _ _ us hl => match us, hl with | [_], _ => rfl) (fnG_D D sc__law_made_right fun cdv A outer s H E hr hg => d__law_made_right M (oks M F n) (bx_ct hr hg sc__law_made_right.nd))
      o__law_sums_right := let ⟨_, D⟩ := F.d__law_sums_right; ck_of (ps := ["generator"]) D F.g__law_sums_right (fun _ _ _ _ _ _ us hl => match us, hl with | [_], _ => rfl) (fnG_D D sc__law_sums_right fun cdv A outer s H E hr hg => d__law_sums_right M (oks M F n) (bx_ct hr hg sc__law_sums_right.nd))
      o__law_long_right := let ⟨_, D⟩ := F.d__law_long_right; ck_of (ps := ["generator"]) D F.g__law_long_right (fun _ _ _ _ _ _ us hl => match us, hl with | [_], _ => rfl) (fnG_D D sc__law_long_right fun cdv A outer s H E hr hg => d__law_long_right M (oks M F n) (bx_ct hr hg sc__law_long_right.nd))
      o__law_fractions_right := let ⟨_, D⟩ := F.d__law_fractions_right; ck_of (ps := ["script"]) D F.g__law_fractions_right (fun _ _ _ _ _ _ us hl => match us, hl with | [_], _ => rfl) (fnG_D D sc__law_fractions_right fun cdv A outer s H E hr hg => d__law_fractions_right M (oks M F n) (bx_ct hr hg sc__law_fractions_right.nd))
      o__law_call := let ⟨_, D⟩ := F.d__law_call; ck_of (ps := ["door", "other"]) D F.g__law_call (fun _ _ _ _ _ _ us hl => match us, hl with | [_, _], _ => rfl) (fnG_D D sc__law_call fun cdv A outer s H E hr hg => d__law_call M (oks M F n) (bx_ct hr hg sc__law_call.nd))
      o__law_right_call := let ⟨_, D⟩ := F.d__law_right_call; ck_of (ps := ["door", "other"]) D F.g__law_right_call (fun _ _ _ _ _ _ us hl => match us, hl with | [_, _], _ => rfl) (fnG_D D sc__law_right_call fun cdv A outer s H E hr hg => d__law_right_call M (oks M F n) (bx_ct hr hg sc__law_right_call.nd))
      o__law_caught := let ⟨_, D⟩ := F.d__law_caught; ck_of (ps := ["door", "other"]) D F.g__law_caught (fun _ _ _ _ _ _ us hl => match us, hl with | [_, _], _ => rfl) (fnG_D D sc__law_caught fun cdv A outer s H E hr hg => d__law_caught M (oks M F n) (bx_ct hr hg sc__law_caught.nd))
      o__law_alone := let ⟨_, D⟩ := F.d__law_alone; ck_of (ps := ["call", "odd"]) D F.g__law_alone (fun _ _ _ _ _ _ us hl => match us, hl with | [_, _], _ => rfl) (fnG_D D sc__law_alone fun cdv A outer s H E hr hg => d__law_alone M (oks M F n) (bx_ct hr hg sc__law_alone.nd))
      o__law_refusals_right := let ⟨_, D⟩ := F.d__law_refusals_right; ck_of (ps := ["script"]) D F.g__law_refusals_right (fun _ _ _ _ _ _ us hl => match us, hl with | [_], _ => rfl) (fnG_D D sc__law_refusals_right fun cdv A outer s H E hr hg => d__law_refusals_right M (oks M F n) (bx_ct hr hg sc__law_refusals_right.nd))
      k_fraction_of_below_above := let ⟨_, D⟩ := F.d_fraction_of; ckk_of (ps := ["above", "below"]) D F.g_fraction_of (fun _ _ _ _ _ _ us hl => match us, hl with | [_, _], _ => rfl) (fnG_D D sc_fraction_of fun cdv A outer s H E hr hg => d_fraction_of M (oks M F n) (bx_ct hr hg sc_fraction_of.nd))
      k_is_fraction_value := let ⟨_, D⟩ := F.d_is_fraction; ckk_of (ps := ["value"]) D F.g_is_fraction (fun _ _ _ _ _ _ us hl => match us, hl with | [_], _ => rfl) (fnG_D D sc_is_fraction fun cdv A outer s H E hr hg => d_is_fraction M (oks M F n) (bx_ct hr hg sc_is_fraction.nd))
      k_is_less_other_one := let ⟨_, D⟩ := F.d_is_less; ckk_of (ps := ["one", "other"]) D F.g_is_less (fun _ _ _ _ _ _ us hl => match us, hl with | [_, _], _ => rfl) (fnG_D D sc_is_less fun cdv A outer s H E hr hg => d_is_less M (oks M F n) (bx_ct hr hg sc_is_less.nd))
      k_is_name_value := let ⟨_, D⟩ := F.d_is_name; ckk_of (ps := ["value"]) D F.g_is_name (fun _ _ _ _ _ _ us hl => match us, hl with | [_], _ => rfl) (fnG_D D sc_is_name fun cdv A outer s H E hr hg => d_is_name M (oks M F n) (bx_ct hr hg sc_is_name.nd))
      k_is_names_value := let ⟨_, D⟩ := F.d_is_names; ckk_of (ps := ["value"]) D F.g_is_names (fun _ _ _ _ _ _ us hl => match us, hl with | [_], _ => rfl) (fnG_D D sc_is_names fun cdv A outer s H E hr hg => d_is_names M (oks M F n) (bx_ct hr hg sc_is_names.nd))
      k_product_of_fractions := let ⟨_, D⟩ := F.d_product_of; ckk_of (ps := ["fractions"]) D F.g_product_of (fun _ _ _ _ _ _ us hl => match us, hl with | [_], _ => rfl) (fnG_D D sc_product_of fun cdv A outer s H E hr hg => d_product_of M (oks M F n) (bx_ct hr hg sc_product_of.nd))
      k_sum_of_fractions := let ⟨_, D⟩ := F.d_sum_of; ckk_of (ps := ["fractions"]) D F.g_sum_of (fun _ _ _ _ _ _ us hl => match us, hl with | [_], _ => rfl) (fnG_D D sc_sum_of fun cdv A outer s H E hr hg => d_sum_of M (oks M F n) (bx_ct hr hg sc_sum_of.nd)) }
end
abbrev R : PySem.W.OpenRow := PySem.W.OpenLaw.row PySem.Challenge.rw_reasonhouse_k02_names_fractions_and_refu
abbrev hk : PySem.W.Hook := hookP PR 5 fa fn ts ex iv
def ob (s : PySem.W.SharedT) : AlP := obsPG PR 5 fa fn ts ex (HandSHeadRun.getT s)
theorem ob_eq (s : PySem.W.SharedT) : ob s = hk.obs s.abs := obsPG_eq (HandSHeadRun.getT_eq s)
def loose : List PySem.Str := (["ReasonError", "InvalidNumber", "InvalidFraction", "InvalidList", "is_whole", "is_signs", "is_name", "ascends", "is_names", "check_list", "common_of", "is_fraction", "check_fraction", "lowest_of", "fraction_of", "plus_of", "times_of", "less_than", "check_fractions", "sum_of", "product_of", "is_less", "_law_hash", "_law_cell", "_law_generator", "_law_random", "_law_pick", "_law_copied", "_law_exact", "_law_unlike"] : List PySem.Str) ++ (["_law_low", "_law_any", "_law_big", "_law_name", "_law_rise", "_law_string", "_law_numbers", "_law_judged", "_law_names_right", "_law_drawn_pair", "_law_fraction", "_law_is_fraction", "_law_made_right", "_law_sums_right", "_law_long_right", "_law_fractions_right", "_law_call", "_law_right_call", "_law_caught", "_law_alone", "_law_refusals_right", "SMALL", "FIGURES", "MOST_NAME"] : List PySem.Str)
theorem run (w : World) : HandSHeadRun.RunEq R (PySem.W.view R.prog [58]) hk ob 3000 loose w :=
  PySem.W.byRow2 "special-get-raises" (P := fun w => HandSHeadRun.RunEq R (PySem.W.view R.prog [58]) hk ob 3000 loose w) (fun w os => by kernel_rfl) (fun w os => by kernel_rfl) w
end K02
open PySem PySem.W PySem.Calls PyProof.Rows
theorem K02.holds (LV : Nat) (hLV : LV + 1 ≤ 200) (hsp : ∀ ns : List Int, ns.length ≤ 63 → ∃ t S, K02.sem (LV + 1) 47 [.py (.list (ns.map PyData.int))] [] = some (.val t (.py (.bool true)) S)) : PySem.Challenge.rw_reasonhouse_k02_names_fractions_and_refu.Holds := by
  w_on; o_law
  refine HandSHeadRun.head_any (r := OpenLaw.row PySem.Challenge.rw_reasonhouse_k02_names_fractions_and_refu) (q := view (OpenLaw.row PySem.Challenge.rw_reasonhouse_k02_names_fractions_and_refu).prog [58]) (H := K02.hk) (ob := K02.ob) (M := 3000) (loose := K02.loose) (d := HandSHeadRun.topDef (OpenLaw.row PySem.Challenge.rw_reasonhouse_k02_names_fractions_and_refu).prog 58) (kwd := []) K02.ob_eq
    (by kernel_rfl) (fun s => by kernel_rfl) K02.run (by kernel_rfl) (by kernel_rfl) (by kernel_rfl) (by rfl) (by first | assumption | decide +kernel) (by decide +kernel) ⟨rfl, rfl, rfl, rfl, rfl, by decide +kernel⟩ ?hw ?hc
  case hw => w_witness2
  case hc =>
    refine PP.walk_ofGE (l := PySem.Challenge.rw_reasonhouse_k02_names_fractions_and_refu) (n := 63) (k := LV + 1) (x := "script") rfl (by decide) (by kernel_rfl) ((⟨rfl, by decide, by decide⟩ : L2.Room 200 callerA).mono hLV) rfl ?F
    intro w mg fa h Y G hmg0
    obtain ⟨K, KX, c⟩ := Y
    have hmg : mg ("law" : PySem.Str) = some (.ref fa) := by
      have e : (HandSHeadRun.topDef (OpenLaw.row PySem.Challenge.rw_reasonhouse_k02_names_fractions_and_refu).prog 58).name = ("law" : PySem.Str) := by kernel_rfl
      rw [← e]
      exact hmg0
    have M := K02.mf KX G c
    have F := K02.fns KX G c
    obtain ⟨fd, D⟩ := F.d_law
    have e := hmg.symm.trans F.g_law
    cases e
    refine ⟨K, fd, K02.sem (LV + 1) 47, KX, fun s u => ?_, fun base _ _ => PP.fnG_D D K02.sc_law fun cdv A outer s H E hr hg => K02.d_law M (K02.oks M F LV) (PP.bx_ct hr hg K02.sc_law.nd), hsp⟩
    exact D.bindsA (ps := ["script"]) (fun _ _ _ _ _ _ us hl => match us, hl with | [_], _ => rfl) s [u] rfl
theorem PySem.Challenge.cw_reasonhouse_k02_names_fractions_and_refu_holds : PySem.Challenge.rw_reasonhouse_k02_names_fractions_and_refu.Holds := by
  exact K02.holds 100 (by decide) fun ns _ => K02.law_true2 ns
