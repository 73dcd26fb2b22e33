import PyProof.Rows.All
import Wide.All
import OpenK.AllK
import Wide.FinOn
import HandS.ForMost
import HandS.ForExc
import KE.DataEq
import KE.DataAny
import KE.DataIsa
import KE.SortData
import HandS.IsInst
import HandS.Iter
import HandS.TupAny
import HandS.Wide
import HandS.WideBits
import HandS.Text
import HandS.More
import HandS.Zip
import HandS.ForList
import HandS.Comp
import HandS.List
import HandS.Ends
import KE.RegKSuper
import KE.KExcSuper
import HandS.Exc
import HandS.ExcSuper
import HandS.ExcIs
import KE.LtSeq
import HandS.HeadHook2
import HandS.Defaults
import HandS.Head0
import HandS.Head1
import HandS.Head2
import HandS.HeadEnd
import HandS.HeadHook1
import HandS.HeadHook3
import HandS.Words
import PySem.Challenge.RW_reasonhouse_k30_whole_signs_handed_on
set_option Elab.async false
set_option linter.all false
set_option maxRecDepth 100000
set_option maxHeartbeats 4000000
namespace PP
open PySem L2

/-! ## the plain semantics -/
inductive Vl where
  | py (d : PyData)
  | fn (f : Str)
  | err (c : Str) (d : PyData)
  | box (k : Nat)
/-- how a value's object stands: shut for good, new and nobody's, the object of a name of ours -/
inductive Tg where
  | pure | fresh | mine
inductive Slot where
  | un
  | p (v : Vl)
  | own (d : PyData)
abbrev Sl := List Slot
abbrev SS := List PyData
inductive ER where
  | val (t : Tg) (v : Vl) (S : SS)
  | exn (c : Str) (d : PyData) (S : SS)
inductive AR where
  | vals (xs : List (Tg × Vl)) (S : SS)
  | exn (c : Str) (d : PyData) (S : SS)
inductive TR where
  | tb (b : Bool) (S : SS)
  | exn (c : Str) (d : PyData) (S : SS)
inductive SR where
  | nx (sl : Sl) (S : SS)
  | rt (t : Tg) (v : Vl) (S : SS)
  | bk (sl : Sl) (S : SS)
  | ct (sl : Sl) (S : SS)
  | exn (c : Str) (d : PyData) (sl : Sl) (S : SS)
abbrev FE := Sl → SS → Option ER
abbrev FA := Sl → SS → Option AR
abbrev FT := Sl → SS → Option TR
abbrev FS := Sl → SS → Option SR

/-- what stands there now -/
def cont (S : SS) : Vl → Option PyData
  | .py d => some d
  | .box k => S[k]?
  | _ => none

/-! ## what is held of it in the heap -/
/-- a list that nobody changes: shut, or an object of the module's -/
def FzK (K : PySem.W.Frag) (H : Hp) (p : Addr) (vs : List V) : Prop :=
  (∃ o, H p = some (.frz o (.lst vs))) ∨
    ∃ (o : Obj) (its : Array Value) (n : Nat), K.lookup p = some o ∧ o.cls = .type "list" ∧ o.dict = none ∧ o.data = .seq its n ∧ its.size ≤ sizeLine ∧ Vals vs its.toList
theorem FzK.sq {K : PySem.W.Frag} {H : Hp} {p : Addr} {vs : List V} (h : FzK K H p vs) : SqL K H p vs := by
  rcases h with h | h
  · exact .inl (.inr h)
  · exact .inr h
section
variable (K : PySem.W.Frag) (H : Hp)
mutual
/-- data that nobody changes any more -/
def Rp : PyData → V → Prop
  | .none, v => v = .non
  | .bool b, v => v = .bl b
  | .int i, v => v = .int i
  | .str s, v => v = .str s
  | .list ds, v => ∃ p vs, v = .ref p ∧ FzK K H p vs ∧ Rps ds vs
  | .tuple ds, v => ∃ p vs, v = .ref p ∧ SqT K H p vs ∧ Rps ds vs
  | .dict kvs, v => ∃ p o ks, v = .ref p ∧ H p = some (.frz o (.dK ks)) ∧ Rpk kvs ks
def Rps : List PyData → List V → Prop
  | [], vs => vs = []
  | d :: ds, vs => ∃ v r, vs = v :: r ∧ Rp d v ∧ Rps ds r
def Rpk : List (PyData × PyData) → List (Key × V) → Prop
  | [], ks => ks = []
  | (a, b) :: r, ks => ∃ k v t, ks = (k, v) :: t ∧ Rp a (kV k) ∧ Rp b v ∧ Rpk r t
end
end

/-! ### what stays -/
/-- an object that may be changed by somebody -/
def Mu : HO → Bool
  | .lst _ => true
  | .dK _ => true
  | _ => false
/-- all that nobody changes stands -/
def Fz (H H' : Hp) : Prop := ∀ a o, H a = some o → Mu o = false → H' a = some o
theorem Fz.refl (H : Hp) : Fz H H := fun _ _ h _ => h
theorem Fz.trans {H H1 H2 : Hp} (a : Fz H H1) (b : Fz H1 H2) : Fz H H2 := fun x o h m => b x o (a x o h m) m
theorem FzK.mono {K : PySem.W.Frag} {H H' : Hp} {p : Addr} {vs : List V} (z : Fz H H') (h : FzK K H p vs) : FzK K H' p vs := by
  rcases h with ⟨o, h⟩ | h
  · exact .inl ⟨o, z _ _ h rfl⟩
  · exact .inr h
theorem sqT_mono {K : PySem.W.Frag} {H H' : Hp} {p : Addr} {vs : List V} (z : Fz H H') (h : SqT K H p vs) : SqT K H' p vs := by
  rcases h with (h | ⟨o, h⟩) | h
  · exact .inl (.inl (z _ _ h rfl))
  · exact .inl (.inr ⟨o, z _ _ h rfl⟩)
  · exact .inr h
section
variable {K : PySem.W.Frag} {H H' : Hp}
mutual
theorem Rp.mono (z : Fz H H') : ∀ (d : PyData) {v : V}, Rp K H d v → Rp K H' d v
  | .none, _, h => h
  | .bool _, _, h => h
  | .int _, _, h => h
  | .str _, _, h => h
  | .list ds, _, ⟨p, vs, e, q, r⟩ => ⟨p, vs, e, q.mono z, Rps.mono z ds r⟩
  | .tuple ds, _, ⟨p, vs, e, q, r⟩ => ⟨p, vs, e, sqT_mono z q, Rps.mono z ds r⟩
  | .dict kvs, _, ⟨p, o, ks, e, q, r⟩ => ⟨p, o, ks, e, z _ _ q rfl, Rpk.mono z kvs r⟩
theorem Rps.mono (z : Fz H H') : ∀ (ds : List PyData) {vs : List V}, Rps K H ds vs → Rps K H' ds vs
  | [], _, h => h
  | d :: ds, _, ⟨v, r, e, a, b⟩ => ⟨v, r, e, Rp.mono z d a, Rps.mono z ds b⟩
theorem Rpk.mono (z : Fz H H') : ∀ (kvs : List (PyData × PyData)) {ks : List (Key × V)}, Rpk K H kvs ks → Rpk K H' kvs ks
  | [], _, h => h
  | (a, b) :: r, _, ⟨k, v, t, e, h1, h2, h3⟩ => ⟨k, v, t, e, Rp.mono z a h1, Rp.mono z b h2, Rpk.mono z r h3⟩
end
theorem Rps.len : ∀ {ds : List PyData} {vs : List V}, Rps K H ds vs → vs.length = ds.length
  | [], _, h => by cases h; rfl
  | d :: ds, _, ⟨v, r, e, _, b⟩ => by subst e; exact congrArg (· + 1) (Rps.len b)
theorem Rps.get : ∀ {ds : List PyData} {vs : List V} {i : Nat} {d : PyData}, Rps K H ds vs → ds[i]? = some d → ∃ v, vs[i]? = some v ∧ Rp K H d v
  | d :: ds, _, 0, _, ⟨v, r, e, a, _⟩, h => by subst e; cases h; exact ⟨v, rfl, a⟩
  | d :: ds, _, i + 1, _, ⟨v, r, e, _, b⟩, h => by subst e; exact Rps.get (i := i) b h
theorem Rps.get' : ∀ {ds : List PyData} {vs : List V} {i : Nat} {v : V}, Rps K H ds vs → vs[i]? = some v → ∃ d, ds[i]? = some d ∧ Rp K H d v
  | [], _, _, _, h, g => by cases h; cases g
  | d :: ds, _, 0, _, ⟨v, r, e, a, _⟩, h => by subst e; cases h; exact ⟨d, rfl, a⟩
  | d :: ds, _, i + 1, _, ⟨v, r, e, _, b⟩, h => by subst e; exact Rps.get' (i := i) b h
theorem Rps.app : ∀ {ds es : List PyData} {vs us : List V}, Rps K H ds vs → Rps K H es us → Rps K H (ds ++ es) (vs ++ us)
  | [], _, _, _, h, g => by cases h; exact g
  | d :: ds, _, _, _, ⟨v, r, e, a, b⟩, g => by subst e; exact ⟨v, _, rfl, a, Rps.app b g⟩
theorem Rps.take : ∀ (n : Nat) {ds : List PyData} {vs : List V}, Rps K H ds vs → Rps K H (ds.take n) (vs.take n)
  | 0, _, _, _ => rfl
  | n + 1, [], _, h => by cases h; rfl
  | n + 1, d :: ds, _, ⟨v, r, e, a, b⟩ => by subst e; exact ⟨v, _, rfl, a, Rps.take n b⟩
theorem Rps.drop : ∀ (n : Nat) {ds : List PyData} {vs : List V}, Rps K H ds vs → Rps K H (ds.drop n) (vs.drop n)
  | 0, _, _, h => h
  | n + 1, [], _, h => by cases h; rfl
  | n + 1, d :: ds, _, ⟨v, r, e, a, b⟩ => by subst e; exact Rps.drop n b
theorem Rps.set : ∀ (n : Nat) {ds : List PyData} {vs : List V} {d : PyData} {v : V}, Rps K H ds vs → Rp K H d v → Rps K H (ds.set n d) (vs.set n v)
  | _, [], _, _, _, h, _ => by cases h; rfl
  | 0, d :: ds, _, _, _, ⟨v, r, e, a, b⟩, g => by subst e; exact ⟨_, _, rfl, g, b⟩
  | n + 1, d :: ds, _, _, _, ⟨v, r, e, a, b⟩, g => by subst e; exact ⟨_, _, rfl, a, Rps.set n b g⟩
end
end PP
set_option Elab.async false
set_option linter.all false
set_option maxRecDepth 100000
set_option maxHeartbeats 4000000
namespace PP
open PySem L2
/-! ## a thing that may be read now (its own object may be a list or dict of ours, what lies within is shut) -/
def Sh (K : PySem.W.Frag) (H : Hp) : PyData → V → Prop
  | .list ds, v => ∃ p vs, v = .ref p ∧ SqL K H p vs ∧ Rps K H ds vs
  | .dict kvs, v => ∃ p ks, v = .ref p ∧ Rd H p (.dK ks) ∧ Rpk K H kvs ks
  | d, v => Rp K H d v
/-- an object of ours at p -/
def Own1 (K : PySem.W.Frag) (H : Hp) (p : Addr) : PyData → Prop
  | .list ds => ∃ vs, H p = some (.lst vs) ∧ Rps K H ds vs
  | .dict kvs => ∃ ks, H p = some (.dK ks) ∧ Rpk K H kvs ks
  | _ => False
section
variable {K : PySem.W.Frag} {H H' : Hp}
theorem Rp.sh : ∀ {d : PyData} {v : V}, Rp K H d v → Sh K H d v
  | .none, _, h => h
  | .bool _, _, h => h
  | .int _, _, h => h
  | .str _, _, h => h
  | .tuple _, _, h => h
  | .list _, _, ⟨p, vs, e, q, r⟩ => ⟨p, vs, e, q.sq, r⟩
  | .dict _, _, ⟨p, o, ks, e, q, r⟩ => ⟨p, ks, e, .inr ⟨o, q⟩, r⟩
theorem Own1.sh : ∀ {d : PyData} {p : Addr}, Own1 K H p d → Sh K H d (.ref p)
  | .list _, p, ⟨vs, e, r⟩ => ⟨p, vs, rfl, .inl (.inl e), r⟩
  | .dict _, p, ⟨ks, e, r⟩ => ⟨p, ks, rfl, .inl e, r⟩
  | .none, _, h => h.elim
  | .bool _, _, h => h.elim
  | .int _, _, h => h.elim
  | .str _, _, h => h.elim
  | .tuple _, _, h => h.elim
theorem Own1.mono (z : Fz H H') : ∀ {d : PyData} {p : Addr}, H' p = H p → Own1 K H p d → Own1 K H' p d
  | .list _, p, e, ⟨vs, h, r⟩ => ⟨vs, e.trans h, Rps.mono z _ r⟩
  | .dict _, p, e, ⟨ks, h, r⟩ => ⟨ks, e.trans h, Rpk.mono z _ r⟩
  | .none, _, _, h => h.elim
  | .bool _, _, _, h => h.elim
  | .int _, _, _, h => h.elim
  | .str _, _, _, h => h.elim
  | .tuple _, _, _, h => h.elim
theorem Own1.mu : ∀ {d : PyData} {p : Addr}, Own1 K H p d → ∃ o, H p = some o ∧ Mu o = true
  | .list _, p, ⟨vs, e, r⟩ => ⟨_, e, rfl⟩
  | .dict _, p, ⟨ks, e, r⟩ => ⟨_, e, rfl⟩
  | .none, _, h => h.elim
  | .bool _, _, h => h.elim
  | .int _, _, h => h.elim
  | .str _, _, h => h.elim
  | .tuple _, _, h => h.elim
end

/-! ## .. as the library's relation of values and data -/
section
variable {P : Program} {w : World} {K : PySem.W.Frag} {H : Hp} {h : Heap}
theorem ra_nil : ReadsAll h [] [] [] := .nil
mutual
theorem Rp.reads (ok : HOk P w H h) (kin : K.In h) : ∀ (d : PyData) {v : V} {u : Value}, Rp K H d v → RelV v u → ∃ as, Reads h u d as
  | .none, _, _, e, r => by cases e; cases r; exact ⟨_, .none⟩
  | .bool b, _, _, e, r => by cases e; cases r; exact ⟨_, .bool b⟩
  | .int i, _, _, e, r => by cases e; obtain ⟨t, rfl⟩ := r; exact ⟨_, .int i t⟩
  | .str s, _, _, e, r => by cases e; obtain ⟨t, rfl⟩ := r; exact ⟨_, .str s t⟩
  | .list ds, _, _, ⟨p, vs, e, q, rs⟩, r => by
    subst e
    cases r
    rcases q with ⟨o, q⟩ | ⟨o, its, n, hk, hc, hd, hs, hz, rv⟩
    · obtain ⟨_, its, n, rv, e2⟩ := (ok p _ q).2
      obtain ⟨as, ra⟩ := Rps.reads ok kin ds rs rv
      exact ⟨_, .list (vs := its.toArray) e2 rfl rfl (by simpa using ra)⟩
    · obtain ⟨as, ra⟩ := Rps.reads ok kin ds rs rv
      exact ⟨_, .list (kin p o hk) hc hs ra⟩
  | .tuple ds, _, _, ⟨p, vs, e, q, rs⟩, r => by
    subst e
    cases r
    rcases q with q | ⟨o, its, n, hk, hc, hs, hz, rv⟩
    · obtain ⟨_, its, rv, o, e1, e2, n, e3⟩ := (q.ok ok)
      obtain ⟨as, ra⟩ := Rps.reads ok kin ds rs rv
      exact ⟨_, .tuple (vs := its.toArray) e1 e2 e3 (by simpa using ra)⟩
    · obtain ⟨as, ra⟩ := Rps.reads ok kin ds rs rv
      exact ⟨_, .tuple (kin p o hk) hc hs ra⟩
  | .dict kvs, _, _, ⟨p, o, ks, e, q, rs⟩, r => by
    subst e
    cases r
    obtain ⟨_, _, vs, kv, o, es, ep, e1, e2, e3, e4, e5, _⟩ := (ok p _ q).2
    obtain ⟨as, bs, ra, rb⟩ := Rpk.reads ok kin kvs rs kv e5
    exact ⟨_, .dict e1 e2.1 e3 ra rb⟩
theorem Rps.reads (ok : HOk P w H h) (kin : K.In h) : ∀ (ds : List PyData) {vs : List V} {us : List Value}, Rps K H ds vs → Vals vs us → ∃ as, ReadsAll h us ds as
  | [], _, _, e, r => by cases e; cases r; exact ⟨_, .nil⟩
  | d :: ds, _, _, ⟨v, t, e, a, b⟩, r => by
    subst e
    cases r with
    | cons r1 r2 =>
      obtain ⟨as, x⟩ := Rp.reads ok kin d a r1
      obtain ⟨bs, y⟩ := Rps.reads ok kin ds b r2
      exact ⟨_, .cons x y⟩
theorem Rpk.reads (ok : HOk P w H h) (kin : K.In h) : ∀ (kvs : List (PyData × PyData)) {ks : List (Key × V)} {ws : List (Key × Value)} {es : List DictEntry}, Rpk K H kvs ks → KV ks ws → Pairs (mixKind P w) es ws →
    ∃ as bs, ReadsAll h (es.map (·.key)) (kvs.map (·.1)) as ∧ ReadsAll h (es.map (·.val)) (kvs.map (·.2)) bs
  | [], _, _, _, e, r, q => by cases e; cases r; cases q; exact ⟨_, _, .nil, .nil⟩
  | (a, b) :: r, _, _, _, ⟨k, v, t, e, h1, h2, h3⟩, rr, q => by
    subst e
    cases rr with
    | cons r1 r2 =>
      cases q with
      | cons q1 q2 q3 =>
        obtain ⟨e1, rv⟩ := r1
        obtain ⟨as, bs, x, y⟩ := Rpk.reads ok kin r h3 r2 q3
        obtain ⟨cs, x1⟩ := Rp.reads ok kin a h1 (by
          have := relV_key (k := _) q1
          rw [← e1] at this
          exact this)
        obtain ⟨dd, y1⟩ := Rp.reads ok kin b h2 (Eq.mpr (congrArg (RelV v) q2) rv)
        exact ⟨_, _, .cons x1 x, .cons y1 y⟩
end
theorem Sh.reads (ok : HOk P w H h) (kin : K.In h) : ∀ (d : PyData) {v : V} {u : Value}, Sh K H d v → RelV v u → ∃ as, Reads h u d as
  | .none, _, _, e, r => Rp.reads ok kin .none e r
  | .bool b, _, _, e, r => Rp.reads ok kin (.bool b) e r
  | .int i, _, _, e, r => Rp.reads ok kin (.int i) e r
  | .str s, _, _, e, r => Rp.reads ok kin (.str s) e r
  | .tuple ds, _, _, e, r => Rp.reads ok kin (.tuple ds) e r
  | .list ds, _, _, ⟨p, vs, e, q, rs⟩, r => by
    subst e
    cases r
    rcases q with q | ⟨o, its, n, hk, hc, hd, hs, hz, rv⟩
    · obtain ⟨_, its, n, rv, e2⟩ := q.ok ok
      obtain ⟨as, ra⟩ := Rps.reads ok kin ds rs rv
      exact ⟨_, .list (vs := its.toArray) e2 rfl rfl (by simpa using ra)⟩
    · obtain ⟨as, ra⟩ := Rps.reads ok kin ds rs rv
      exact ⟨_, .list (kin p o hk) hc hs ra⟩
  | .dict kvs, _, _, ⟨p, ks, e, q, rs⟩, r => by
    subst e
    cases r
    obtain ⟨_, _, vs, kv, o, es, ep, e1, e2, e3, e4, e5, _⟩ := q.ok ok
    obtain ⟨as, bs, ra, rb⟩ := Rpk.reads ok kin kvs rs kv e5
    exact ⟨_, .dict e1 e2.1 e3 ra rb⟩
end
end PP
set_option Elab.async false
set_option linter.all false
set_option maxRecDepth 100000
set_option maxHeartbeats 4000000
namespace PP
open PySem L2
/-! ## a state of ours and the machine's -/
/-- an error that is held: its object, its dict -/
def ErrAt (K : PySem.W.Frag) (mg : Str → Option Value) (H : Hp) (c : Str) (d : PyData) (u : V) : Prop :=
  ∃ (a C dx : Addr) (oe : Obj) (fs : List (Str × V)) (vv : V), u = .ref a ∧ mg c = some (.ref C) ∧ oe.cls = .ref C ∧ oe.dict = some dx ∧ (∃ ws, oe.data = .fields ws) ∧
    H a = some (.ext (fun h => h.get? a = some oe)) ∧ H dx = some (.xd fs) ∧ fs.lookup ("value" : Str) = some vv ∧ Rp K H d vv
def RpV (K : PySem.W.Frag) (mg : Str → Option Value) (H : Hp) (φ : List Addr) : Vl → V → Prop
  | .py d, u => Rp K H d u
  | .fn f, u => ∃ a, u = .ref a ∧ mg f = some (.ref a)
  | .err c d, u => ErrAt K mg H c d u
  | .box k, u => ∃ a, φ[k]? = some a ∧ u = .ref a
def RelS (K : PySem.W.Frag) (mg : Str → Option Value) (H0 H : Hp) (φ : List Addr) (x : Option (Option V)) : Slot → Prop
  | .un => True
  | .p v => ∃ u, x = some (some u) ∧ RpV K mg H φ v u
  | .own d => ∃ p, x = some (some (.ref p)) ∧ Own1 K H p d ∧ H0 p = none ∧ p ∉ φ
structure Rel (K : PySem.W.Frag) (mg : Str → Option Value) (H0 : Hp) (φ0 φ : List Addr) (σ : L2.St) (H : Hp) (sl : Sl) (S : SS) : Prop where
  len : σ.length = sl.length
  slots : ∀ (i : Nat) (s : Slot), sl[i]? = some s → RelS K mg H0 H φ σ[i]? s
  dist : ∀ (i j : Nat) (p q : Addr) (d d' : PyData), i ≠ j → sl[i]? = some (.own d) → sl[j]? = some (.own d') → σ[i]? = some (some (.ref p)) → σ[j]? = some (some (.ref q)) → p ≠ q
  blen : φ.length = S.length
  box : ∀ (k : Nat) (a : Addr) (d : PyData), φ[k]? = some a → S[k]? = some d → Own1 K H a d
  nd : φ.Nodup
  pre : ∃ ψ, φ = φ0 ++ ψ
  new : ∀ a, a ∈ φ → a ∉ φ0 → H0 a = none
  keep : ∀ a o, H0 a = some o → a ∉ φ0 → H a = some o
/-- a step of an expression: all stands but the boxes, some boxes are new -/
structure Le (φ : List Addr) (H : Hp) (φ' : List Addr) (H' : Hp) : Prop where
  keep : ∀ a o, H a = some o → a ∉ φ → H' a = some o
  pre : ∃ ψ, φ' = φ ++ ψ
  new : ∀ a, a ∈ φ' → a ∉ φ → H a = none
  fz : Fz H H'
/-- all stands -/
def Ext (H H' : Hp) : Prop := ∀ a o, H a = some o → H' a = some o
theorem Ext.refl (H : Hp) : Ext H H := fun _ _ h => h
theorem Ext.trans {H H1 H2 : Hp} (a : Ext H H1) (b : Ext H1 H2) : Ext H H2 := fun x o h => b x o (a x o h)
theorem Ext.fz {H H' : Hp} (e : Ext H H') : Fz H H' := fun a o h _ => e a o h
theorem Ext.new {H : Hp} {p : Addr} {o : HO} (h : H p = none) : Ext H (upd H p o) := fun a u e => by
  rw [upd_ne (ne_of_none e h)]
  exact e
theorem Ext.le {φ : List Addr} {H H' : Hp} (e : Ext H H') : Le φ H φ H' := ⟨fun a o h _ => e a o h, ⟨[], by simp⟩, fun a h g => absurd h g, e.fz⟩
theorem Le.refl (φ : List Addr) (H : Hp) : Le φ H φ H := (Ext.refl H).le
theorem Le.trans {φ φ1 φ2 : List Addr} {H H1 H2 : Hp} (a : Le φ H φ1 H1) (b : Le φ1 H1 φ2 H2) : Le φ H φ2 H2 := by
  obtain ⟨ψ, e1⟩ := a.pre
  obtain ⟨ψ', e2⟩ := b.pre
  refine ⟨fun x o h n => ?_, ⟨ψ ++ ψ', by rw [e2, e1, List.append_assoc]⟩, fun x h n => ?_, a.fz.trans b.fz⟩
  · refine b.keep x o (a.keep x o h n) fun z => ?_
    have := a.new x z n
    rw [h] at this
    cases this
  · by_cases z : x ∈ φ1
    · exact a.new x z n
    · have q := b.new x h z
      cases g : H x with
      | none => rfl
      | some o =>
        rw [a.keep x o g n] at q
        cases q
section
variable {K : PySem.W.Frag} {mg : Str → Option Value} {H0 H H' : Hp} {φ0 φ φ' : List Addr} {σ : L2.St} {sl : Sl} {S S' : SS}
theorem ErrAt.mono (z : Fz H H') {c : Str} {d : PyData} {u : V} : ErrAt K mg H c d u → ErrAt K mg H' c d u
  | ⟨a, C, dx, oe, fs, vv, e, m, c1, c2, c3, c4, c5, c6, r⟩ => ⟨a, C, dx, oe, fs, vv, e, m, c1, c2, c3, z _ _ c4 rfl, z _ _ c5 rfl, c6, r.mono z⟩
theorem RpV.mono (z : Fz H H') (e : ∃ ψ, φ' = φ ++ ψ) : ∀ {v : Vl} {u : V}, RpV K mg H φ v u → RpV K mg H' φ' v u
  | .py d, _, h => Rp.mono z d h
  | .fn _, _, h => h
  | .err _ _, _, h => ErrAt.mono z h
  | .box k, _, ⟨a, h, q⟩ => by
    obtain ⟨ψ, rfl⟩ := e
    refine ⟨a, ?_, q⟩
    rw [List.getElem?_append_left (List.getElem?_eq_some_iff.mp h).1]
    exact h
theorem Rel.boxMu (R : Rel K mg H0 φ0 φ σ H sl S) {a : Addr} (h : a ∈ φ) : ∃ o, H a = some o ∧ Mu o = true := by
  obtain ⟨k, hk⟩ := List.getElem?_of_mem h
  have hl : k < S.length := by rw [← R.blen]; exact (List.getElem?_eq_some_iff.mp hk).1
  exact (R.box k a S[k] hk (List.getElem?_eq_getElem hl)).mu
theorem Rel.notBox (R : Rel K mg H0 φ0 φ σ H sl S) {a : Addr} (h : H a = none) : a ∉ φ := fun z => by
  obtain ⟨o, e, _⟩ := R.boxMu z
  rw [h] at e
  cases e
theorem Rel.fresh0 (R : Rel K mg H0 φ0 φ σ H sl S) {a : Addr} (h : H a = none) : H0 a = none := by
  cases e : H0 a with
  | none => rfl
  | some o =>
    by_cases z : a ∈ φ0
    · obtain ⟨ψ, q⟩ := R.pre
      exact absurd (by rw [q]; exact List.mem_append_left _ z) (R.notBox h)
    · rw [R.keep a o e z] at h
      cases h
/-- what a step of an expression leaves -/
theorem Rel.le (R : Rel K mg H0 φ0 φ σ H sl S) (l : Le φ H φ' H') (bl : φ'.length = S'.length) (nd : φ'.Nodup) (bx : ∀ (k : Nat) (a : Addr) (d : PyData), φ'[k]? = some a → S'[k]? = some d → Own1 K H' a d) : Rel K mg H0 φ0 φ' σ H' sl S' := by
  obtain ⟨ψ, e⟩ := l.pre
  refine ⟨R.len, fun i s h => ?_, R.dist, bl, bx, nd, ?_, fun a h n => ?_, fun a o h n => ?_⟩
  · have q := R.slots i s h
    cases s with
    | un => trivial
    | p v => obtain ⟨u, e1, e2⟩ := q; exact ⟨u, e1, e2.mono l.fz l.pre⟩
    | own d =>
      obtain ⟨p, e1, e2, e3, e4⟩ := q
      obtain ⟨o, eo, _⟩ := e2.mu
      have k := l.keep p o eo e4
      refine ⟨p, e1, e2.mono l.fz (k.trans eo.symm), e3, fun z => ?_⟩
      have := l.new p z e4
      rw [eo] at this
      cases this
  · obtain ⟨ψ', e'⟩ := R.pre
    exact ⟨ψ' ++ ψ, by rw [e, e', List.append_assoc]⟩
  · by_cases z : a ∈ φ
    · exact R.new a z n
    · exact R.fresh0 (l.new a h z)
  · by_cases z : a ∈ φ
    · have q := R.new a z n
      rw [h] at q
      cases q
    · exact l.keep a o (R.keep a o h n) z
theorem Rel.ext (R : Rel K mg H0 φ0 φ σ H sl S) (e : Ext H H') : Rel K mg H0 φ0 φ σ H' sl S :=
  R.le e.le R.blen R.nd fun k a d h g => by
    have q := R.box k a d h g
    obtain ⟨o, eo, _⟩ := q.mu
    exact q.mono e.fz ((e _ _ eo).trans eo.symm)
/-! ### values -/
def RV (K : PySem.W.Frag) (mg : Str → Option Value) (H0 H : Hp) (φ : List Addr) (σ : L2.St) (sl : Sl) : Tg → Vl → V → Prop
  | .pure, v, u => RpV K mg H φ v u
  | .fresh, .py d, u => ∃ p, u = .ref p ∧ Own1 K H p d ∧ H0 p = none ∧ p ∉ φ ∧ ∀ (i : Nat) (d' : PyData), sl[i]? = some (.own d') → σ[i]? ≠ some (some (.ref p))
  | .mine, .py d, u => ∃ p, u = .ref p ∧ Own1 K H p d ∧ H0 p = none ∧ p ∉ φ
  | _, _, _ => False
theorem RV.le {t : Tg} {v : Vl} {u : V} (l : Le φ H φ' H') (r : RV K mg H0 H φ σ sl t v u) : RV K mg H0 H' φ' σ sl t v u := by
  have own : ∀ {p d}, Own1 K H p d → p ∉ φ → Own1 K H' p d ∧ p ∉ φ' := fun {p d} e n => by
    obtain ⟨o, eo, _⟩ := e.mu
    refine ⟨e.mono l.fz ((l.keep p o eo n).trans eo.symm), fun z => ?_⟩
    have := l.new p z n
    rw [eo] at this
    cases this
  cases t with
  | pure => exact RpV.mono l.fz l.pre r
  | fresh =>
    cases v with
    | py d =>
      obtain ⟨p, e, o, h0, n, q⟩ := r
      obtain ⟨o', n'⟩ := own o n
      exact ⟨p, e, o', h0, n', q⟩
    | _ => exact r.elim
  | mine =>
    cases v with
    | py d =>
      obtain ⟨p, e, o, h0, n⟩ := r
      obtain ⟨o', n'⟩ := own o n
      exact ⟨p, e, o', h0, n'⟩
    | _ => exact r.elim
/-- it may be read -/
theorem RV.sh {t : Tg} {v : Vl} {u : V} {d : PyData} (R : Rel K mg H0 φ0 φ σ H sl S) (r : RV K mg H0 H φ σ sl t v u) (c : cont S v = some d) : Sh K H d u := by
  cases t with
  | pure =>
    cases v with
    | py d' => cases c; exact Rp.sh r
    | box k =>
      obtain ⟨a, h, rfl⟩ := r
      exact (R.box k a d h c).sh
    | _ => cases c
  | fresh =>
    cases v with
    | py d' =>
      cases c
      obtain ⟨p, rfl, o, _⟩ := r
      exact o.sh
    | _ => exact r.elim
  | mine =>
    cases v with
    | py d' =>
      cases c
      obtain ⟨p, rfl, o, _⟩ := r
      exact o.sh
    | _ => exact r.elim
/-- a result of an operation upon data: data that stand, or a new object -/
def RO (K : PySem.W.Frag) (H H' : Hp) : Tg → PyData → V → Prop
  | .pure, d, u => Rp K H' d u
  | .fresh, d, u => ∃ p, u = .ref p ∧ Own1 K H' p d ∧ H p = none
  | .mine, _, _ => False
theorem RO.new {t : Tg} {d : PyData} {u : V} (r : RO K H H' t d u) : t = .fresh → ∀ p, u = .ref p → H p = none := fun e p q => by
  subst e
  obtain ⟨p', e', _, n⟩ := r
  rw [e'] at q
  cases q
  exact n
theorem RO.rv {t : Tg} {d : PyData} {u : V} (R : Rel K mg H0 φ0 φ σ H sl S) (r : RO K H H' t d u) : RV K mg H0 H' φ σ sl t (.py d) u := by
  cases t with
  | pure => exact r
  | fresh =>
    obtain ⟨p, e, o, n⟩ := r
    refine ⟨p, e, o, R.fresh0 n, R.notBox n, fun i d' h g => ?_⟩
    obtain ⟨q, e1, e2, _⟩ := R.slots i _ h
    rw [g] at e1
    cases e1
    obtain ⟨o', eo, _⟩ := e2.mu
    rw [n] at eo
    cases eo
  | mine => exact r.elim
end
end PP
set_option Elab.async false
set_option linter.all false
set_option maxRecDepth 100000
set_option maxHeartbeats 4000000
namespace PP
open PySem L2
/-! ## what an expression does -/
def wE (X : Cx) (e : Expr) : TE := fun σ H Q => ∀ (pins : List (Addr × Obj)) (s : Shared), Inv X pins σ H s → wpAny (model X.prog X.w) X.A (eval e X.env) (EP X pins σ Q) X.xe s
theorem wE.pe {X : Cx} {e : Expr} : PE X e (wE X e) := ⟨fun pins s σ H Q I h => h pins s I⟩
theorem wE.of {X : Cx} {e : Expr} {t : TE} {σ : L2.St} {H : Hp} {Q : VK} (h : PE X e t) (q : t σ H Q) : wE X e σ H Q := fun pins s I => h.run pins s σ H Q I q
theorem wE.imp {X : Cx} {e : Expr} {σ : L2.St} {H : Hp} {Q Q' : VK} (h : wE X e σ H Q) (q : ∀ u H', Q u H' → Q' u H') : wE X e σ H Q' := fun pins s I =>
  thn (h pins s I) fun v s1 ⟨u, H1, I1, r1, q1⟩ => ⟨u, H1, I1, r1, q _ _ q1⟩
def wT (X : Cx) (e : Expr) : TT := fun σ H Q => ∀ (pins : List (Addr × Obj)) (s : Shared), Inv X pins σ H s → wpAny (model X.prog X.w) X.A (isTrue e X.env (eval e X.env)) (TP X pins σ Q) X.xe s
theorem wT.pt {X : Cx} {e : Expr} : PT X e (wT X e) := ⟨fun pins s σ H Q I h => h pins s I⟩
theorem wT.of {X : Cx} {e : Expr} {t : TT} {σ : L2.St} {H : Hp} {Q : Bool → Hp → Prop} (h : PT X e t) (q : t σ H Q) : wT X e σ H Q := fun pins s I => h.run pins s σ H Q I q
def wA (X : Cx) (es : List Expr) : TA := fun σ H Q => ∀ (pos : Pos) (pins : List (Addr × Obj)) (s : Shared), Inv X pins σ H s → wpAny (model X.prog X.w) X.A (spliced (backTo pos (starEach es X.env))) (AP X pins σ Q) X.xe s
theorem wA.pa {X : Cx} {es : List Expr} : PA X es (wA X es) := ⟨fun pos pins s σ H Q I h => h pos pins s I⟩
theorem wA.of {X : Cx} {es : List Expr} {t : TA} {σ : L2.St} {H : Hp} {Q : List V → Hp → Prop} (h : PA X es t) (q : t σ H Q) : wA X es σ H Q := fun pos pins s I => h.run pos pins s σ H Q I q

/-- where we stand -/
structure Ct (X : Cx) (k : Nat) : Prop where
  room : Room k X.A
  gd : X.A.guards = some []
  calm : X.calm = true
  nd : X.N.Nodup

/-- an error that flies -/
def ExAt (K : PySem.W.Frag) (mg : Str → Option Value) (H : Hp) (c : Str) (d : PyData) (C dx : Addr) : Prop :=
  mg c = some (.ref C) ∧ ∃ (fs : List (Str × V)) (vv : V), H dx = some (.xd fs) ∧ fs.lookup ("value" : Str) = some vv ∧ Rp K H d vv
def Post (X : Cx) (H0 : Hp) (φ0 φ : List Addr) (σ : L2.St) (H : Hp) (sl : Sl) (Q : VK) (W : WX) : ER → Prop
  | .val t v S' => ∀ u H' φ', Rel X.K X.mg H0 φ0 φ' σ H' sl S' → Le φ H φ' H' → RV X.K X.mg H0 H' φ' σ sl t v u → (t = .fresh → ∀ p, u = .ref p → H p = none) → Q u H'
  | .exn c d S' => ∀ C dx H' φ', Rel X.K X.mg H0 φ0 φ' σ H' sl S' → Le φ H φ' H' → ExAt X.K X.mg H' c d C dx → W (.ref C) (some dx) σ H'
/-- the expression's meaning -/
def Den_ (X : Cx) (e : Expr) (f : FE) : Prop :=
  ∀ (H0 : Hp) (φ0 φ : List Addr) (σ : L2.St) (H : Hp) (sl : Sl) (S : SS) (r : ER), Rel X.K X.mg H0 φ0 φ σ H sl S → f sl S = some r →
    ∀ (Q : VK) (W : WX), Takes X W → Post X H0 φ0 φ σ H sl Q W r → wE X e σ H Q
structure Den (X : Cx) (e : Expr) (f : FE) : Prop where
  run : Den_ X e f
instance {X : Cx} {e : Expr} {f : FE} : CoeFun (Den X e f) (fun _ => Den_ X e f) := ⟨Den.run⟩
def bindE (o : Option ER) (k : Tg → Vl → SS → Option ER) : Option ER :=
  match o with
  | some (.val t v S) => k t v S
  | some (.exn c d S) => some (.exn c d S)
  | none => none
theorem bindE_some {o : Option ER} {k : Tg → Vl → SS → Option ER} {r : ER} (h : bindE o k = some r) : (∃ t v S, o = some (.val t v S) ∧ k t v S = some r) ∨ ∃ c d S, o = some (.exn c d S) ∧ r = .exn c d S := by
  match o, h with
  | some (.val t v S), h => exact .inl ⟨t, v, S, rfl, h⟩
  | some (.exn c d S), h => cases h; exact .inr ⟨c, d, S, rfl, rfl⟩
theorem Le.fresh {K : PySem.W.Frag} {mg : Str → Option Value} {H0 H H1 : Hp} {φ0 φ φ1 : List Addr} {σ : L2.St} {sl : Sl} {S : SS} {p : Addr} (l : Le φ H φ1 H1) (R : Rel K mg H0 φ0 φ1 σ H1 sl S) (h : H1 p = none) : H p = none := by
  cases e : H p with
  | none => rfl
  | some o =>
    by_cases z : p ∈ φ
    · obtain ⟨ψ, q⟩ := l.pre
      exact absurd (by rw [q]; exact List.mem_append_left _ z) (R.notBox h)
    · rw [l.keep p o e z] at h
      cases h
/-- one expression, then more -/
theorem den_then {X : Cx} {e : Expr} {f : FE} {H0 : Hp} {φ0 φ : List Addr} {σ : L2.St} {H : Hp} {sl : Sl} {S : SS} {r : ER} {k : Tg → Vl → SS → Option ER} {Q : VK} {W : WX} {Q' : VK} (D : Den X e f) (R : Rel X.K X.mg H0 φ0 φ σ H sl S) (tk : Takes X W)
    (h : bindE (f sl S) k = some r) (post : Post X H0 φ0 φ σ H sl Q W r)
    (go : ∀ t v S1 u H1 φ1, k t v S1 = some r → Rel X.K X.mg H0 φ0 φ1 σ H1 sl S1 → Le φ H φ1 H1 → RV X.K X.mg H0 H1 φ1 σ sl t v u → Post X H0 φ0 φ1 σ H1 sl Q W r → Q' u H1) : wE X e σ H Q' := by
  rcases bindE_some h with ⟨t, v, S1, h1, h2⟩ | ⟨c, d, S1, h1, rfl⟩
  · refine D H0 φ0 φ σ H sl S _ R h1 _ W tk fun u H1 φ1 R1 l1 rv _ => go t v S1 u H1 φ1 h2 R1 l1 rv ?_
    cases r with
    | val t' v' S' => exact fun u' H' φ' R' l' rv' fr' => post u' H' φ' R' (l1.trans l') rv' fun e p q => l1.fresh R1 (fr' e p q)
    | exn c d S' => exact fun C dx H' φ' R' l' => post C dx H' φ' R' (l1.trans l')
  · exact D H0 φ0 φ σ H sl S _ R h1 _ W tk post

/-! ### names, written values -/
def fVar (i : Nat) : FE := fun sl S => match sl[i]? with
  | some (.p v) => some (.val .pure v S)
  | some (.own d) => some (.val .mine (.py d) S)
  | _ => none
section
variable {X : Cx} {pos : Pos}
theorem den_var {i : Nat} {x : Str} (hN : X.N[i]? = some x) (hv : Vis X.env.scope x) (hd : (x == ("__debug__" : Str)) = false) (hcd : (x == ("__classdict__" : Str)) = false) : Den X (.Name x pos) (fVar i) := by
  refine .mk ?_; intro H0 φ0 φ σ H sl S r R hf Q W tk post
  refine wE.of (pe_var hN hv hd hcd) ?_
  unfold fVar at hf
  split at hf
  · rename_i v e
    cases hf
    obtain ⟨u, e1, e2⟩ := R.slots i _ e
    exact ⟨u, e1, post u H φ R (Le.refl _ _) e2 (fun z => nomatch z)⟩
  · rename_i d e
    cases hf
    obtain ⟨p, e1, e2, e3, e4⟩ := R.slots i _ e
    exact ⟨.ref p, e1, post _ H φ R (Le.refl _ _) ⟨p, rfl, e2, e3, e4⟩ (fun z => nomatch z)⟩
  · cases hf
def fC (d : PyData) : FE := fun _ S => some (.val .pure (.py d) S)
theorem den_c {e : Expr} {v : V} {d : PyData} (h : PE X e (tC v)) (hr : ∀ H, Rp X.K H d v) : Den X e (fC d) := by
  refine .mk ?_; intro H0 φ0 φ σ H sl S r R hf Q W tk post
  cases hf
  exact wE.of h (post v H φ R (Le.refl _ _) (hr H) (fun z => nomatch z))
theorem den_int {i : Int} {k : Nat} : Den X (.Constant (.int i) k pos) (fC (.int i)) := den_c pe_int fun _ => rfl
theorem den_bl {b : Bool} {k : Nat} : Den X (.Constant (.bool b) k pos) (fC (.bool b)) := den_c pe_bl fun _ => rfl
theorem den_non {k : Nat} : Den X (.Constant .none k pos) (fC .none) := den_c pe_non fun _ => rfl
theorem den_str {s : Str} {k : Nat} : Den X (.Constant (.str s) k pos) (fC (.str s)) := den_c pe_str fun _ => rfl
/-- a module's constant -/
theorem den_glob {x : Str} {d : PyData} {u : Value} {v : V} (hg : Gl X x) (hm : X.mg x = some u) (hu : RelV v u) (hr : ∀ H, Rp X.K H d v) (hd : (x == ("__debug__" : Str)) = false) : Den X (.Name x pos) (fC d) := den_c (pe_glob hg hm hu hd) hr
/-- a def as a value -/
def fFn (f : Str) : FE := fun _ S => some (.val .pure (.fn f) S)
theorem den_fn {x : Str} {a : Addr} (hg : Gl X x) (hm : X.mg x = some (.ref a)) (hd : (x == ("__debug__" : Str)) = false) : Den X (.Name x pos) (fFn x) := by
  refine .mk ?_; intro H0 φ0 φ σ H sl S r R hf Q W tk post
  cases hf
  exact wE.of (pe_glob (v := .ref a) hg hm rfl hd) (post _ H φ R (Le.refl _ _) ⟨a, rfl, hm⟩ (fun z => nomatch z))

/-! ### operators -/
def OpRun (X : Cx) (f : Value → Value → Sem Value) : R2 := fun x y H Q => ∀ (pins : List (Addr × Obj)) (s : Shared) (σ : L2.St) (v u : Value), Inv X pins σ H s → RelV x v → RelV y u → wpAny (model X.prog X.w) X.A (f v u) (EP X pins σ Q) X.xe s
theorem OpRun.op {f : Value → Value → Sem Value} : OpR X f (OpRun X f) := fun pins s σ H x y v u Q I r1 r2 h => h pins s σ v u I r1 r2
theorem OpRun.of {f : Value → Value → Sem Value} {r : R2} {x y : V} {H : Hp} {Q : VK} (o : OpR X f r) (h : r x y H Q) : OpRun X f x y H Q := fun pins s σ v u I r1 r2 => o pins s σ H x y v u Q I r1 r2 h
def BinSem (X : Cx) (f : Value → Value → Sem Value) (sem : PyData → PyData → Option (Tg × PyData)) : Prop :=
  ∀ (dx dy : PyData) (x y : V) (H : Hp) (t : Tg) (d : PyData) (Q : VK), Sh X.K H dx x → Sh X.K H dy y → sem dx dy = some (t, d) → (∀ u H', Ext H H' → RO X.K H H' t d u → Q u H') → OpRun X f x y H Q
def fBin (sem : PyData → PyData → Option (Tg × PyData)) (fa fb : FE) : FE := fun sl S =>
  bindE (fa sl S) fun _ v1 S1 => bindE (fb sl S1) fun _ v2 S2 =>
    match cont S2 v1, cont S2 v2 with
    | some d1, some d2 => match sem d1 d2 with
      | some (t, d) => some (.val t (.py d) S2)
      | none => none
    | _, _ => none
variable {a b : Expr} {fa fb : FE}
theorem bin_go {f : Value → Value → Sem Value} {sem : PyData → PyData → Option (Tg × PyData)} (hop : BinSem X f sem) (ha : Den X a fa) (hb : Den X b fb)
    {H0 : Hp} {φ0 φ : List Addr} {σ : L2.St} {H : Hp} {sl : Sl} {S : SS} {r : ER} {Q : VK} {W : WX} (R : Rel X.K X.mg H0 φ0 φ σ H sl S) (tk : Takes X W) (hf : fBin sem fa fb sl S = some r) (post : Post X H0 φ0 φ σ H sl Q W r) :
    tOp (OpRun X f) (wE X a) (wE X b) σ H Q := by
  refine den_then ha R tk hf post fun t1 v1 S1 u1 H1 φ1 hk R1 l1 rv1 post1 => ?_
  refine den_then hb R1 tk hk post1 fun t2 v2 S2 u2 H2 φ2 hk2 R2 l2 rv2 post2 => ?_
  split at hk2
  · rename_i d1 d2 c1 c2
    split at hk2
    · rename_i t d hs
      cases hk2
      exact hop d1 d2 u1 u2 H2 t d Q ((rv1.le l2).sh R2 c1) (rv2.sh R2 c2) hs fun u H' e ro => post2 u H' φ2 (R2.ext e) e.le (ro.rv R2) ro.new
    · cases hk2
  · cases hk2
theorem den_bin {op : Operator} {sem : PyData → PyData → Option (Tg × PyData)} (hop : BinSem X (binaryOp op) sem) (ha : Den X a fa) (hb : Den X b fb) : Den X (.BinOp a op b pos) (fBin sem fa fb) :=
  .mk fun H0 φ0 φ σ H sl S r R hf Q W tk post => wE.of (pe_op OpRun.op wE.pe wE.pe) (bin_go hop ha hb R tk hf post)
theorem den_cmp {op : CmpOp} {sem : PyData → PyData → Option (Tg × PyData)} (hop : BinSem X (compareOp op) sem) (ha : Den X a fa) (hb : Den X b fb) (hm : behindInMarks op b = false) : Den X (.Compare a [op] [b] pos) (fBin sem fa fb) :=
  .mk fun H0 φ0 φ σ H sl S r R hf Q W tk post => wE.of (pe_cmpR OpRun.op wE.pe wE.pe hm) (bin_go hop ha hb R tk hf post)
def UnRun (X : Cx) (f : Value → Sem Value) : V → Hp → VK → Prop := fun x H Q => ∀ (pins : List (Addr × Obj)) (s : Shared) (σ : L2.St) (v : Value), Inv X pins σ H s → RelV x v → wpAny (model X.prog X.w) X.A (f v) (EP X pins σ Q) X.xe s
end
end PP
set_option Elab.async false
set_option linter.all false
set_option maxRecDepth 100000
set_option maxHeartbeats 4000000
namespace PP
open PySem L2
/-! ### a new object is shut -/
theorem wE.shut {X : Cx} {e : Expr} {σ : L2.St} {H : Hp} {Q : VK} (h : wE X e σ H fun u H' => Q u H' ∨ ∃ p o, H' p = some o ∧ Mut (some o) ∧ ∀ od, Q u (upd H' p (.frz od o))) : wE X e σ H Q := fun pins s I =>
  thn (h pins s I) fun v s1 ⟨u, H1, I1, r1, q1⟩ => by
    rcases q1 with q1 | ⟨p, o, e1, m, q⟩
    · exact ⟨u, H1, I1, r1, q1⟩
    · obtain ⟨od, I2⟩ := I1.lock e1 m
      exact ⟨u, _, I2, r1, q od⟩
theorem Own1.mut {K : PySem.W.Frag} {H : Hp} : ∀ {d : PyData} {p : Addr}, Own1 K H p d → ∃ o, H p = some o ∧ Mut (some o) ∧ ∀ od, Rp K (upd H p (.frz od o)) d (.ref p)
  | .list ds, p, ⟨vs, e, r⟩ => ⟨_, e, trivial, fun od => ⟨p, vs, rfl, .inl ⟨od, upd_same⟩, Rps.mono (fun a o h m => by
      rw [upd_ne (fun z => by subst z; rw [e] at h; cases h; cases m)]; exact h) ds r⟩⟩
  | .dict kvs, p, ⟨ks, e, r⟩ => ⟨_, e, trivial, fun od => ⟨p, od, ks, rfl, upd_same, Rpk.mono (fun a o h m => by
      rw [upd_ne (fun z => by subst z; rw [e] at h; cases h; cases m)]; exact h) kvs r⟩⟩
  | .none, _, h => h.elim
  | .bool _, _, h => h.elim
  | .int _, _, h => h.elim
  | .str _, _, h => h.elim
  | .tuple _, _, h => h.elim
section
variable {K : PySem.W.Frag} {mg : Str → Option Value} {H0 H : Hp} {φ0 φ : List Addr} {σ : L2.St} {sl : Sl} {S : SS}
theorem fz_shut {p : Addr} {o : HO} {od : Obj} (e : H p = some o) (m : Mu o = true) : Fz H (upd H p (.frz od o)) := fun a u h n => by
  rw [upd_ne (fun z => by subst z; rw [e] at h; cases h; rw [m] at n; cases n)]
  exact h
theorem Rel.shut (R : Rel K mg H0 φ0 φ σ H sl S) {p : Addr} {o : HO} {od : Obj} (e : H p = some o) (m : Mu o = true) (n : p ∉ φ) (n0 : H0 p = none) (ns : ∀ (i : Nat) (d' : PyData), sl[i]? = some (.own d') → σ[i]? ≠ some (some (.ref p))) :
    Rel K mg H0 φ0 φ σ (upd H p (.frz od o)) sl S := by
  have z := fz_shut (od := od) e m
  have other : ∀ a, a ≠ p → (upd H p (.frz od o)) a = H a := fun a h => upd_ne h
  refine ⟨R.len, fun i s h => ?_, R.dist, R.blen, fun k a d h g => ?_, R.nd, R.pre, R.new, fun a u h g => ?_⟩
  · have q := R.slots i s h
    cases s with
    | un => trivial
    | p v => obtain ⟨u, e1, e2⟩ := q; exact ⟨u, e1, e2.mono z ⟨[], by simp⟩⟩
    | own d =>
      obtain ⟨p', e1, e2, e3, e4⟩ := q
      exact ⟨p', e1, e2.mono z (other p' fun y => by subst y; exact ns i d h e1), e3, e4⟩
  · exact (R.box k a d h g).mono z (other a fun y => by subst y; exact n (List.mem_of_getElem? h))
  · rw [other a fun y => by subst y; rw [n0] at h; cases h]
    exact R.keep a u h g
end
/-- the value, its object shut -/
def fFz (f : FE) : FE := fun sl S => bindE (f sl S) fun t v S1 => match t with
  | .mine => none
  | _ => some (.val .pure v S1)
theorem den_fz {X : Cx} {e : Expr} {f : FE} (h : Den X e f) : Den X e (fFz f) := by
  refine .mk ?_; intro H0 φ0 φ σ H sl S r R hf Q W tk post
  rcases bindE_some hf with ⟨t, v, S1, h1, h2⟩ | ⟨c, d, S1, h1, rfl⟩
  · refine wE.shut (h H0 φ0 φ σ H sl S _ R h1 _ W tk fun u H1 φ1 R1 l1 rv fr => ?_)
    cases t with
    | mine => cases h2
    | pure => cases h2; exact .inl (post u H1 φ1 R1 l1 rv (fun z => nomatch z))
    | fresh =>
      cases h2
      cases v with
      | py d =>
        obtain ⟨p, e1, o, n0, n, ns⟩ := rv
        obtain ⟨o', e2, m, q⟩ := o.mut
        obtain ⟨o'', e3, mu⟩ := o.mu
        obtain rfl : o' = o'' := Option.some.inj (e2.symm.trans e3)
        refine .inr ⟨p, o', e2, m, fun od => ?_⟩
        have hp : H p = none := fr rfl p e1
        subst e1
        refine post _ _ φ1 (R1.shut e2 mu n n0 ns) ⟨fun a x ha na => ?_, l1.pre, l1.new, l1.fz.trans (fz_shut e2 mu)⟩ (q od) (fun z => nomatch z)
        rw [upd_ne (fun z => by subst z; rw [hp] at ha; cases ha)]
        exact l1.keep a x ha na
      | _ => exact rv.elim
  · exact h H0 φ0 φ σ H sl S _ R h1 _ W tk post

/-! ### several expressions -/
def RVs (K : PySem.W.Frag) (mg : Str → Option Value) (H0 H : Hp) (φ : List Addr) (σ : L2.St) (sl : Sl) : List (Tg × Vl) → List V → Prop
  | [], us => us = []
  | x :: xs, us => ∃ u r, us = u :: r ∧ RV K mg H0 H φ σ sl x.1 x.2 u ∧ RVs K mg H0 H φ σ sl xs r
theorem RVs.le {K : PySem.W.Frag} {mg : Str → Option Value} {H0 H H' : Hp} {φ φ' : List Addr} {σ : L2.St} {sl : Sl} (l : Le φ H φ' H') : ∀ {xs : List (Tg × Vl)} {us : List V}, RVs K mg H0 H φ σ sl xs us → RVs K mg H0 H' φ' σ sl xs us
  | [], _, h => h
  | x :: xs, _, ⟨u, r, e, a, b⟩ => ⟨u, r, e, a.le l, RVs.le l b⟩
def PostA (X : Cx) (H0 : Hp) (φ0 φ : List Addr) (σ : L2.St) (H : Hp) (sl : Sl) (Q : List V → Hp → Prop) (W : WX) : AR → Prop
  | .vals xs S' => ∀ us H' φ', Rel X.K X.mg H0 φ0 φ' σ H' sl S' → Le φ H φ' H' → RVs X.K X.mg H0 H' φ' σ sl xs us → Q us H'
  | .exn c d S' => ∀ C dx H' φ', Rel X.K X.mg H0 φ0 φ' σ H' sl S' → Le φ H φ' H' → ExAt X.K X.mg H' c d C dx → W (.ref C) (some dx) σ H'
def DenA_ (X : Cx) (es : List Expr) (f : FA) : Prop :=
  ∀ (H0 : Hp) (φ0 φ : List Addr) (σ : L2.St) (H : Hp) (sl : Sl) (S : SS) (r : AR), Rel X.K X.mg H0 φ0 φ σ H sl S → f sl S = some r →
    ∀ (Q : List V → Hp → Prop) (W : WX), Takes X W → PostA X H0 φ0 φ σ H sl Q W r → wA X es σ H Q
structure DenA (X : Cx) (es : List Expr) (f : FA) : Prop where
  run : DenA_ X es f
instance {X : Cx} {es : List Expr} {f : FA} : CoeFun (DenA X es f) (fun _ => DenA_ X es f) := ⟨DenA.run⟩
def faNil : FA := fun _ S => some (.vals [] S)
def faCons (f : FE) (g : FA) : FA := fun sl S => match f sl S with
  | some (.val t v S1) => match g sl S1 with
    | some (.vals xs S2) => some (.vals ((t, v) :: xs) S2)
    | some (.exn c d S2) => some (.exn c d S2)
    | none => none
  | some (.exn c d S1) => some (.exn c d S1)
  | none => none
section
variable {X : Cx} {e : Expr} {es : List Expr} {f : FE} {g : FA} {pos : Pos}
theorem denA_nil : DenA X [] faNil := by
  refine .mk ?_; intro H0 φ0 φ σ H sl S r R hf Q W tk post
  cases hf
  exact wA.of pa_nil (post [] H φ R (Le.refl _ _) rfl)
theorem denA_cons (h : Den X e f) (hs : DenA X es g) (hst : starEach (e :: es) X.env = (false, eval e X.env) :: starEach es X.env) : DenA X (e :: es) (faCons f g) := by
  refine .mk ?_; intro H0 φ0 φ σ H sl S r R hf Q W tk post
  refine wA.of (pa_cons wE.pe wA.pa hst) ?_
  unfold faCons at hf
  split at hf
  · rename_i t v S1 h1
    refine h H0 φ0 φ σ H sl S _ R h1 _ W tk fun u H1 φ1 R1 l1 rv _ => ?_
    split at hf
    · rename_i xs S2 h2
      cases hf
      exact hs H0 φ0 φ1 σ H1 sl S1 _ R1 h2 _ W tk fun us H2 φ2 R2 l2 rvs => post _ H2 φ2 R2 (l1.trans l2) ⟨u, us, rfl, rv.le l2, rvs⟩
    · rename_i c d S2 h2
      cases hf
      exact hs H0 φ0 φ1 σ H1 sl S1 _ R1 h2 _ W tk (fun C dx H' φ' R' l' => post C dx H' φ' R' (l1.trans l'))
    · cases hf
  · rename_i c d S1 h1
    cases hf
    exact h H0 φ0 φ σ H sl S _ R h1 _ W tk post
  · cases hf

/-! ### displays -/
/-- at most so many items -/
abbrev LIM : Nat := 100000
theorem lim_line {n : Nat} (h : n ≤ LIM) : n ≤ sizeLine := Nat.le_trans h (by decide)
def pys : List (Tg × Vl) → Option (List PyData)
  | [] => some []
  | (.pure, .py d) :: r => match pys r with
    | some ds => some (d :: ds)
    | none => none
  | _ :: _ => none
theorem RVs.pys {K : PySem.W.Frag} {mg : Str → Option Value} {H0 H : Hp} {φ : List Addr} {σ : L2.St} {sl : Sl} : ∀ {xs : List (Tg × Vl)} {us : List V} {ds : List PyData}, RVs K mg H0 H φ σ sl xs us → PP.pys xs = some ds → Rps K H ds us
  | [], _, _, h, e => by cases e; exact h
  | (.pure, .py d) :: r, _, ds, ⟨u, t, e, a, b⟩, h => by
    unfold PP.pys at h
    split at h
    · rename_i ds' h1
      cases h
      exact ⟨u, t, e, a, RVs.pys b h1⟩
    · cases h
  | (.fresh, .py d) :: r, _, _, _, h => by cases h
  | (.mine, .py d) :: r, _, _, _, h => by cases h
  | (.pure, .fn d) :: r, _, _, _, h => by cases h
  | (.fresh, .fn d) :: r, _, _, _, h => by cases h
  | (.mine, .fn d) :: r, _, _, _, h => by cases h
  | (.pure, .err _ _) :: r, _, _, _, h => by cases h
  | (.fresh, .err _ _) :: r, _, _, _, h => by cases h
  | (.mine, .err _ _) :: r, _, _, _, h => by cases h
  | (.pure, .box d) :: r, _, _, _, h => by cases h
  | (.fresh, .box d) :: r, _, _, _, h => by cases h
  | (.mine, .box d) :: r, _, _, _, h => by cases h
def fSeq (mk : List PyData → PyData) (t : Tg) (g : FA) : FE := fun sl S => match g sl S with
  | some (.vals xs S1) => match pys xs with
    | some ds => if ds.length ≤ LIM then some (.val t (.py (mk ds)) S1) else none
    | none => none
  | some (.exn c d S1) => some (.exn c d S1)
  | none => none
theorem den_tup {n : Nat} (h : DenA X es g) : Den X (.Tuple es n pos) (fSeq .tuple .pure g) := by
  refine .mk ?_; intro H0 φ0 φ σ H sl S r R hf Q W tk post
  refine wE.of (pe_tup wA.pa) ?_
  unfold fSeq at hf
  split at hf
  · rename_i xs S1 h1
    split at hf
    · rename_i ds h2
      split at hf
      · rename_i h3
        cases hf
        refine h H0 φ0 φ σ H sl S _ R h1 _ W tk fun us H1 φ1 R1 l1 rvs => ?_
        have rs := rvs.pys h2
        refine ⟨by rw [rs.len]; exact lim_line h3, fun p hp => ?_⟩
        have ex : Ext H1 (upd H1 p (.tup us)) := Ext.new hp
        exact post _ _ φ1 (R1.ext ex) (l1.trans ex.le) ⟨p, us, rfl, SqT.of upd_same, rs.mono ex.fz⟩ (fun z => nomatch z)
      · cases hf
    · cases hf
  · rename_i c d S1 h1
    cases hf
    exact h H0 φ0 φ σ H sl S _ R h1 _ W tk post
  · cases hf
theorem den_lst (h : DenA X es g) : Den X (.List es pos) (fSeq .list .fresh g) := by
  refine .mk ?_; intro H0 φ0 φ σ H sl S r R hf Q W tk post
  refine wE.of (pe_lst wA.pa) ?_
  unfold fSeq at hf
  split at hf
  · rename_i xs S1 h1
    split at hf
    · rename_i ds h2
      split at hf
      · rename_i h3
        cases hf
        refine h H0 φ0 φ σ H sl S _ R h1 _ W tk fun us H1 φ1 R1 l1 rvs => ?_
        have rs := rvs.pys h2
        refine ⟨by rw [rs.len]; exact lim_line h3, fun p hp => ?_⟩
        have ex : Ext H1 (upd H1 p (.lst us)) := Ext.new hp
        have ro : RO X.K H1 (upd H1 p (.lst us)) .fresh (.list ds) (.ref p) := ⟨p, rfl, ⟨us, upd_same, rs.mono ex.fz⟩, hp⟩
        exact post _ _ φ1 (R1.ext ex) (l1.trans ex.le) (ro.rv R1) fun e q k => l1.fresh R1 (ro.new e q k)
      · cases hf
    · cases hf
  · rename_i c d S1 h1
    cases hf
    exact h H0 φ0 φ σ H sl S _ R h1 _ W tk post
  · cases hf
/-- {} -/
theorem den_dnew : Den X (.Dict [] [] pos) (fun _ S => some (.val .fresh (.py (.dict [])) S)) := by
  refine .mk ?_; intro H0 φ0 φ σ H sl S r R hf Q W tk post
  cases hf
  refine wE.of pe_dnewK fun p hp => ?_
  have ex : Ext H (upd H p (.dK [])) := Ext.new hp
  have ro : RO X.K H (upd H p (.dK [])) .fresh (.dict []) (.ref p) := ⟨p, rfl, ⟨[], upd_same, rfl⟩, hp⟩
  exact post _ _ φ (R.ext ex) ex.le (ro.rv R) ro.new
end
end PP
set_option Elab.async false
set_option linter.all false
set_option maxRecDepth 100000
set_option maxHeartbeats 4000000
namespace PP
open PySem L2
/-! ### tests, and, or, not, if -/
def PostT (X : Cx) (H0 : Hp) (φ0 φ : List Addr) (σ : L2.St) (H : Hp) (sl : Sl) (Q : Bool → Hp → Prop) (W : WX) : TR → Prop
  | .tb b S' => ∀ H' φ', Rel X.K X.mg H0 φ0 φ' σ H' sl S' → Le φ H φ' H' → Q b H'
  | .exn c d S' => ∀ C dx H' φ', Rel X.K X.mg H0 φ0 φ' σ H' sl S' → Le φ H φ' H' → ExAt X.K X.mg H' c d C dx → W (.ref C) (some dx) σ H'
def DenT_ (X : Cx) (e : Expr) (f : FT) : Prop :=
  ∀ (H0 : Hp) (φ0 φ : List Addr) (σ : L2.St) (H : Hp) (sl : Sl) (S : SS) (r : TR), Rel X.K X.mg H0 φ0 φ σ H sl S → f sl S = some r →
    ∀ (Q : Bool → Hp → Prop) (W : WX), Takes X W → PostT X H0 φ0 φ σ H sl Q W r → wT X e σ H Q
structure DenT (X : Cx) (e : Expr) (f : FT) : Prop where
  run : DenT_ X e f
instance {X : Cx} {e : Expr} {f : FT} : CoeFun (DenT X e f) (fun _ => DenT_ X e f) := ⟨DenT.run⟩
/-- .. whatever stands around -/
def DenW_ (X : Cx) (e : Expr) (f : FT) : Prop :=
  ∀ (H0 : Hp) (φ0 φ : List Addr) (σ : L2.St) (H : Hp) (sl : Sl) (S : SS) (r : TR), Rel X.K X.mg H0 φ0 φ σ H sl S → f sl S = some r →
    ∀ (Q : Bool → Hp → Prop) (W : WX), Takes X W → PostT X H0 φ0 φ σ H sl Q W r →
      ∀ (whole : Sem Value) (pins : List (Addr × Obj)) (s : Shared), Inv X pins σ H s → wpAny (model X.prog X.w) X.A (isTrue e X.env whole) (TP X pins σ Q) X.xe s
structure DenW (X : Cx) (e : Expr) (f : FT) : Prop where
  run : DenW_ X e f
instance {X : Cx} {e : Expr} {f : FT} : CoeFun (DenW X e f) (fun _ => DenW_ X e f) := ⟨DenW.run⟩
def wW (X : Cx) (e : Expr) : TT := fun σ H Q => ∀ (whole : Sem Value) (pins : List (Addr × Obj)) (s : Shared), Inv X pins σ H s → wpAny (model X.prog X.w) X.A (isTrue e X.env whole) (TP X pins σ Q) X.xe s
theorem wW.pw {X : Cx} {e : Expr} : PW X e (wW X e) := ⟨fun whole pins s σ H Q I h => h whole pins s I⟩
def fTb (f : FE) : FT := fun sl S => match f sl S with
  | some (.val _ (.py (.bool b)) S') => some (.tb b S')
  | some (.exn c d S') => some (.exn c d S')
  | _ => none
theorem RV.bl {K : PySem.W.Frag} {mg : Str → Option Value} {H0 H : Hp} {φ : List Addr} {σ : L2.St} {sl : Sl} {t : Tg} {b : Bool} {u : V} (r : RV K mg H0 H φ σ sl t (.py (.bool b)) u) : u = .bl b := by
  cases t with
  | pure => exact r
  | fresh => obtain ⟨_, _, o, _⟩ := r; exact o.elim
  | mine => obtain ⟨_, _, o, _⟩ := r; exact o.elim
section
variable {X : Cx} {a b c e : Expr} {rest : List Expr} {fa fb fc f : FE} {ga gb : FT} {pos : Pos}
theorem post_bool {H0 : Hp} {φ0 φ : List Addr} {σ : L2.St} {H : Hp} {sl : Sl} {S : SS} {r : TR} {Q : Bool → Hp → Prop} {W : WX} (hf : fTb f sl S = some r) (post : PostT X H0 φ0 φ σ H sl Q W r) :
    ∃ r', f sl S = some r' ∧ Post X H0 φ0 φ σ H sl (fun x H' => ∃ k, x = .bl k ∧ Q k H') W r' := by
  unfold fTb at hf
  split at hf
  · rename_i t k S' h1
    cases hf
    exact ⟨_, h1, fun u H' φ' R' l' rv _ => ⟨k, rv.bl, post H' φ' R' l'⟩⟩
  · rename_i c d S' h1
    cases hf
    exact ⟨_, h1, post⟩
  · cases hf
/-- a plain expression that gives True or False, as a test -/
theorem denT_val (h : Den X e f) (he : ∀ whole, isTrue e X.env whole = (do let v ← whole; standAt e.pos; holding [v] (truthy v))) : DenT X e (fTb f) := by
  refine .mk ?_; intro H0 φ0 φ σ H sl S r R hf Q W tk post
  obtain ⟨r', h1, p⟩ := post_bool hf post
  exact wT.of (pt_val wE.pe he) (h H0 φ0 φ σ H sl S r' R h1 _ W tk p)
theorem denT_cmp {op : CmpOp} {sem : PyData → PyData → Option (Tg × PyData)} (hop : BinSem X (compareOp op) sem) (ha : Den X a fa) (hb : Den X b fb) (hm : behindInMarks op b = false) : DenT X (.Compare a [op] [b] pos) (fTb (fBin sem fa fb)) := by
  refine .mk ?_; intro H0 φ0 φ σ H sl S r R hf Q W tk post
  obtain ⟨r', h1, p⟩ := post_bool hf post
  exact wT.of (pt_cmpR OpRun.op wE.pe wE.pe hm) (bin_go hop ha hb R tk h1 p)
def fNotT (g : FT) : FT := fun sl S => match g sl S with
  | some (.tb b S') => some (.tb (!b) S')
  | some (.exn c d S') => some (.exn c d S')
  | none => none
theorem denT_not (h : DenT X a ga) : DenT X (.UnaryOp .Not a pos) (fNotT ga) := by
  refine .mk ?_; intro H0 φ0 φ σ H sl S r R hf Q W tk post
  refine wT.of (pt_not wT.pt) ?_
  unfold fNotT at hf
  split at hf
  · rename_i k S' h1
    cases hf
    exact h H0 φ0 φ σ H sl S _ R h1 _ W tk post
  · rename_i c d S' h1
    cases hf
    exact h H0 φ0 φ σ H sl S _ R h1 _ W tk post
  · cases hf
def fAndT (g k : FT) : FT := fun sl S => match g sl S with
  | some (.tb true S') => k sl S'
  | r => r
def fOrT (g k : FT) : FT := fun sl S => match g sl S with
  | some (.tb false S') => k sl S'
  | r => r
theorem PostT.le {H0 : Hp} {φ0 φ φ1 : List Addr} {σ : L2.St} {H H1 : Hp} {sl : Sl} {r : TR} {Q : Bool → Hp → Prop} {W : WX} (l : Le φ H φ1 H1) (p : PostT X H0 φ0 φ σ H sl Q W r) : PostT X H0 φ0 φ1 σ H1 sl Q W r := by
  cases r with
  | tb b S' => exact fun H' φ' R' l' => p H' φ' R' (l.trans l')
  | exn c d S' => exact fun C dx H' φ' R' l' => p C dx H' φ' R' (l.trans l')
theorem Post.le {H0 : Hp} {φ0 φ φ1 : List Addr} {σ : L2.St} {H H1 : Hp} {sl : Sl} {S : SS} {r : ER} {Q : VK} {W : WX} (l : Le φ H φ1 H1) (R : Rel X.K X.mg H0 φ0 φ1 σ H1 sl S) (p : Post X H0 φ0 φ σ H sl Q W r) : Post X H0 φ0 φ1 σ H1 sl Q W r := by
  cases r with
  | val t v S' => exact fun u H' φ' R' l' rv fr => p u H' φ' R' (l.trans l') rv fun e p q => l.fresh R (fr e p q)
  | exn c d S' => exact fun C dx H' φ' R' l' => p C dx H' φ' R' (l.trans l')
theorem denW_t (h : DenW X e ga) : DenT X e ga := .mk fun H0 φ0 φ σ H sl S r R hf Q W tk post pins s I => h H0 φ0 φ σ H sl S r R hf Q W tk post _ pins s I
theorem denW_and1 (h : DenT X a ga) : DenW X (.BoolOp .And [a] pos) ga := .mk fun H0 φ0 φ σ H sl S r R hf Q W tk post whole pins s I =>
  (pw_and1 wT.pt).run whole pins s σ H Q I (h H0 φ0 φ σ H sl S r R hf Q W tk post)
theorem denW_or1 (h : DenT X a ga) : DenW X (.BoolOp .Or [a] pos) ga := .mk fun H0 φ0 φ σ H sl S r R hf Q W tk post whole pins s I =>
  (pw_or1 wT.pt).run whole pins s σ H Q I (h H0 φ0 φ σ H sl S r R hf Q W tk post)
theorem denW_and (h : DenT X a ga) (h2 : DenW X (.BoolOp .And (b :: rest) pos) gb) : DenW X (.BoolOp .And (a :: b :: rest) pos) (fAndT ga gb) := by
  refine .mk ?_; intro H0 φ0 φ σ H sl S r R hf Q W tk post whole pins s I
  refine (pw_and wT.pt wW.pw).run whole pins s σ H Q I ?_
  unfold fAndT at hf
  split at hf
  · rename_i S' h1
    refine h H0 φ0 φ σ H sl S _ R h1 _ W tk fun H1 φ1 R1 l1 => ?_
    show (if true = true then _ else _)
    rw [if_pos rfl]
    exact fun whole pins s I => h2 H0 φ0 φ1 σ H1 sl S' r R1 hf Q W tk (post.le l1) whole pins s I
  · rename_i r' hn
    cases r with
    | tb k S' =>
      cases k with
      | true => exact absurd hf (hn S')
      | false =>
        refine h H0 φ0 φ σ H sl S _ R hf _ W tk fun H1 φ1 R1 l1 => ?_
        show (if false = true then _ else _)
        rw [if_neg Bool.false_ne_true]
        exact post H1 φ1 R1 l1
    | exn c d S' => exact h H0 φ0 φ σ H sl S _ R hf _ W tk post
theorem denW_or (h : DenT X a ga) (h2 : DenW X (.BoolOp .Or (b :: rest) pos) gb) : DenW X (.BoolOp .Or (a :: b :: rest) pos) (fOrT ga gb) := by
  refine .mk ?_; intro H0 φ0 φ σ H sl S r R hf Q W tk post whole pins s I
  refine (pw_or wT.pt wW.pw).run whole pins s σ H Q I ?_
  unfold fOrT at hf
  split at hf
  · rename_i S' h1
    refine h H0 φ0 φ σ H sl S _ R h1 _ W tk fun H1 φ1 R1 l1 => ?_
    show (if false = true then _ else _)
    rw [if_neg Bool.false_ne_true]
    exact fun whole pins s I => h2 H0 φ0 φ1 σ H1 sl S' r R1 hf Q W tk (post.le l1) whole pins s I
  · rename_i r' hn
    cases r with
    | tb k S' =>
      cases k with
      | false => exact absurd hf (hn S')
      | true =>
        refine h H0 φ0 φ σ H sl S _ R hf _ W tk fun H1 φ1 R1 l1 => ?_
        show (if true = true then _ else _)
        rw [if_pos rfl]
        exact post H1 φ1 R1 l1
    | exn c d S' => exact h H0 φ0 φ σ H sl S _ R hf _ W tk post
/-- .. as values -/
def fAnd (f g : FE) : FE := fun sl S => bindE (f sl S) fun _ v S1 => match v with
  | .py (.bool true) => g sl S1
  | .py (.bool false) => some (.val .pure (.py (.bool false)) S1)
  | _ => none
def fOr (f g : FE) : FE := fun sl S => bindE (f sl S) fun _ v S1 => match v with
  | .py (.bool false) => g sl S1
  | .py (.bool true) => some (.val .pure (.py (.bool true)) S1)
  | _ => none
def fNot (f : FE) : FE := fun sl S => bindE (f sl S) fun _ v S1 => match v with
  | .py (.bool k) => some (.val .pure (.py (.bool (!k))) S1)
  | _ => none
theorem den_one {op : BoolOp} (h : Den X a fa) : Den X (.BoolOp op [a] pos) fa := .mk fun H0 φ0 φ σ H sl S r R hf Q W tk post => wE.of (pe_one wE.pe) (h H0 φ0 φ σ H sl S r R hf Q W tk post)
theorem den_and (ha : Den X a fa) (hb : Den X (.BoolOp .And (b :: rest) pos) fb) : Den X (.BoolOp .And (a :: b :: rest) pos) (fAnd fa fb) := by
  refine .mk ?_; intro H0 φ0 φ σ H sl S r R hf Q W tk post
  refine wE.of (pe_and wE.pe wE.pe) (den_then ha R tk hf post fun t v S1 u H1 φ1 hk R1 l1 rv p1 => ?_)
  split at hk
  · exact ⟨true, rv.bl, by rw [if_pos rfl]; exact hb H0 φ0 φ1 σ H1 sl S1 r R1 hk Q W tk p1⟩
  · cases hk
    exact ⟨false, rv.bl, by rw [if_neg Bool.false_ne_true]; exact p1 _ H1 φ1 R1 (Le.refl _ _) rfl (fun z => nomatch z)⟩
  · cases hk
theorem den_or (ha : Den X a fa) (hb : Den X (.BoolOp .Or (b :: rest) pos) fb) : Den X (.BoolOp .Or (a :: b :: rest) pos) (fOr fa fb) := by
  refine .mk ?_; intro H0 φ0 φ σ H sl S r R hf Q W tk post
  refine wE.of (pe_or wE.pe wE.pe) (den_then ha R tk hf post fun t v S1 u H1 φ1 hk R1 l1 rv p1 => ?_)
  split at hk
  · exact ⟨false, rv.bl, by rw [if_neg Bool.false_ne_true]; exact hb H0 φ0 φ1 σ H1 sl S1 r R1 hk Q W tk p1⟩
  · cases hk
    exact ⟨true, rv.bl, by rw [if_pos rfl]; exact p1 _ H1 φ1 R1 (Le.refl _ _) rfl (fun z => nomatch z)⟩
  · cases hk
theorem den_not (ha : Den X a fa) : Den X (.UnaryOp .Not a pos) (fNot fa) := by
  refine .mk ?_; intro H0 φ0 φ σ H sl S r R hf Q W tk post
  refine wE.of (pe_not wE.pe) (den_then ha R tk hf post fun t v S1 u H1 φ1 hk R1 l1 rv p1 => ?_)
  split at hk
  · rename_i k
    cases hk
    exact ⟨k, rv.bl, p1 _ H1 φ1 R1 (Le.refl _ _) rfl (fun z => nomatch z)⟩
  · cases hk
def fIf (g : FT) (f1 f2 : FE) : FE := fun sl S => match g sl S with
  | some (.tb true S') => f1 sl S'
  | some (.tb false S') => f2 sl S'
  | some (.exn c d S') => some (.exn c d S')
  | none => none
theorem den_if (hc : DenT X c ga) (ha : Den X a fa) (hb : Den X b fb) : Den X (.IfExp c a b pos) (fIf ga fa fb) := by
  refine .mk ?_; intro H0 φ0 φ σ H sl S r R hf Q W tk post
  refine wE.of (pe_ifExp wT.pt wE.pe wE.pe) ?_
  unfold fIf at hf
  split at hf
  · rename_i S' h1
    refine hc H0 φ0 φ σ H sl S _ R h1 _ W tk fun H1 φ1 R1 l1 => ?_
    show (if true = true then _ else _)
    rw [if_pos rfl]
    exact ha H0 φ0 φ1 σ H1 sl S' r R1 hf Q W tk (post.le l1 R1)
  · rename_i S' h1
    refine hc H0 φ0 φ σ H sl S _ R h1 _ W tk fun H1 φ1 R1 l1 => ?_
    show (if false = true then _ else _)
    rw [if_neg Bool.false_ne_true]
    exact hb H0 φ0 φ1 σ H1 sl S' r R1 hf Q W tk (post.le l1 R1)
  · rename_i c' d S' h1
    cases hf
    exact hc H0 φ0 φ σ H sl S _ R h1 _ W tk post
  · cases hf
end
end PP
set_option Elab.async false
set_option linter.all false
set_option maxRecDepth 100000
set_option maxHeartbeats 4000000
namespace PP
open PySem L2
/-! ### what the operators give -/
/-- at most so deep -/
abbrev DEEP : Nat := 60
def addP : PyData → PyData → Option (Tg × PyData)
  | .int i, .int j => some (.pure, .int (i + j))
  | .str x, .str y => if x.length + y.length ≤ LIM then some (.pure, .str (x ++ y)) else none
  | .list xs, .list ys => if xs.length + ys.length ≤ LIM then some (.fresh, .list (xs ++ ys)) else none
  | .tuple xs, .tuple ys => if xs.length + ys.length ≤ LIM then some (.pure, .tuple (xs ++ ys)) else none
  | _, _ => none
def subP : PyData → PyData → Option (Tg × PyData)
  | .int i, .int j => some (.pure, .int (i - j))
  | _, _ => none
def mulP : PyData → PyData → Option (Tg × PyData)
  | .int i, .int j => if i.natAbs.log2 + j.natAbs.log2 < 1000000 then some (.pure, .int (i * j)) else none
  | _, _ => none
def fdivP : PyData → PyData → Option (Tg × PyData)
  | .int i, .int j => if 0 < j ∧ j.natAbs.log2 < 9000 then some (.pure, .int (i / j)) else none
  | _, _ => none
def modP : PyData → PyData → Option (Tg × PyData)
  | .int i, .int j => if 0 < j then some (.pure, .int (i % j)) else none
  | _, _ => none
def ltP (g : Int → Int → Bool) : PyData → PyData → Option (Tg × PyData)
  | .int i, .int j => some (.pure, .bool (g i j))
  | _, _ => none
def eqOk (a b : PyData) : Bool := a.plain && b.plain && decide (min a.depth b.depth ≤ DEEP)
def eqP (a b : PyData) : Option (Tg × PyData) := if eqOk a b then some (.pure, .bool (PyData.eqv a b)) else none
def neP (a b : PyData) : Option (Tg × PyData) := if eqOk a b then some (.pure, .bool (!PyData.eqv a b)) else none
def inOk (x : PyData) (xs : List PyData) : Bool := PyData.plainAll xs && x.plain && decide (min (PyData.depthAll xs) x.depth ≤ DEEP)
def inP (neg : Bool) : PyData → PyData → Option (Tg × PyData)
  | x, .list xs => if inOk x xs then some (.pure, .bool (neg ^^ xs.any fun y => PyData.eqv y x)) else none
  | x, .tuple xs => if inOk x xs then some (.pure, .bool (neg ^^ xs.any fun y => PyData.eqv y x)) else none
  | .str x, .str z => match x.cps.toList with
    | [c] => some (.pure, .bool (neg ^^ decide (c ∈ z.cps.toList)))
    | _ => none
  | _, _ => none
theorem str_one {x : Str} {c : Nat} (h : x.cps.toList = [c]) : x = ⟨#[c]⟩ := by
  obtain ⟨a⟩ := x
  have e : a = #[c] := by
    apply Array.toList_inj.mp
    exact h
  rw [e]
section
variable {X : Cx} {k : Nat}
theorem sem_add : BinSem X (binaryOp .Add) addP := by
  intro dx dy x y H t d Q sx sy hs q
  unfold addP at hs
  split at hs
  · rename_i i j
    cases hs
    obtain rfl : x = .int i := sx
    obtain rfl : y = .int j := sy
    exact OpRun.of op_add ⟨i, j, rfl, rfl, q _ H (Ext.refl H) rfl⟩
  · rename_i i j
    split at hs
    · rename_i hl
      cases hs
      obtain rfl : x = .str i := sx
      obtain rfl : y = .str j := sy
      exact OpRun.of op_add_str ⟨i, j, rfl, rfl, lim_line hl, q _ H (Ext.refl H) rfl⟩
    · cases hs
  · rename_i xs ys
    split at hs
    · rename_i hl
      cases hs
      obtain ⟨p, vs, rfl, r1, a1⟩ := sx
      obtain ⟨p', us, rfl, r2, a2⟩ := sy
      intro pins s σ v u I rx ry
      cases rx
      cases ry
      obtain ⟨its, rv, ⟨⟨c1, dd, dt, so⟩, n, e, hc, hd, hs⟩, _⟩ := I.list r1
      obtain ⟨its2, rv2, ⟨⟨c2, dd2, dt2, so2⟩, n2, e2, hc2, hd2, hs2⟩, _⟩ := I.list r2
      dsimp only at hc hs hc2 hs2
      subst hc hs hc2 hs2
      have hz : vs.length + us.length ≤ sizeLine := by rw [a1.len, a2.len]; exact lim_line hl
      have l1 := rv.length
      have l2 := rv2.length
      refine PySem.concat_meets ⟨_, e, rfl⟩ ⟨_, e2, rfl⟩ PySem.noFill_list_add PySem.seq_list_add PySem.F.slot_list_add PySem.F.entry_list_add (PySem.F.args_list_add_2 _ _)
        (PyProof.Rows.list_addW p p' its.toArray its2.toArray n n2 dd dd2 so so2 (by simp only [List.size_toArray]; omega)) ⟨e, e2, ?_⟩
      rw [show its.toArray ++ its2.toArray = (its ++ its2).toArray by simp]
      have ex : Ext H (upd H s.heap.objs.size (.lst (vs ++ us))) := Ext.new I.fresh
      exact ⟨.ref _, _, I.lnew (t' := s.toks) (rv.append rv2) (by rw [List.length_append]; omega), rfl, q _ _ ex ⟨_, rfl, ⟨_, upd_same, (a1.app a2).mono ex.fz⟩, I.fresh⟩⟩
    · cases hs
  · rename_i xs ys
    split at hs
    · rename_i hl
      cases hs
      obtain ⟨p, vs, rfl, r1, a1⟩ := sx
      obtain ⟨p', us, rfl, r2, a2⟩ := sy
      have hz : vs.length + us.length ≤ sizeLine := by rw [a1.len, a2.len]; exact lim_line hl
      refine OpRun.of op_catA ⟨p, p', vs, us, rfl, rfl, r1, r2, hz, fun e => ?_, fun _ e => ?_, fun _ _ l hl => ?_⟩
      · subst e
        refine q _ H (Ext.refl H) ⟨p', us, rfl, r2, ?_⟩
        have z := a1.len
        have e : xs = [] := List.length_eq_zero_iff.mp z.symm
        subst e
        exact a2
      · subst e
        refine q _ H (Ext.refl H) ⟨p, vs, rfl, r1, ?_⟩
        have z := a2.len
        have e : ys = [] := List.length_eq_zero_iff.mp z.symm
        subst e
        rw [List.append_nil]
        exact a1
      · have ex : Ext H (upd H l (.tup (vs ++ us))) := Ext.new hl
        exact q _ _ ex ⟨l, _, rfl, SqT.of upd_same, (a1.app a2).mono ex.fz⟩
    · cases hs
  · cases hs
theorem sem_int {f : Value → Value → Sem Value} {C : Int → Int → Prop} {g : Int → Int → V} {sem : PyData → PyData → Option (Tg × PyData)} (o : OpR X f (rI C g))
    (h : ∀ a b t d, sem a b = some (t, d) → ∃ i j, a = .int i ∧ b = .int j ∧ C i j ∧ t = .pure ∧ ∀ H, Rp X.K H d (g i j)) : BinSem X f sem := by
  intro dx dy x y H t d Q sx sy hs q
  obtain ⟨i, j, rfl, rfl, c, rfl, e⟩ := h _ _ _ _ hs
  obtain rfl : x = .int i := sx
  obtain rfl : y = .int j := sy
  exact OpRun.of o ⟨i, j, rfl, rfl, c, q _ H (Ext.refl H) (e H)⟩
theorem sem_int0 {f : Value → Value → Sem Value} {g : Int → Int → V} {sem : PyData → PyData → Option (Tg × PyData)} (o : OpR X f (rI0 g))
    (h : ∀ a b t d, sem a b = some (t, d) → ∃ i j, a = .int i ∧ b = .int j ∧ t = .pure ∧ ∀ H, Rp X.K H d (g i j)) : BinSem X f sem := by
  intro dx dy x y H t d Q sx sy hs q
  obtain ⟨i, j, rfl, rfl, rfl, e⟩ := h _ _ _ _ hs
  obtain rfl : x = .int i := sx
  obtain rfl : y = .int j := sy
  exact OpRun.of o ⟨i, j, rfl, rfl, q _ H (Ext.refl H) (e H)⟩
theorem sem_sub : BinSem X (binaryOp .Sub) subP := sem_int0 op_sub fun a b t d h => by
  unfold subP at h
  split at h <;> cases h
  exact ⟨_, _, rfl, rfl, rfl, fun _ => rfl⟩
theorem sem_mul : BinSem X (binaryOp .Mult) mulP := sem_int op_mulW fun a b t d h => by
  unfold mulP at h
  split at h
  · split at h
    · rename_i hc
      cases h
      exact ⟨_, _, rfl, rfl, hc, rfl, fun _ => rfl⟩
    · cases h
  · cases h
theorem sem_fdiv : BinSem X (binaryOp .FloorDiv) fdivP := sem_int op_fdivW fun a b t d h => by
  unfold fdivP at h
  split at h
  · split at h
    · rename_i hc
      cases h
      exact ⟨_, _, rfl, rfl, hc, rfl, fun _ => rfl⟩
    · cases h
  · cases h
theorem sem_mod : BinSem X (binaryOp .Mod) modP := sem_int op_mod fun a b t d h => by
  unfold modP at h
  split at h
  · split at h
    · rename_i hc
      cases h
      exact ⟨_, _, rfl, rfl, hc, rfl, fun _ => rfl⟩
    · cases h
  · cases h
theorem sem_cmpI {f : Value → Value → Sem Value} {g : Int → Int → Bool} (o : OpR X f (rI0 fun i j => .bl (g i j))) : BinSem X f (ltP g) := sem_int0 o fun a b t d h => by
  unfold ltP at h
  split at h <;> cases h
  exact ⟨_, _, rfl, rfl, rfl, fun _ => rfl⟩
theorem sem_lt : BinSem X (compareOp .Lt) (ltP fun i j => decide (i < j)) := sem_cmpI op_lt
theorem sem_le : BinSem X (compareOp .LtE) (ltP fun i j => decide (i ≤ j)) := sem_cmpI op_le
theorem sem_gt : BinSem X (compareOp .Gt) (ltP fun i j => decide (j < i)) := sem_cmpI op_gt
theorem sem_ge : BinSem X (compareOp .GtE) (ltP fun i j => decide (j ≤ i)) := sem_cmpI op_ge
theorem eqOk_out {a b : PyData} (h : eqOk a b = true) : a.plain = true ∧ b.plain = true ∧ min a.depth b.depth ≤ 60 := by
  unfold eqOk at h
  rw [Bool.and_eq_true, Bool.and_eq_true] at h
  exact ⟨h.1.1, h.1.2, of_decide_eq_true h.2⟩
theorem sem_eq (c : Ct X k) : BinSem X (compareOp .Eq) eqP := by
  intro dx dy x y H t d Q sx sy hs q
  unfold eqP at hs
  split at hs
  · rename_i ok
    cases hs
    obtain ⟨h1, h2, h3⟩ := eqOk_out ok
    intro pins s σ v u I rx ry
    obtain ⟨as, ra⟩ := Sh.reads I.hok I.kIn dx sx rx
    obtain ⟨bs, rb⟩ := Sh.reads I.hok I.kIn dy sy ry
    exact PySem.SeqAt.eq_plain ra rb h1 h2 (by have := c.room.units; omega) ⟨.bl _, H, I, rfl, q _ H (Ext.refl H) rfl⟩
  · cases hs
theorem sem_ne (c : Ct X k) : BinSem X (compareOp .NotEq) neP := by
  intro dx dy x y H t d Q sx sy hs q
  unfold neP at hs
  split at hs
  · rename_i ok
    cases hs
    obtain ⟨h1, h2, h3⟩ := eqOk_out ok
    intro pins s σ v u I rx ry
    obtain ⟨as, ra⟩ := Sh.reads I.hok I.kIn dx sx rx
    obtain ⟨bs, rb⟩ := Sh.reads I.hok I.kIn dy sy ry
    exact PySem.SeqAt.ne_plain ra rb h1 h2 (by have := c.room.units; omega) ⟨.bl _, H, I, rfl, q _ H (Ext.refl H) rfl⟩
  · cases hs
theorem inOk_out {x : PyData} {xs : List PyData} (h : inOk x xs = true) : PyData.plainAll xs = true ∧ x.plain = true ∧ min (PyData.depthAll xs) x.depth ≤ 60 := by
  unfold inOk at h
  rw [Bool.and_eq_true, Bool.and_eq_true] at h
  exact ⟨h.1.1, h.1.2, of_decide_eq_true h.2⟩
theorem sem_in (c : Ct X k) : BinSem X (compareOp .In) (inP false) := by
  intro dx dy x y H t d Q sx sy hs q
  unfold inP at hs
  split at hs
  · split at hs
    · rename_i xs ok
      cases hs
      obtain ⟨h1, h2, h3⟩ := inOk_out ok
      intro pins s σ v u I rx ry
      obtain ⟨as, ra⟩ := Sh.reads I.hok I.kIn dx sx rx
      obtain ⟨bs, rb⟩ := Sh.reads I.hok I.kIn _ sy ry
      exact PySem.SeqAt.in_list_data rb ra h1 h2 (by have := c.room.units; omega) ⟨.bl _, H, I, rfl, q _ H (Ext.refl H) (by rw [Bool.false_xor]; rfl)⟩
    · cases hs
  · split at hs
    · rename_i xs ok
      cases hs
      obtain ⟨h1, h2, h3⟩ := inOk_out ok
      intro pins s σ v u I rx ry
      obtain ⟨as, ra⟩ := Sh.reads I.hok I.kIn dx sx rx
      obtain ⟨bs, rb⟩ := Sh.reads I.hok I.kIn _ sy ry
      exact PySem.SeqAt.in_tuple_data rb ra h1 h2 (by have := c.room.units; omega) ⟨.bl _, H, I, rfl, q _ H (Ext.refl H) (by rw [Bool.false_xor]; rfl)⟩
    · cases hs
  · rename_i x' z
    split at hs
    · rename_i c' e
      cases hs
      obtain rfl : x = .str x' := sx
      obtain rfl : y = .str z := sy
      exact OpRun.of op_in_sign ⟨c', z, by rw [str_one e], rfl, q _ H (Ext.refl H) (by rw [Bool.false_xor]; rfl)⟩
    · cases hs
  · cases hs
theorem sem_notIn (c : Ct X k) : BinSem X (compareOp .NotIn) (inP true) := by
  intro dx dy x y H t d Q sx sy hs q
  unfold inP at hs
  split at hs
  · split at hs
    · rename_i xs ok
      cases hs
      obtain ⟨h1, h2, h3⟩ := inOk_out ok
      intro pins s σ v u I rx ry
      obtain ⟨as, ra⟩ := Sh.reads I.hok I.kIn dx sx rx
      obtain ⟨bs, rb⟩ := Sh.reads I.hok I.kIn _ sy ry
      exact PySem.SeqAt.notIn_list_data rb ra h1 h2 (by have := c.room.units; omega) ⟨.bl _, H, I, rfl, q _ H (Ext.refl H) (by rw [Bool.true_xor]; rfl)⟩
    · cases hs
  · split at hs
    · rename_i xs ok
      cases hs
      obtain ⟨h1, h2, h3⟩ := inOk_out ok
      intro pins s σ v u I rx ry
      obtain ⟨as, ra⟩ := Sh.reads I.hok I.kIn dx sx rx
      obtain ⟨bs, rb⟩ := Sh.reads I.hok I.kIn _ sy ry
      exact PySem.SeqAt.notIn_tuple_data rb ra h1 h2 (by have := c.room.units; omega) ⟨.bl _, H, I, rfl, q _ H (Ext.refl H) (by rw [Bool.true_xor]; rfl)⟩
    · cases hs
  · rename_i x' z
    split at hs
    · rename_i c' e
      cases hs
      obtain rfl : x = .str x' := sx
      obtain rfl : y = .str z := sy
      exact OpRun.of op_notIn_sign ⟨c', z, by rw [str_one e], rfl, q _ H (Ext.refl H) (by rw [Bool.true_xor]; rfl)⟩
    · cases hs
  · cases hs
end
end PP
set_option Elab.async false
set_option linter.all false
set_option maxRecDepth 100000
set_option maxHeartbeats 4000000
namespace PP
open PySem L2 PySem.Spec PyProof.Rows
section
variable {X : Cx} {a b e : Expr} {es : List Expr} {fa fb f : FE} {g : FA} {pos : Pos} {k : Nat}
/-! ### is None -/
def isNon : Vl → Bool
  | .py .none => true
  | _ => false
def fIsN (neg : Bool) (f : FE) : FE := fun sl S => bindE (f sl S) fun _ v S1 => some (.val .pure (.py (.bool (neg ^^ isNon v))) S1)
theorem RV.isNon {K : PySem.W.Frag} {mg : Str → Option Value} {H0 H : Hp} {φ : List Addr} {σ : L2.St} {sl : Sl} {t : Tg} {v : Vl} {u : V} (r : RV K mg H0 H φ σ sl t v u) : decide (u = .non) = PP.isNon v := by
  have ref : ∀ {p : Addr}, decide (V.ref p = V.non) = false := fun {p} => decide_eq_false (fun z => nomatch z)
  cases t with
  | fresh =>
    cases v with
    | py d =>
      obtain ⟨p, rfl, o, _⟩ := r
      rw [ref]
      cases d <;> first | rfl | exact o.elim
    | _ => exact r.elim
  | mine =>
    cases v with
    | py d =>
      obtain ⟨p, rfl, o, _⟩ := r
      rw [ref]
      cases d <;> first | rfl | exact o.elim
    | _ => exact r.elim
  | pure =>
    cases v with
    | py d =>
      cases d with
      | none => obtain rfl : u = .non := r; rfl
      | bool b => obtain rfl : u = .bl b := r; exact decide_eq_false (fun z => nomatch z)
      | int b => obtain rfl : u = .int b := r; exact decide_eq_false (fun z => nomatch z)
      | str b => obtain rfl : u = .str b := r; exact decide_eq_false (fun z => nomatch z)
      | list b => obtain ⟨p, _, rfl, _⟩ := r; exact ref
      | tuple b => obtain ⟨p, _, rfl, _⟩ := r; exact ref
      | dict b => obtain ⟨p, _, _, rfl, _⟩ := r; exact ref
    | fn f => obtain ⟨p, rfl, _⟩ := r; exact ref
    | err c d => obtain ⟨p, _, _, _, _, _, rfl, _⟩ := r; exact ref
    | box k => obtain ⟨p, _, rfl⟩ := r; exact ref
theorem isN_go {neg : Bool} {t : TE} (ha : Den X a fa) (ht : ∀ σ H Q, wE X a σ H (fun x H1 => Q (.bl (neg ^^ decide (x = .non))) H1) → t σ H Q)
    {H0 : Hp} {φ0 φ : List Addr} {σ : L2.St} {H : Hp} {sl : Sl} {S : SS} {r : ER} {Q : VK} {W : WX} (R : Rel X.K X.mg H0 φ0 φ σ H sl S) (tk : Takes X W) (hf : fIsN neg fa sl S = some r) (post : Post X H0 φ0 φ σ H sl Q W r) : t σ H Q := by
  refine ht σ H Q (den_then ha R tk hf post fun t1 v1 S1 u1 H1 φ1 hk R1 l1 rv1 post1 => ?_)
  cases hk
  rw [rv1.isNon]
  exact post1 _ H1 φ1 R1 (Le.refl _ _) rfl (fun z => nomatch z)
theorem den_isN {j : Nat} {p2 : Pos} (ha : Den X a fa) : Den X (.Compare a [.Is] [.Constant .none j p2] pos) (fIsN false fa) := .mk fun H0 φ0 φ σ H sl S r R hf Q W tk post =>
  wE.of (pe_cmp (pc_isN wE.pe)) (isN_go (t := tIsN (wE X a)) ha (fun σ H Q h => wE.imp h fun u H' q => by rw [Bool.false_xor] at q; exact q) R tk hf post)
theorem den_notN {j : Nat} {p2 : Pos} (ha : Den X a fa) : Den X (.Compare a [.IsNot] [.Constant .none j p2] pos) (fIsN true fa) := .mk fun H0 φ0 φ σ H sl S r R hf Q W tk post =>
  wE.of (pe_cmp (pc_notN wE.pe)) (isN_go (t := tNotN (wE X a)) ha (fun σ H Q h => wE.imp h fun u H' q => by rw [Bool.true_xor] at q; exact q) R tk hf post)
theorem denT_isN {j : Nat} {p2 : Pos} (ha : Den X a fa) : DenT X (.Compare a [.Is] [.Constant .none j p2] pos) (fTb (fIsN false fa)) := .mk fun H0 φ0 φ σ H sl S r R hf Q W tk post => by
  obtain ⟨r', h1, p⟩ := post_bool hf post
  refine wT.of (pt_cmp (pc_isN wE.pe)) ?_
  exact isN_go (t := tIsN (wE X a)) ha (fun σ H Q h => wE.imp h fun u H' q => by rw [Bool.false_xor] at q; exact q) R tk h1 p
theorem denT_notN {j : Nat} {p2 : Pos} (ha : Den X a fa) : DenT X (.Compare a [.IsNot] [.Constant .none j p2] pos) (fTb (fIsN true fa)) := .mk fun H0 φ0 φ σ H sl S r R hf Q W tk post => by
  obtain ⟨r', h1, p⟩ := post_bool hf post
  refine wT.of (pt_cmp (pc_notN wE.pe)) ?_
  exact isN_go (t := tNotN (wE X a)) ha (fun σ H Q h => wE.imp h fun u H' q => by rw [Bool.true_xor] at q; exact q) R tk h1 p

/-! ### x[i] -/
def ixP : PyData → PyData → Option PyData
  | .list xs, .int i => atI xs i
  | .tuple xs, .int i => atI xs i
  | .str z, .int i => if z.length ≤ LIM then (atI z.cps.toList i).map fun c => .str ⟨#[c]⟩ else none
  | _, _ => none
def fIx (fa fb : FE) : FE := fBin (fun x y => (ixP x y).map fun d => (.pure, d)) fa fb
theorem atI_rps {K : PySem.W.Frag} {H : Hp} {ds : List PyData} {vs : List V} {i : Int} {d : PyData} (r : Rps K H ds vs) (h : atI ds i = some d) : ∃ v, atI vs i = some v ∧ Rp K H d v := by
  unfold atI at h ⊢
  rw [r.len]
  cases e : ixN ds.length i with
  | none => rw [e] at h; cases h
  | some j => rw [e] at h; exact r.get h
def IxRun (X : Cx) : R2 := fun x y H Q => ∀ (value slice : Expr) (pins : List (Addr × Obj)) (s : Shared) (σ : L2.St) (v u : Value), Inv X pins σ H s → RelV x v → RelV y u →
  subscripted slice false v u = operate [v, u] (getItem v u) → wpAny (model X.prog X.w) X.A (subscriptTail value slice v u) (EP X pins σ Q) X.xe s
theorem IxRun.op : IxR X (IxRun X) := fun value slice pins s σ H x y v u Q I r1 r2 h hs => h value slice pins s σ v u I r1 r2 hs
theorem IxRun.of {r : R2} {x y : V} {H : Hp} {Q : VK} (o : IxR X r) (h : r x y H Q) : IxRun X x y H Q := fun value slice pins s σ v u I r1 r2 hs => o value slice pins s σ H x y v u Q I r1 r2 h hs
theorem den_ix (ha : Den X a fa) (hb : Den X b fb) (hs : PlainIx b) : Den X (.Subscript a b pos) (fIx fa fb) := by
  refine .mk ?_; intro H0 φ0 φ σ H sl S r R hf Q W tk post
  refine wE.of (pe_ix IxRun.op wE.pe wE.pe hs) ?_
  refine den_then ha R tk hf post fun t1 v1 S1 u1 H1 φ1 hk R1 l1 rv1 post1 => ?_
  refine den_then hb R1 tk hk post1 fun t2 v2 S2 u2 H2 φ2 hk2 R2 l2 rv2 post2 => ?_
  split at hk2
  · rename_i d1 d2 c1 c2
    split at hk2
    · rename_i t d hs
      cases hk2
      have s1 := (rv1.le l2).sh R2 c1
      have s2 := rv2.sh R2 c2
      have fin : ∀ {u : V}, t = .pure → Rp X.K H2 d u → Q u H2 := fun {u} e rp => by subst e; exact post2 u H2 φ2 R2 (Le.refl _ _) rp (fun z => nomatch z)
      obtain ⟨d', hs', e2⟩ := Option.map_eq_some_iff.mp hs
      cases e2
      unfold ixP at hs'
      split at hs'
      · rename_i xs i
        obtain ⟨p, vs, rfl, r1, a1⟩ := s1
        obtain rfl : u2 = .int i := s2
        obtain ⟨v, hv, rp⟩ := atI_rps a1 hs'
        exact IxRun.of ix_list ⟨p, vs, i, v, rfl, rfl, r1, hv, fin rfl rp⟩
      · rename_i xs i
        obtain ⟨p, vs, rfl, r1, a1⟩ := s1
        obtain rfl : u2 = .int i := s2
        obtain ⟨v, hv, rp⟩ := atI_rps a1 hs'
        exact IxRun.of ix_tup ⟨p, vs, i, v, rfl, rfl, r1, hv, fin rfl rp⟩
      · rename_i z i
        split at hs'
        · rename_i hl
          obtain ⟨c, h, e3⟩ := Option.map_eq_some_iff.mp hs'
          cases e3
          obtain rfl : u1 = .str z := s1
          obtain rfl : u2 = .int i := s2
          exact IxRun.of ix_str ⟨z, i, c, rfl, rfl, lim_line hl, h, fin rfl rfl⟩
        · cases hs'
      · cases hs'
    · cases hk2
  · cases hk2

/-! ### x[i:j] -/
abbrev FO := Sl → SS → Option (Option Int × SS)
def DenO_ (X : Cx) (e : Option Expr) (f : FO) : Prop :=
  ∀ (H0 : Hp) (φ0 φ : List Addr) (σ : L2.St) (H : Hp) (sl : Sl) (S : SS) (o : Option Int) (S' : SS), Rel X.K X.mg H0 φ0 φ σ H sl S → f sl S = some (o, S') →
    ∀ (Q : Option Int → Hp → Prop) (W : WX), Takes X W → (∀ H' φ', Rel X.K X.mg H0 φ0 φ' σ H' sl S' → Le φ H φ' H' → Q o H') →
      ∀ (pins : List (Addr × Obj)) (s : Shared), Inv X pins σ H s → wpAny (model X.prog X.w) X.A (evalPart e X.env) (fun u s' => ∃ o H', Inv X pins σ H' s' ∧ IsPart u o ∧ Q o H') X.xe s
structure DenO (X : Cx) (e : Option Expr) (f : FO) : Prop where
  run : DenO_ X e f
instance {X : Cx} {e : Option Expr} {f : FO} : CoeFun (DenO X e f) (fun _ => DenO_ X e f) := ⟨DenO.run⟩
def wO (X : Cx) (e : Option Expr) : TO := fun σ H Q => ∀ (pins : List (Addr × Obj)) (s : Shared), Inv X pins σ H s → wpAny (model X.prog X.w) X.A (evalPart e X.env) (fun u s' => ∃ o H', Inv X pins σ H' s' ∧ IsPart u o ∧ Q o H') X.xe s
theorem wO.po {e : Option Expr} : PO X e (wO X e) := ⟨fun pins s σ H Q I h => h pins s I⟩
def foNone : FO := fun _ S => some (none, S)
def foSome (f : FE) : FO := fun sl S => match f sl S with
  | some (.val _ (.py (.int i)) S') => some (some i, S')
  | _ => none
theorem denO_none : DenO X none foNone := .mk fun H0 φ0 φ σ H sl S o S' R hf Q W tk post pins s I => by
  cases hf
  exact po_none.run pins s σ H Q I (post H φ R (Le.refl _ _))
theorem RV.int {K : PySem.W.Frag} {mg : Str → Option Value} {H0 H : Hp} {φ : List Addr} {σ : L2.St} {sl : Sl} {t : Tg} {i : Int} {u : V} (r : RV K mg H0 H φ σ sl t (.py (.int i)) u) : u = .int i := by
  cases t with
  | pure => exact r
  | fresh => obtain ⟨_, _, o, _⟩ := r; exact o.elim
  | mine => obtain ⟨_, _, o, _⟩ := r; exact o.elim
theorem denO_some (h : Den X e f) : DenO X (some e) (foSome f) := .mk fun H0 φ0 φ σ H sl S o S' R hf Q W tk post pins s I => by
  unfold foSome at hf
  split at hf
  · rename_i t i S1 h1
    cases hf
    exact (po_some wE.pe).run pins s σ H Q I (h H0 φ0 φ σ H sl S _ R h1 _ W tk fun u H1 φ1 R1 l1 rv _ => ⟨i, rv.int, post H1 φ1 R1 l1⟩)
  · cases hf
def cutD (xs : List PyData) (lo hi : Option Int) : List PyData := (xs.drop (HT.sIx xs.length 0 lo)).take (HT.sIx xs.length xs.length hi - HT.sIx xs.length 0 lo)
theorem cut_rps {K : PySem.W.Frag} {H : Hp} {ds : List PyData} {vs : List V} (r : Rps K H ds vs) (lo hi : Option Int) : Rps K H (cutD ds lo hi) (cutV vs lo hi) := by
  unfold cutD cutV
  rw [r.len]
  exact (r.drop _).take _
def slP : PyData → Option Int → Option Int → Option (Tg × PyData)
  | .list xs, lo, hi => some (.fresh, .list (cutD xs lo hi))
  | .tuple xs, lo, hi => some (.pure, .tuple (cutD xs lo hi))
  | .str z, lo, hi => if z.length ≤ LIM then some (.pure, .str (cutS z lo hi)) else none
  | _, _, _ => none
def fSl (fa : FE) (fl fh : FO) : FE := fun sl S => bindE (fa sl S) fun _ v S1 => match fl sl S1 with
  | some (lo, S2) => match fh sl S2 with
    | some (hi, S3) => match cont S3 v with
      | some d => match slP d lo hi with
        | some (t, d') => some (.val t (.py d') S3)
        | none => none
      | none => none
    | none => none
  | none => none
def SlRun (X : Cx) : V → Option Int → Option Int → Hp → VK → Prop := fun x lo hi H Q => ∀ (pins : List (Addr × Obj)) (s : Shared) (σ : L2.St) (v vl vu : Value) (sl : Addr), Inv X pins σ H s → RelV x v → s.heap.IsSliceOf sl vl vu .none → IsPart vl lo → IsPart vu hi →
  ∃ T id, typeLookup (.type T) "__getitem__" = Pure.pure (some (.builtin id)) ∧ s.TypeIs v T ∧ wpAny (model X.prog X.w) X.A (getItem v (.ref sl)) (EP X pins σ Q) X.xe s
theorem SlRun.op : SlR X (SlRun X) := fun pins s σ H x v vl vu lo hi sl Q I rx hs pl pu h => h pins s σ v vl vu sl I rx hs pl pu
theorem SlRun.of {r : V → Option Int → Option Int → Hp → VK → Prop} {x : V} {lo hi : Option Int} {H : Hp} {Q : VK} (o : SlR X r) (h : r x lo hi H Q) : SlRun X x lo hi H Q := fun pins s σ v vl vu sl I rx hs pl pu => o pins s σ H x v vl vu lo hi sl Q I rx hs pl pu h
theorem den_sl {lo hi : Option Expr} {fl fh : FO} {p2 : Pos} (ha : Den X a fa) (hl : DenO X lo fl) (hh : DenO X hi fh) : Den X (.Subscript a (.Slice lo hi none p2) pos) (fSl fa fl fh) := by
  refine .mk ?_; intro H0 φ0 φ σ H sl S r R hf Q W tk post
  refine wE.of (pe_slice SlRun.op wE.pe wO.po wO.po) ?_
  refine den_then ha R tk hf post fun t1 v1 S1 u1 H1 φ1 hk R1 l1 rv1 post1 => ?_
  split at hk
  · rename_i lv S2 h2
    refine hl H0 φ0 φ1 σ H1 sl S1 lv S2 R1 h2 _ W tk fun H2 φ2 R2 l2 => ?_
    split at hk
    · rename_i hv S3 h3
      refine hh H0 φ0 φ2 σ H2 sl S2 hv S3 R2 h3 _ W tk fun H3 φ3 R3 l3 => ?_
      have post3 := (post1.le l2 R2).le l3 R3
      split at hk
      · rename_i d hc
        have sh := ((rv1.le l2).le l3).sh R3 hc
        split at hk
        · rename_i t d' hs
          cases hk
          unfold slP at hs
          split at hs
          · cases hs
            obtain ⟨p, vs, rfl, r1, a1⟩ := sh
            refine SlRun.of sl_list ⟨p, vs, rfl, r1, fun l hl' => ?_⟩
            have ex : Ext H3 (upd H3 l (.lst (cutV vs lv hv))) := Ext.new hl'
            have ro : RO X.K H3 (upd H3 l (.lst (cutV vs lv hv))) .fresh (.list (cutD _ lv hv)) (.ref l) := ⟨l, rfl, ⟨_, upd_same, (cut_rps a1 _ _).mono ex.fz⟩, hl'⟩
            exact post3 _ _ φ3 (R3.ext ex) ex.le (ro.rv R3) ro.new
          · rename_i xs
            cases hs
            obtain ⟨p, vs, rfl, r1, a1⟩ := sh
            refine SlRun.of sl_tupA ⟨p, vs, rfl, r1, fun hw => ?_, fun _ l hl' => ?_⟩
            · refine post3 _ H3 φ3 R3 (Le.refl _ _) ⟨p, vs, rfl, r1, ?_⟩ (fun z => nomatch z)
              have q := cut_rps a1 lv hv
              have e : cutV vs lv hv = vs := by
                unfold cutV
                rw [hw.1, hw.2, List.drop_zero, Nat.sub_zero, List.take_length]
              rw [e] at q
              exact q
            · have ex : Ext H3 (upd H3 l (.tup (cutV vs lv hv))) := Ext.new hl'
              exact post3 _ _ φ3 (R3.ext ex) ex.le ⟨l, _, rfl, SqT.of upd_same, (cut_rps a1 _ _).mono ex.fz⟩ (fun z => nomatch z)
          · rename_i z
            split at hs
            · rename_i hz
              cases hs
              obtain rfl : u1 = .str z := sh
              exact SlRun.of sl_str ⟨z, rfl, lim_line hz, post3 _ H3 φ3 R3 (Le.refl _ _) rfl (fun z => nomatch z)⟩
            · cases hs
          · cases hs
        · cases hk
      · cases hk
    · cases hk
  · cases hk
end
end PP
set_option Elab.async false
set_option linter.all false
set_option maxRecDepth 100000
set_option maxHeartbeats 4000000
namespace PP
open PySem L2 PySem.Spec PyProof.Rows
/-! ### calls of what is built in -/
def conts (S : SS) : List (Tg × Vl) → Option (List PyData)
  | [] => some []
  | (_, v) :: r => match cont S v, conts S r with
    | some d, some ds => some (d :: ds)
    | _, _ => none
def Shs (K : PySem.W.Frag) (H : Hp) : List PyData → List V → Prop
  | [], us => us = []
  | d :: ds, us => ∃ u r, us = u :: r ∧ Sh K H d u ∧ Shs K H ds r
theorem RVs.shs {K : PySem.W.Frag} {mg : Str → Option Value} {H0 H : Hp} {φ0 φ : List Addr} {σ : L2.St} {sl : Sl} {S : SS} (R : Rel K mg H0 φ0 φ σ H sl S) : ∀ {xs : List (Tg × Vl)} {us : List V} {ds : List PyData}, RVs K mg H0 H φ σ sl xs us → conts S xs = some ds → Shs K H ds us
  | [], _, _, h, e => by cases e; exact h
  | (t, v) :: r, _, ds, ⟨u, q, e, a, b⟩, h => by
    unfold conts at h
    split at h
    · rename_i d ds' h1 h2
      cases h
      exact ⟨u, q, e, a.sh R h1, RVs.shs R b h2⟩
    · cases h
def CallRun (X : Cx) (f : Value) : List V → Hp → VK → Prop := fun xs H Q => ∀ (pins : List (Addr × Obj)) (s : Shared) (σ : L2.St) (us : List Value), Inv X pins σ H s → Vals xs us → wpAny (model X.prog X.w) X.A (call f us) (EP X pins σ Q) X.xe s
theorem CallRun.op {X : Cx} {f : Value} : CallR X f (CallRun X f) := fun pins s σ H xs us Q I r h => h pins s σ us I r
theorem CallRun.of {X : Cx} {f : Value} {r : List V → Hp → VK → Prop} {xs : List V} {H : Hp} {Q : VK} (o : CallR X f r) (h : r xs H Q) : CallRun X f xs H Q := fun pins s σ us I rs => o pins s σ H xs us Q I rs h
def CallSem (X : Cx) (f : Value) (sem : List PyData → Option (Tg × PyData)) : Prop :=
  ∀ (ds : List PyData) (xs : List V) (H : Hp) (t : Tg) (d : PyData) (Q : VK), Shs X.K H ds xs → sem ds = some (t, d) → (∀ u H', Ext H H' → RO X.K H H' t d u → Q u H') → CallRun X f xs H Q
def fCall (sem : List PyData → Option (Tg × PyData)) (g : FA) : FE := fun sl S => match g sl S with
  | some (.vals xs S1) => match conts S1 xs with
    | some ds => match sem ds with
      | some (t, d) => some (.val t (.py d) S1)
      | none => none
    | none => none
  | some (.exn c d S1) => some (.exn c d S1)
  | none => none
section
variable {X : Cx} {a b e : Expr} {es : List Expr} {fa fb f : FE} {g : FA} {p pos : Pos} {x : Str} {id T : String} {k : Nat}
theorem call_go {f : Value} {sem : List PyData → Option (Tg × PyData)} (hs : CallSem X f sem) (h : DenA X es g)
    {H0 : Hp} {φ0 φ : List Addr} {σ : L2.St} {H : Hp} {sl : Sl} {S : SS} {r : ER} {Q : VK} {W : WX} (R : Rel X.K X.mg H0 φ0 φ σ H sl S) (tk : Takes X W) (hf : fCall sem g sl S = some r) (post : Post X H0 φ0 φ σ H sl Q W r) :
    tCB (CallRun X f) (wA X es) σ H Q := by
  unfold fCall at hf
  split at hf
  · rename_i xs S1 h1
    split at hf
    · rename_i ds h2
      split at hf
      · rename_i t d h3
        cases hf
        refine h H0 φ0 φ σ H sl S _ R h1 _ W tk fun us H1 φ1 R1 l1 rvs => ?_
        have post1 := Post.le l1 R1 post
        exact hs ds us H1 t d Q (rvs.shs R1 h2) h3 fun u H' e ro => post1 u H' φ1 (R1.ext e) e.le (ro.rv R1) ro.new
      · cases hf
    · cases hf
  · rename_i c d S1 h1
    cases hf
    exact h H0 φ0 φ σ H sl S _ R h1 _ W tk post
  · cases hf
theorem den_callB {sem : List PyData → Option (Tg × PyData)} (hs : CallSem X (.builtin id) sem) (hg : Gl X x) (hm : X.mg x = none) (hv : bootBuiltins x = some (.builtin id)) (h : DenA X (e :: es) g) (hn : x ≠ "__name__") (hdb : (x == ("__debug__" : Str)) = false)
    (he : starEach (e :: es) X.env = (false, eval e X.env) :: starEach es X.env) (hpl : (backTo pos (starEach es X.env)).any (·.1) = false) : Den X (.Call (.Name x p) (e :: es) [] pos) (fCall sem g) :=
  .mk fun H0 φ0 φ σ H sl S r R hf Q W tk post => wE.of (pe_callB CallRun.op hg hm hv wA.pa hn hdb he hpl) (call_go hs h R tk hf post)
theorem den_callTy {sem : List PyData → Option (Tg × PyData)} (hs : CallSem X (.type T) sem) (hg : Gl X x) (hm : X.mg x = none) (hv : bootBuiltins x = some (.type T)) (h : DenA X (e :: es) g) (hn : x ≠ "__name__") (hdb : (x == ("__debug__" : Str)) = false)
    (he : starEach (e :: es) X.env = (false, eval e X.env) :: starEach es X.env) (hpl : (backTo pos (starEach es X.env)).any (·.1) = false) : Den X (.Call (.Name x p) (e :: es) [] pos) (fCall sem g) :=
  .mk fun H0 φ0 φ σ H sl S r R hf Q W tk post => wE.of (pe_callTy CallRun.op hg hm hv wA.pa hn hdb he hpl) (call_go hs h R tk hf post)
/-! ### .. what they give -/
def lenP : List PyData → Option (Tg × PyData)
  | [.list xs] => some (.pure, .int xs.length)
  | [.tuple xs] => some (.pure, .int xs.length)
  | [.str z] => if z.length ≤ LIM then some (.pure, .int z.length) else none
  | _ => none
theorem sem_len : CallSem X (.builtin "len") lenP := by
  intro ds xs H t d Q sh hs q
  unfold lenP at hs
  split at hs
  · rename_i ys
    cases hs
    obtain ⟨u, r, rfl, ⟨p, vs, rfl, r1, a1⟩, rfl⟩ := sh
    exact CallRun.of call_len ⟨_, vs.length, rfl, .inl ⟨vs, r1, rfl⟩, q _ H (Ext.refl H) (by rw [a1.len]; rfl)⟩
  · rename_i ys
    cases hs
    obtain ⟨u, r, rfl, ⟨p, vs, rfl, r1, a1⟩, rfl⟩ := sh
    exact CallRun.of call_len ⟨_, vs.length, rfl, .inr ⟨vs, r1, rfl⟩, q _ H (Ext.refl H) (by rw [a1.len]; rfl)⟩
  · rename_i z
    split at hs
    · rename_i hz
      cases hs
      obtain ⟨u, r, rfl, h1, rfl⟩ := sh
      obtain rfl : u = .str z := h1
      exact CallRun.of call_len ⟨_, z.length, rfl, ⟨lim_line hz, rfl⟩, q _ H (Ext.refl H) rfl⟩
    · cases hs
  · cases hs
def isB : PyData → Bool
  | .bool _ => true
  | _ => false
def allP : List PyData → Option (Tg × PyData)
  | [.list xs] => if xs.all isB then some (.pure, .bool (xs.all PyData.truthy)) else none
  | _ => none
def anyP : List PyData → Option (Tg × PyData)
  | [.list xs] => if xs.all isB then some (.pure, .bool (xs.any PyData.truthy)) else none
  | _ => none
theorem isB_plain : ∀ {xs : List PyData}, xs.all isB = true → PyData.plainAll xs = true
  | [], _ => rfl
  | .bool _ :: r, h => by rw [PyData.plainAll]; exact (by simpa [PyData.plain, isB] using isB_plain (by simpa [isB] using h))
  | .none :: _, h => by simp [isB] at h
  | .int _ :: _, h => by simp [isB] at h
  | .str _ :: _, h => by simp [isB] at h
  | .list _ :: _, h => by simp [isB] at h
  | .tuple _ :: _, h => by simp [isB] at h
  | .dict _ :: _, h => by simp [isB] at h
theorem isB_fits {xs : List PyData} (h : xs.all isB = true) : ∀ y ∈ xs, y.fits63 := fun y hy => by
  have := List.all_eq_true.mp h y hy
  cases y <;> first | trivial | cases this
theorem sem_all (c : Ct X k) : CallSem X (.builtin "all") allP := by
  intro ds xs H t d Q sh hs q
  unfold allP at hs
  split at hs
  · rename_i ys
    split at hs
    · rename_i hb
      cases hs
      obtain ⟨u, r, rfl, sh1, rfl⟩ := sh
      intro pins s σ us I rs
      obtain ⟨u2, rfl, r1⟩ := vals1 rs
      obtain ⟨as, ra⟩ := Sh.reads I.hok I.kIn _ sh1 r1
      cases ra with
      | list h1 h2 h3 h4 =>
        exact PySem.W.all_list_data c.room.hd ⟨_, h1, h2, _, h3⟩ h4 (isB_plain hb) (isB_fits hb) fun h' tk hk => ⟨.bl _, H, I.kept (t' := tk) hk, rfl, q _ H (Ext.refl H) rfl⟩
    · cases hs
  · cases hs
theorem sem_any (c : Ct X k) : CallSem X (.builtin "any") anyP := by
  intro ds xs H t d Q sh hs q
  unfold anyP at hs
  split at hs
  · rename_i ys
    split at hs
    · rename_i hb
      cases hs
      obtain ⟨u, r, rfl, sh1, rfl⟩ := sh
      intro pins s σ us I rs
      obtain ⟨u2, rfl, r1⟩ := vals1 rs
      obtain ⟨as, ra⟩ := Sh.reads I.hok I.kIn _ sh1 r1
      cases ra with
      | list h1 h2 h3 h4 =>
        exact PySem.W.any_list_data c.room.hd ⟨_, h1, h2, _, h3⟩ h4 (isB_plain hb) (isB_fits hb) fun h' tk hk => ⟨.bl _, H, I.kept (t' := tk) hk, rfl, q _ H (Ext.refl H) rfl⟩
    · cases hs
  · cases hs
theorem ra_nil_as {h : Heap} {vs : List Value} {as : List Addr} (r : ReadsAll h vs [] as) : as = [] := by cases r; rfl
def isE : PyData → Bool
  | .dict [] => true
  | _ => false
/-- at most so long a text of a thing -/
def reprOk (d : PyData) : Bool := d.showable && decide (d.depth ≤ DEEP) && decide (d.shown.length ≤ LIM) && (!d.hasDict || isE d)
def reprP : List PyData → Option (Tg × PyData)
  | [d] => if reprOk d then some (.pure, .str d.shown) else none
  | _ => none
theorem sem_repr (c : Ct X k) : CallSem X (.builtin "repr") reprP := by
  intro ds xs H t d Q sh hs q
  unfold reprP at hs
  split at hs
  · rename_i y
    split at hs
    · rename_i hb
      cases hs
      unfold reprOk at hb
      simp only [Bool.and_eq_true, decide_eq_true_eq] at hb
      obtain ⟨⟨⟨h1, h2⟩, h3⟩, h4⟩ := hb
      have h2 : y.depth ≤ 60 := h2
      obtain ⟨u, r, rfl, sh1, rfl⟩ := sh
      intro pins s σ us I rs
      obtain ⟨u2, rfl, r1⟩ := vals1 rs
      have hsz := lim_line h3
      have fin : ∀ {h' : Heap} {tk : Nat} {t : Tok}, (∀ b o, s.heap.get? b = some o → h'.get? b = some o) → EP X pins σ Q (.str y.shown t) { s with heap := h', toks := tk } := fun {h' tk t} hk => ⟨.str _, H, I.kept (t' := tk) hk, ⟨t, rfl⟩, q _ H (Ext.refl H) rfl⟩
      have un := c.room.units
      have ref : ∀ {l : Addr} {as : List Addr}, u2 = .ref l → Reads s.heap (.ref l) y as → (y.hasDict = true → sysModules ∉ as) → wpAny (model X.prog X.w) X.A (call (.builtin "repr") [u2]) (EP X pins σ Q) X.xe s := fun {l as} e rd hsm => by
        subst e
        exact repr_of_reads' rd h1 hsm c.gd (by omega) (fun _ _ z => z) (fun h' u tk hk => fin hk) hsz
      obtain ⟨as, ra⟩ := Sh.reads I.hok I.kIn y sh1 r1
      cases y with
      | none =>
        obtain rfl : u = .non := sh1
        cases r1
        exact PySem.P.repr_of_none (fin fun _ _ z => z)
      | bool b =>
        obtain rfl : u = .bl b := sh1
        cases r1
        exact PySem.P.repr_of_bool (fin fun _ _ z => z)
      | int i =>
        obtain rfl : u = .int i := sh1
        obtain ⟨t, rfl⟩ := r1
        exact PySem.P.repr_of_int (by simpa [PyData.showable] using h1) (fin fun _ _ z => z)
      | str z =>
        obtain rfl : u = .str z := sh1
        obtain ⟨t, rfl⟩ := r1
        exact PySem.P.repr_of_str (fin fun _ _ z => z) hsz
      | list ys =>
        obtain ⟨p, vs, rfl, _⟩ := sh1
        cases r1
        refine ref rfl ra fun hd => ?_
        rw [hd] at h4
        simp [isE] at h4
      | tuple ys =>
        obtain ⟨p, vs, rfl, _⟩ := sh1
        cases r1
        refine ref rfl ra fun hd => ?_
        rw [hd] at h4
        simp [isE] at h4
      | dict kvs =>
        obtain ⟨p, ks, rfl, rd, _⟩ := sh1
        cases r1
        cases kvs with
        | cons x r => simp [isE, PyData.hasDict] at h4
        | nil =>
          have hne := (dk_rd I.hok rd).2.1
          refine ref rfl ra fun _ hm => ?_
          cases ra with
          | dict e1 e2 e3 e4 e5 =>
            rw [ra_nil_as e4, ra_nil_as e5] at hm
            rw [List.mem_singleton.mp hm] at hne
            exact absurd hne (by simp)
    · cases hs
  · cases hs
/-- int(x), abs(x), max(x, y), str(n) -/
def intP : List PyData → Option (Tg × PyData)
  | [.int i] => some (.pure, .int i)
  | _ => none
theorem sem_intT : CallSem X (.type "int") intP := by
  intro ds xs H t d Q sh hs q
  unfold intP at hs
  split at hs
  · rename_i i
    cases hs
    obtain ⟨u, r, rfl, h1, rfl⟩ := sh
    obtain rfl : u = .int i := h1
    exact CallRun.of call_int1 (.inl ⟨i, rfl, q _ H (Ext.refl H) rfl⟩)
  · cases hs
def maxP : List PyData → Option (Tg × PyData)
  | [.int i, .int j] => some (.pure, .int (if j > i then j else i))
  | _ => none
theorem sem_max (c : Ct X k) : CallSem X (.builtin "max") maxP := by
  intro ds xs H t d Q sh hs q
  unfold maxP at hs
  split at hs
  · rename_i i j
    cases hs
    obtain ⟨u, r, rfl, h1, u2, r2, rfl, h2, rfl⟩ := sh
    obtain rfl : u = .int i := h1
    obtain rfl : u2 = .int j := h2
    exact CallRun.of (call_max2 c.calm) ⟨i, j, rfl, q _ H (Ext.refl H) rfl⟩
  · cases hs
def absP : List PyData → Option (Tg × PyData)
  | [.int i] => some (.pure, .int (if i < 0 then -i else i))
  | _ => none
theorem sem_abs : CallSem X (.builtin "abs") absP := by
  intro ds xs H t d Q sh hs q
  unfold absP at hs
  split at hs
  · rename_i i
    cases hs
    obtain ⟨u, r, rfl, h1, rfl⟩ := sh
    obtain rfl : u = .int i := h1
    exact CallRun.of call_abs ⟨i, rfl, q _ H (Ext.refl H) rfl⟩
  · cases hs
def strP : List PyData → Option (Tg × PyData)
  | [.int i] => if i.natAbs.log2 < 1920 then some (.pure, .str (toString i)) else none
  | _ => none
theorem sem_str : CallSem X (.type "str") strP := by
  intro ds xs H t d Q sh hs q
  unfold strP at hs
  split at hs
  · rename_i i
    split at hs
    · rename_i hz
      cases hs
      obtain ⟨u, r, rfl, h1, rfl⟩ := sh
      obtain rfl : u = .int i := h1
      exact CallRun.of call_str_int ⟨i, rfl, hz, q _ H (Ext.refl H) rfl⟩
    · cases hs
  · cases hs
/-- list(x), tuple(x) -/
def listP : List PyData → Option (Tg × PyData)
  | [.list xs] => some (.fresh, .list xs)
  | [.tuple xs] => some (.fresh, .list xs)
  | _ => none
def tupleP : List PyData → Option (Tg × PyData)
  | [.list xs] => some (.pure, .tuple xs)
  | [.tuple xs] => some (.pure, .tuple xs)
  | _ => none
theorem sem_list : CallSem X (.type "list") listP := by
  intro ds xs H t d Q sh hs q
  unfold listP at hs
  split at hs
  · rename_i ys
    cases hs
    obtain ⟨u, r, rfl, ⟨p, vs, rfl, r1, a1⟩, rfl⟩ := sh
    refine CallRun.of call_list_of ⟨p, vs, rfl, .inl r1, fun l hl => ?_⟩
    have ex : Ext H (upd H l (.lst vs)) := Ext.new hl
    exact q _ _ ex ⟨l, rfl, ⟨vs, upd_same, a1.mono ex.fz⟩, hl⟩
  · rename_i ys
    cases hs
    obtain ⟨u, r, rfl, ⟨p, vs, rfl, r1, a1⟩, rfl⟩ := sh
    refine CallRun.of call_list_of ⟨p, vs, rfl, .inr r1, fun l hl => ?_⟩
    have ex : Ext H (upd H l (.lst vs)) := Ext.new hl
    exact q _ _ ex ⟨l, rfl, ⟨vs, upd_same, a1.mono ex.fz⟩, hl⟩
  · cases hs
theorem sem_tuple : CallSem X (.type "tuple") tupleP := by
  intro ds xs H t d Q sh hs q
  unfold tupleP at hs
  split at hs
  · rename_i ys
    cases hs
    obtain ⟨u, r, rfl, ⟨p, vs, rfl, r1, a1⟩, rfl⟩ := sh
    refine CallRun.of call_tuple_of ⟨p, vs, rfl, .inl ⟨r1, fun l hl => ?_⟩⟩
    have ex : Ext H (upd H l (.tup vs)) := Ext.new hl
    exact q _ _ ex ⟨l, vs, rfl, SqT.of upd_same, a1.mono ex.fz⟩
  · rename_i ys
    cases hs
    obtain ⟨u, r, rfl, ⟨p, vs, rfl, r1, a1⟩, rfl⟩ := sh
    exact CallRun.of call_tuple_of ⟨p, vs, rfl, .inr ⟨r1, q _ H (Ext.refl H) ⟨p, vs, rfl, r1, a1⟩⟩⟩
  · cases hs
end
end PP
set_option Elab.async false
set_option linter.all false
set_option maxRecDepth 100000
set_option maxHeartbeats 4000000
namespace PP
open PySem L2 PySem.Spec PyProof.Rows
/-! ### isinstance -/
inductive Ty where
  | int | bool | str | list | tuple | dict
  deriving DecidableEq
def Ty.nm : Ty → String
  | .int => "int" | .bool => "bool" | .str => "str" | .list => "list" | .tuple => "tuple" | .dict => "dict"
def tyN : PyData → String
  | .none => "NoneType" | .bool _ => "bool" | .int _ => "int" | .str _ => "str" | .list _ => "list" | .tuple _ => "tuple" | .dict _ => "dict"
def isTy : Ty → PyData → Bool
  | .int, .int _ => true
  | .int, .bool _ => true
  | .bool, .bool _ => true
  | .str, .str _ => true
  | .list, .list _ => true
  | .tuple, .tuple _ => true
  | .dict, .dict _ => true
  | _, _ => false
theorem kit_is (t : Ty) (d : PyData) : kitB (tyN d) t.nm = some (isTy t d) := by
  cases t <;> cases d <;> (simp only [tyN, Ty.nm, isTy]; decide +kernel)
theorem sh_ty {K : PySem.W.Frag} {H : Hp} : ∀ {d : PyData} {u : V}, Sh K H d u → TyX K H u (.type (tyN d))
  | .none, u, h => by obtain rfl : u = .non := h; exact .base .non
  | .bool b, u, h => by obtain rfl : u = .bl b := h; exact .base (.bl b)
  | .int i, u, h => by obtain rfl : u = .int i := h; exact .base (.int i)
  | .str z, u, h => by obtain rfl : u = .str z := h; exact .base (.str z)
  | .list ds, u, ⟨p, vs, e, r, _⟩ => by
    subst e
    rcases r with (r | ⟨o, r⟩) | ⟨o, its, n, hk, hc, _⟩
    · exact .base (.lst r)
    · exact .base (.frz r)
    · exact .kList hk hc
  | .tuple ds, u, ⟨p, vs, e, r, _⟩ => by
    subst e
    rcases r with (r | ⟨o, r⟩) | ⟨o, its, n, hk, hc, _⟩
    · exact .base (.tup r)
    · exact .fTuple r
    · exact .kTuple hk hc
  | .dict kvs, u, ⟨p, ks, e, r, _⟩ => by
    subst e
    rcases r with r | ⟨o, r⟩
    · exact .base (.dK r)
    · exact .fDict r
def fIsi (t : Ty) (f : FE) : FE := fun sl S => bindE (f sl S) fun _ v S1 => match cont S1 v with
  | some d => some (.val .pure (.py (.bool (isTy t d))) S1)
  | none => none
def fIsi2 (t1 t2 : Ty) (f : FE) : FE := fun sl S => bindE (f sl S) fun _ v S1 => match cont S1 v with
  | some d => some (.val .pure (.py (.bool (isTy t1 d || isTy t2 d))) S1)
  | none => none
section
variable {X : Cx} {e : Expr} {f : FE} {p q q1 q2 pos : Pos} {k : Nat}
theorem den_isi {t : Ty} {T : Str} (h : Den X e f) (hi : Gl X "isinstance") (mi : X.mg "isinstance" = none) (hg : Gl X T) (hm : X.mg T = none) (hv : bootBuiltins T = some (.type t.nm)) (hn : T ≠ "__name__") (hdb : (T == ("__debug__" : Str)) = false)
    (h1 : starEach [e, .Name T q] X.env = (false, eval e X.env) :: starEach [.Name T q] X.env) (h2 : starEach [.Name T q] X.env = (false, eval (.Name T q) X.env) :: starEach [] X.env) (hpl : (backTo pos (starEach [.Name T q] X.env)).any (·.1) = false) :
    Den X (.Call (.Name "isinstance" p) [e, .Name T q] [] pos) (fIsi t f) := by
  refine .mk ?_; intro H0 φ0 φ σ H sl S r R hf Q W tk post
  refine wE.of (pe_callB call_isi hi mi (by decide +kernel) (pa_cons wE.pe (pa_cons (pe_bltn (v := .ty t.nm) hg hm hv rfl hn hdb) pa_nil h2) h1) (by decide) (by decide) h1 hpl) ?_
  refine den_then h R tk hf post fun t1 v1 S1 u1 H1 φ1 hk R1 l1 rv1 post1 => ?_
  split at hk
  · rename_i d hc
    cases hk
    exact ⟨u1, .ty t.nm, _, _, isTy t d, rfl, .ty _, sh_ty (rv1.sh R1 hc), kit_ty (kit_is t d), post1 _ H1 φ1 R1 (Le.refl _ _) rfl (fun z => nomatch z)⟩
  · cases hk
theorem den_isi2 {t1 t2 : Ty} {T1 T2 : Str} {n : Nat} {tp : Pos} (h : Den X e f) (hi : Gl X "isinstance") (mi : X.mg "isinstance" = none)
    (hg1 : Gl X T1) (hm1 : X.mg T1 = none) (hv1 : bootBuiltins T1 = some (.type t1.nm)) (hn1 : T1 ≠ "__name__") (hdb1 : (T1 == ("__debug__" : Str)) = false)
    (hg2 : Gl X T2) (hm2 : X.mg T2 = none) (hv2 : bootBuiltins T2 = some (.type t2.nm)) (hn2 : T2 ≠ "__name__") (hdb2 : (T2 == ("__debug__" : Str)) = false)
    (h1 : starEach [e, .Tuple [.Name T1 q1, .Name T2 q2] n tp] X.env = (false, eval e X.env) :: starEach [.Tuple [.Name T1 q1, .Name T2 q2] n tp] X.env)
    (h2 : starEach [.Tuple [.Name T1 q1, .Name T2 q2] n tp] X.env = (false, eval (.Tuple [.Name T1 q1, .Name T2 q2] n tp) X.env) :: starEach [] X.env)
    (h3 : starEach [.Name T1 q1, .Name T2 q2] X.env = (false, eval (.Name T1 q1) X.env) :: starEach [.Name T2 q2] X.env) (h4 : starEach [.Name T2 q2] X.env = (false, eval (.Name T2 q2) X.env) :: starEach [] X.env)
    (hpl : (backTo pos (starEach [.Tuple [.Name T1 q1, .Name T2 q2] n tp] X.env)).any (·.1) = false) :
    Den X (.Call (.Name "isinstance" p) [e, .Tuple [.Name T1 q1, .Name T2 q2] n tp] [] pos) (fIsi2 t1 t2 f) := by
  refine .mk ?_; intro H0 φ0 φ σ H sl S r R hf Q W tk post
  refine wE.of (pe_callB call_isiT hi mi (by decide +kernel) (pa_cons wE.pe (pa_cons (pe_tup (pa_cons (pe_bltn (v := .ty t1.nm) hg1 hm1 hv1 rfl hn1 hdb1) (pa_cons (pe_bltn (v := .ty t2.nm) hg2 hm2 hv2 rfl hn2 hdb2) pa_nil h4) h3)) pa_nil h2) h1) (by decide) (by decide) h1 hpl) ?_
  refine den_then h R tk hf post fun t0 v1 S1 u1 H1 φ1 hk R1 l1 rv1 post1 => ?_
  split at hk
  · rename_i d hc
    cases hk
    refine ⟨by show 2 ≤ sizeLine; decide, fun l hl => ?_⟩
    have ex : Ext H1 (upd H1 l (.tup [.ty t1.nm, .ty t2.nm])) := Ext.new hl
    refine ⟨u1, l, [.ty t1.nm, .ty t2.nm], .type (tyN d), [.type t1.nm, .type t2.nm], isTy t1 d || isTy t2 d, rfl, upd_same, .cons (.ty _) (.cons (.ty _) .nil), sh_ty ((rv1.le ex.le).sh (R1.ext ex) hc), ?_, post1 _ _ φ1 (R1.ext ex) ex.le rfl (fun z => nomatch z)⟩
    refine kitAny_cons (kit_ty (kit_is t1 d)) (fun e1 => kitAny_cons (kit_ty (kit_is t2 d)) (fun e2 => ?_) fun e2 => ?_) fun e1 => ?_
    · rw [e1, e2]
      exact kitAny_nil
    · rw [e2, Bool.or_true]
    · rw [e1, Bool.true_or]
  · cases hk
end
end PP
set_option Elab.async false
set_option linter.all false
set_option maxRecDepth 100000
set_option maxHeartbeats 4000000
namespace PP
open PySem L2 PySem.Spec PyProof.Rows
/-! ## defs -/
abbrev FF := List Vl → SS → Option ER
structure BoxOk (K : PySem.W.Frag) (φ : List Addr) (H : Hp) (S : SS) : Prop where
  blen : φ.length = S.length
  nd : φ.Nodup
  box : ∀ (k : Nat) (a : Addr) (d : PyData), φ[k]? = some a → S[k]? = some d → Own1 K H a d
def RpVs (K : PySem.W.Frag) (mg : Str → Option Value) (H : Hp) (φ : List Addr) : List Vl → List V → Prop
  | [], us => us = []
  | v :: vs, us => ∃ u r, us = u :: r ∧ RpV K mg H φ v u ∧ RpVs K mg H φ vs r
theorem RpVs.len {K : PySem.W.Frag} {mg : Str → Option Value} {H : Hp} {φ : List Addr} : ∀ {as : List Vl} {us : List V}, RpVs K mg H φ as us → us.length = as.length
  | [], _, h => by cases h; rfl
  | _ :: _, _, ⟨u, r, e, _, b⟩ => by subst e; exact congrArg (· + 1) (RpVs.len b)
theorem RpVs.get {K : PySem.W.Frag} {mg : Str → Option Value} {H : Hp} {φ : List Addr} : ∀ {as : List Vl} {us : List V} {i : Nat} {v : Vl}, RpVs K mg H φ as us → as[i]? = some v → ∃ u, us[i]? = some u ∧ RpV K mg H φ v u
  | _ :: _, _, 0, _, ⟨u, r, e, a, _⟩, h => by subst e; cases h; exact ⟨u, rfl, a⟩
  | _ :: _, _, i + 1, _, ⟨u, r, e, _, b⟩, h => by subst e; exact RpVs.get (i := i) b h
/-- what a def hands back: what stands, or a new object -/
def RF (K : PySem.W.Frag) (mg : Str → Option Value) (H H' : Hp) (φ' : List Addr) : Tg → Vl → V → Prop
  | .pure, v, u => RpV K mg H' φ' v u
  | _, .py d, u => ∃ p, u = .ref p ∧ Own1 K H' p d ∧ H p = none ∧ p ∉ φ'
  | _, _, _ => False
def PostF (K : PySem.W.Frag) (mg : Str → Option Value) (φ : List Addr) (H : Hp) (Q : VK) (E : XK) : ER → Prop
  | .val t v S' => ∀ u H' φ', Le φ H φ' H' → BoxOk K φ' H' S' → RF K mg H H' φ' t v u → Q u H'
  | .exn c d S' => ∀ C dx H' φ', Le φ H φ' H' → BoxOk K φ' H' S' → ExAt K mg H' c d C dx → E (.ref C) (some dx) H'
/-- what a def promises: what its denotation says -/
def spF (K : PySem.W.Frag) (mg : Str → Option Value) (F : FF) (n : Nat) : Sp := fun vs H Q E =>
  ∃ (φ : List Addr) (S : SS) (as : List Vl) (r : ER), as.length = n ∧ RpVs K mg H φ as vs ∧ BoxOk K φ H S ∧ F as S = some r ∧ PostF K mg φ H Q E r
/-- a def keeps its promise (where nothing is being shown as a text around) -/
structure FnG (P : Program) (w : World) (K : PySem.W.Frag) (mg : Str → Option Value) (base : Heap) (k : Nat) (f : Addr) (fd : FuncData) (ps : List Str) (sp : Sp) : Prop where
  len : ∀ vs H Q E, sp vs H Q E → vs.length = ps.length
  run : ∀ (A : Around) (outer : List Env) (s : Shared) (H : Hp) (args : Args) (us : List Value) (vs : List V) (Q : VK) (E : XK), Room k A → A.guards = some [] → Env0 P w K mg base A outer s H →
    BindsTo s fd args (ps.zip us) → Vals vs us → sp vs H Q E → codeAny (model P w) A (.call (.ref f) args) (CR (L2.CX P w) outer P w H s Q E) s
structure CallOk (X : Cx) (k : Nat) (f : Str) (n : Nat) (F : FF) : Prop where
  ex : ∃ (fa : Addr) (fd : FuncData) (ps : List Str), ps.length = n ∧ X.mg f = some (.ref fa) ∧ PySem.W.keepIn X.K (.ref fa) = true ∧ Binds X.K fd ps [] ∧ FnG X.prog X.w X.K X.mg X.base k fa fd ps (spF X.K X.mg F ps.length)
/-- the values of arguments -/
def argsOf : List (Tg × Vl) → Option (List Vl)
  | [] => some []
  | (.pure, v) :: r => match argsOf r with
    | some vs => some (v :: vs)
    | none => none
  | _ :: _ => none
theorem RVs.args {K : PySem.W.Frag} {mg : Str → Option Value} {H0 H : Hp} {φ : List Addr} {σ : L2.St} {sl : Sl} : ∀ {xs : List (Tg × Vl)} {us : List V} {as : List Vl}, RVs K mg H0 H φ σ sl xs us → argsOf xs = some as → RpVs K mg H φ as us
  | [], _, _, h, e => by cases e; exact h
  | (.pure, v) :: r, _, as, ⟨u, t, e, a, b⟩, h => by
    unfold argsOf at h
    split at h
    · rename_i as' h1
      cases h
      exact ⟨u, t, e, a, RVs.args b h1⟩
    · cases h
  | (.fresh, _) :: r, _, _, _, h => by cases h
  | (.mine, _) :: r, _, _, _, h => by cases h
def fCallF (n : Nat) (F : FF) (g : FA) : FE := fun sl S => match g sl S with
  | some (.vals xs S1) => match argsOf xs with
    | some as => if as.length = n then match F as S1 with
        | some (.val .pure v S2) => some (.val .pure v S2)
        | some (.val _ v S2) => some (.val .fresh v S2)
        | some (.exn c d S2) => some (.exn c d S2)
        | none => none
      else none
    | none => none
  | some (.exn c d S1) => some (.exn c d S1)
  | none => none
section
variable {X : Cx} {e : Expr} {es : List Expr} {g : FA} {p pos : Pos} {x : Str} {k k' n : Nat} {F : FF}
theorem Rel.boxOk {K : PySem.W.Frag} {mg : Str → Option Value} {H0 H : Hp} {φ0 φ : List Addr} {σ : L2.St} {sl : Sl} {S : SS} (R : Rel K mg H0 φ0 φ σ H sl S) : BoxOk K φ H S := ⟨R.blen, R.nd, R.box⟩
/-- the callee runs -/
theorem run_g {fa : Addr} {fd : FuncData} {ps : List Str} {sp : Sp} {W : WX} {pins : List (Addr × Obj)} {σ : L2.St} {H : Hp} {s : Shared} {Q : VK} {us : List Value} {vs : List V} (G : FnG X.prog X.w X.K X.mg X.base k fa fd ps sp) (c : Ct X k') (hk : k ≤ k') (hb : Binds X.K fd ps []) (tk : Takes X W)
    (I : Inv X pins σ H s) (r : Vals vs us) (h : sp vs H Q fun cl d H' => W cl d σ H') : wpAny (model X.prog X.w) X.A (call (.ref fa) us) (EP X pins σ Q) X.xe s := by
  have hl : us.length = ps.length := by rw [← r.length]; exact G.len _ _ _ _ h
  have b := hb s us I.kIn (by rw [List.append_nil]; exact hl)
  rw [List.append_nil] at b
  refine wpAny_call (codeAny_mono (G.run X.A X.stack s H ⟨us, []⟩ us vs Q _ (c.room.mono hk) c.gd I.env0 b r h) fun r s' hq => ?_)
  match r, hq with
  | .error er, hq => exact tk er s' (XE.of_call I (fun _ _ _ z => z) hq)
  | .ok (.ret u), hq => exact I.after hq
theorem callF_go {fa : Addr} {fd : FuncData} {ps : List Str} (h : DenA X es g)
    {H0 : Hp} {φ0 φ : List Addr} {σ : L2.St} {H : Hp} {sl : Sl} {S : SS} {r : ER} {Q : VK} {W : WX} (R : Rel X.K X.mg H0 φ0 φ σ H sl S) (tk : Takes X W) (hf : fCallF n F g sl S = some r) (post : Post X H0 φ0 φ σ H sl Q W r) :
    wA X es σ H fun vs H1 => spF X.K X.mg F n vs H1 Q fun cl d H' => W cl d σ H' := by
  unfold fCallF at hf
  split at hf
  · rename_i xs S1 h1
    split at hf
    · rename_i as h2
      split at hf
      · rename_i hn
        refine h H0 φ0 φ σ H sl S _ R h1 _ W tk fun us H1 φ1 R1 l1 rvs => ?_
        have post1 := Post.le l1 R1 post
        have fin : ∀ {H' φ' S'}, Le φ1 H1 φ' H' → BoxOk X.K φ' H' S' → Rel X.K X.mg H0 φ0 φ' σ H' sl S' := fun {H' φ' S'} l b => R1.le l b.blen b.nd b.box
        split at hf
        · rename_i v S2 h3
          cases hf
          exact ⟨φ1, S1, as, _, hn, rvs.args h2, R1.boxOk, h3, fun u H' φ' l b rp => post1 u H' φ' (fin l b) l rp (fun z => nomatch z)⟩
        · rename_i t v S2 hne h3
          cases hf
          refine ⟨φ1, S1, as, _, hn, rvs.args h2, R1.boxOk, h3, fun u H' φ' l b rp => ?_⟩
          obtain ⟨d, p, rfl, hv, o, n, nb⟩ : ∃ d p, u = .ref p ∧ v = .py d ∧ Own1 X.K H' p d ∧ H1 p = none ∧ p ∉ φ' := by
            cases t with
            | pure => exact (hne rfl).elim
            | fresh =>
              cases v with
              | py d => obtain ⟨p, e, o, n, nb⟩ := rp; exact ⟨d, p, e, rfl, o, n, nb⟩
              | _ => exact rp.elim
            | mine =>
              cases v with
              | py d => obtain ⟨p, e, o, n, nb⟩ := rp; exact ⟨d, p, e, rfl, o, n, nb⟩
              | _ => exact rp.elim
          subst hv
          refine post1 _ H' φ' (fin l b) l ⟨p, rfl, o, R1.fresh0 n, nb, fun i d' h g => ?_⟩ (fun _ q e => by cases e; exact n)
          obtain ⟨q, e1, e2, _⟩ := R1.slots i _ h
          rw [g] at e1
          cases e1
          obtain ⟨o', eo, _⟩ := e2.mu
          rw [n] at eo
          cases eo
        · rename_i c' d S2 h3
          cases hf
          exact ⟨φ1, S1, as, _, hn, rvs.args h2, R1.boxOk, h3, fun C dx H' φ' l b ex => post1 C dx H' φ' (fin l b) l ex⟩
        · cases hf
      · cases hf
    · cases hf
  · rename_i c' d S1 h1
    cases hf
    exact h H0 φ0 φ σ H sl S _ R h1 _ W tk post
  · cases hf
/-- f(e, ..) -/
theorem den_call (C : CallOk X k x n F) (c : Ct X k') (hk : k ≤ k') (hg : Gl X x) (h : DenA X (e :: es) g) (hdb : (x == ("__debug__" : Str)) = false)
    (he : starEach (e :: es) X.env = (false, eval e X.env) :: starEach es X.env) (hpl : (backTo pos (starEach es X.env)).any (·.1) = false) : Den X (.Call (.Name x p) (e :: es) [] pos) (fCallF n F g) := by
  refine .mk ?_; intro H0 φ0 φ σ H sl S r R hf Q W tk post pins s I
  obtain ⟨fa, fd, ps, hn, hm, kp, hb, G⟩ := C.ex
  rw [hn] at G
  refine wpAny_Call_Name_kw (ld_glob I hg hm ?_ hdb)
  refine PySem.W.callWith_K (h₀ := X.base) I.ok.mod.kin kp (thn (callF_go (fa := fa) (fd := fd) (ps := ps) h R tk hf post pos pins s I) fun us s1 hu => ?_) he hpl
  obtain ⟨vs, H1, I1, rv, q⟩ := hu
  exact ⟨I1.kIn, run_g G c hk hb tk I1 rv q⟩
end
end PP
set_option Elab.async false
set_option linter.all false
set_option maxRecDepth 100000
set_option maxHeartbeats 4000000
namespace PP
open PySem L2
/-! ## statements -/
def wSs (X : Cx) (st : List Stmt) : TS := fun D σ H => ∀ (pins : List (Addr × Obj)) (s : Shared), Inv X pins σ H s → wpAny (model X.prog X.w) X.A (execs st X.env) (SP X pins D) X.xe s
theorem wSs.pss {X : Cx} {st : List Stmt} : PSs X st (wSs X st) := ⟨fun pins s σ H D I h => h pins s I⟩
theorem wSs.of {X : Cx} {st : List Stmt} {t : TS} {D : Ends} {σ : L2.St} {H : Hp} (h : PSs X st t) (q : t D σ H) : wSs X st D σ H := fun pins s I => h.run pins s σ H D I q
def wS1 (X : Cx) (st : Stmt) : TS := fun D σ H => ∀ (pins : List (Addr × Obj)) (s : Shared), Inv X pins σ H s → wpAny (model X.prog X.w) X.A (exec st X.env) (SP X pins D) X.xe s
theorem wS1.ps {X : Cx} {st : Stmt} : PS X st (wS1 X st) := ⟨fun pins s σ H D I h => h pins s I⟩
theorem wS1.of {X : Cx} {st : Stmt} {t : TS} {D : Ends} {σ : L2.St} {H : Hp} (h : PS X st t) (q : t D σ H) : wS1 X st D σ H := fun pins s I => h.run pins s σ H D I q

def PostS (X : Cx) (H0 : Hp) (φ0 : List Addr) (H : Hp) (D : Ends) (W : WX) : SR → Prop
  | .nx sl S => ∀ σ' H' φ', Rel X.K X.mg H0 φ0 φ' σ' H' sl S → Fz H H' → D.nx σ' H'
  | .bk sl S => ∀ σ' H' φ', Rel X.K X.mg H0 φ0 φ' σ' H' sl S → Fz H H' → D.bk σ' H'
  | .ct sl S => ∀ σ' H' φ', Rel X.K X.mg H0 φ0 φ' σ' H' sl S → Fz H H' → D.ct σ' H'
  | .rt t v S => ∀ u σ' H' φ' sl', Rel X.K X.mg H0 φ0 φ' σ' H' sl' S → Fz H H' → RF X.K X.mg H0 H' φ' t v u → D.rt u H'
  | .exn c d sl S => ∀ C dx σ' H' φ', Rel X.K X.mg H0 φ0 φ' σ' H' sl S → Fz H H' → ExAt X.K X.mg H' c d C dx → W (.ref C) (some dx) σ' H'
theorem PostS.fz {X : Cx} {H0 : Hp} {φ0 : List Addr} {H H1 : Hp} {D : Ends} {W : WX} {r : SR} (z : Fz H H1) (p : PostS X H0 φ0 H D W r) : PostS X H0 φ0 H1 D W r := by
  cases r with
  | nx sl S => exact fun σ' H' φ' R z' => p σ' H' φ' R (z.trans z')
  | bk sl S => exact fun σ' H' φ' R z' => p σ' H' φ' R (z.trans z')
  | ct sl S => exact fun σ' H' φ' R z' => p σ' H' φ' R (z.trans z')
  | rt t v S => exact fun u σ' H' φ' sl' R z' => p u σ' H' φ' sl' R (z.trans z')
  | exn c d sl S => exact fun C dx σ' H' φ' R z' => p C dx σ' H' φ' R (z.trans z')
def DenS1_ (X : Cx) (st : Stmt) (f : FS) : Prop :=
  ∀ (H0 : Hp) (φ0 φ : List Addr) (σ : L2.St) (H : Hp) (sl : Sl) (S : SS) (r : SR), Rel X.K X.mg H0 φ0 φ σ H sl S → f sl S = some r →
    ∀ (D : Ends) (W : WX), Takes X W → PostS X H0 φ0 H D W r → wS1 X st D σ H
structure DenS1 (X : Cx) (st : Stmt) (f : FS) : Prop where
  run : DenS1_ X st f
instance {X : Cx} {st : Stmt} {f : FS} : CoeFun (DenS1 X st f) (fun _ => DenS1_ X st f) := ⟨DenS1.run⟩
def DenS_ (X : Cx) (st : List Stmt) (f : FS) : Prop :=
  ∀ (H0 : Hp) (φ0 φ : List Addr) (σ : L2.St) (H : Hp) (sl : Sl) (S : SS) (r : SR), Rel X.K X.mg H0 φ0 φ σ H sl S → f sl S = some r →
    ∀ (D : Ends) (W : WX), Takes X W → PostS X H0 φ0 H D W r → wSs X st D σ H
structure DenS (X : Cx) (st : List Stmt) (f : FS) : Prop where
  run : DenS_ X st f
instance {X : Cx} {st : List Stmt} {f : FS} : CoeFun (DenS X st f) (fun _ => DenS_ X st f) := ⟨DenS.run⟩
def bindS (o : Option ER) (sl : Sl) (k : Tg → Vl → SS → Option SR) : Option SR :=
  match o with
  | some (.val t v S) => k t v S
  | some (.exn c d S) => some (.exn c d sl S)
  | none => none
theorem bindS_some {o : Option ER} {sl : Sl} {k : Tg → Vl → SS → Option SR} {r : SR} (h : bindS o sl k = some r) : (∃ t v S, o = some (.val t v S) ∧ k t v S = some r) ∨ ∃ c d S, o = some (.exn c d S) ∧ r = .exn c d sl S := by
  match o, h with
  | some (.val t v S), h => exact .inl ⟨t, v, S, rfl, h⟩
  | some (.exn c d S), h => cases h; exact .inr ⟨c, d, S, rfl, rfl⟩
/-- an expression of a statement -/
theorem den_thenS {X : Cx} {e : Expr} {f : FE} {H0 : Hp} {φ0 φ : List Addr} {σ : L2.St} {H : Hp} {sl : Sl} {S : SS} {r : SR} {k : Tg → Vl → SS → Option SR} {D : Ends} {W : WX} {Q' : VK} (h : Den X e f) (R : Rel X.K X.mg H0 φ0 φ σ H sl S) (tk : Takes X W)
    (hf : bindS (f sl S) sl k = some r) (post : PostS X H0 φ0 H D W r)
    (go : ∀ t v S1 u H1 φ1, k t v S1 = some r → Rel X.K X.mg H0 φ0 φ1 σ H1 sl S1 → Le φ H φ1 H1 → RV X.K X.mg H0 H1 φ1 σ sl t v u → (t = .fresh → ∀ p, u = .ref p → H p = none) → Q' u H1) : wE X e σ H Q' := by
  rcases bindS_some hf with ⟨t, v, S1, h1, h2⟩ | ⟨c, d, S1, h1, rfl⟩
  · exact h H0 φ0 φ σ H sl S _ R h1 _ W tk fun u H1 φ1 R1 l1 rv fr => go t v S1 u H1 φ1 h2 R1 l1 rv fr
  · exact h H0 φ0 φ σ H sl S _ R h1 _ W tk fun C dx H' φ' R' l' ex => post C dx σ H' φ' R' l'.fz ex
section
variable {X : Cx} {st : Stmt} {rest : List Stmt} {e : Expr} {f g : FS} {fe : FE} {ft : FT} {pos : Pos} {i : Nat} {x : Str}
def fNil : FS := fun sl S => some (.nx sl S)
def fThen (f g : FS) : FS := fun sl S => match f sl S with
  | some (.nx sl' S') => g sl' S'
  | r => r
theorem denS_nil : DenS X [] fNil := by
  refine .mk ?_; intro H0 φ0 φ σ H sl S r R hf D W tk post
  cases hf
  exact wSs.of pss_nil (post σ H φ R (Fz.refl _))
theorem denS_cons (h : DenS1 X st f) (hs : DenS X rest g) : DenS X (st :: rest) (fThen f g) := by
  refine .mk ?_; intro H0 φ0 φ σ H sl S r R hf D W tk post
  refine wSs.of (pss_cons wS1.ps wSs.pss) ?_
  unfold fThen at hf
  split at hf
  · rename_i sl' S' h1
    exact h H0 φ0 φ σ H sl S _ R h1 _ W tk fun σ' H' φ' R' z => hs H0 φ0 φ' σ' H' sl' S' r R' hf D W tk (post.fz z)
  · rename_i hn
    refine h H0 φ0 φ σ H sl S r R hf _ W tk ?_
    cases r with
    | nx sl' S' => exact absurd hf (hn sl' S')
    | bk sl S => exact post
    | ct sl S => exact post
    | rt t v S => exact post
    | exn c d sl S => exact post
def fDrop (f : FE) : FS := fun sl S => bindS (f sl S) sl fun _ _ S1 => some (.nx sl S1)
theorem denS_expr (he : Den X e fe) (hs : swapsWith e none pos.line X.env = pure false) : DenS1 X (.Expr e pos) (fDrop fe) := by
  refine .mk ?_; intro H0 φ0 φ σ H sl S r R hf D W tk post
  refine wS1.of (ps_expr wE.pe hs) (den_thenS he R tk hf post fun t v S1 u H1 φ1 hk R1 l1 rv fr => ?_)
  cases hk
  exact post σ H1 φ1 R1 l1.fz
/-! ### a value into a slot -/
def slotOf : Tg → Vl → Option Slot
  | .pure, v => some (.p v)
  | .fresh, .py d => some (.own d)
  | _, _ => none
theorem Rel.put {K : PySem.W.Frag} {mg : Str → Option Value} {H0 H : Hp} {φ0 φ : List Addr} {σ : L2.St} {sl : Sl} {S : SS} {t : Tg} {v : Vl} {u : V} {s : Slot} (R : Rel K mg H0 φ0 φ σ H sl S) (rv : RV K mg H0 H φ σ sl t v u) (hs : slotOf t v = some s) (i : Nat) :
    Rel K mg H0 φ0 φ (σ.set i (some u)) H (sl.set i s) S := by
  have new : RelS K mg H0 H φ (some (some u)) s := by
    cases t with
    | pure => cases hs; exact ⟨u, rfl, rv⟩
    | fresh =>
      cases v with
      | py d => cases hs; obtain ⟨p, e, o, h0, n, _⟩ := rv; exact ⟨p, by rw [e], o, h0, n⟩
      | _ => cases hs
    | mine => cases hs
  have nown : ∀ (j : Nat) (p : Addr) (d d' : PyData), s = .own d → sl[j]? = some (.own d') → σ[j]? = some (some (.ref p)) → u ≠ .ref p := fun j p d d' e h1 h2 e2 => by
    cases t with
    | pure => cases hs; cases e
    | fresh =>
      cases v with
      | py d0 => obtain ⟨q, e3, o, h0, n, z⟩ := rv; rw [e3] at e2; cases e2; exact z j d' h1 h2
      | _ => cases hs
    | mine => cases hs
  refine ⟨by rw [List.length_set, List.length_set, R.len], fun j s' h => ?_, fun j k p q d d' hjk h1 h2 h3 h4 => ?_, R.blen, R.box, R.nd, R.pre, R.new, R.keep⟩
  · by_cases hj : i = j
    · subst hj
      by_cases hl : i < sl.length
      · rw [List.getElem?_set_self hl] at h
        cases h
        rw [List.getElem?_set_self (by rw [R.len]; exact hl)]
        exact new
      · rw [List.getElem?_eq_none (by simpa using hl)] at h; cases h
    · rw [List.getElem?_set_ne hj] at h
      rw [List.getElem?_set_ne hj]
      exact R.slots j s' h
  · by_cases hj : i = j
    · subst hj
      have hl : i < sl.length := by
        by_cases hl : i < sl.length
        · exact hl
        · rw [List.getElem?_eq_none (by simpa using hl)] at h1; cases h1
      rw [List.getElem?_set_self hl] at h1
      rw [List.getElem?_set_self (by rw [R.len]; exact hl)] at h3
      rw [List.getElem?_set_ne hjk] at h2 h4
      cases h1
      cases h3
      intro e
      exact nown k q _ d' rfl h2 h4 (by rw [e])
    · by_cases hk : i = k
      · subst hk
        have hl : i < sl.length := by
          by_cases hl : i < sl.length
          · exact hl
          · rw [List.getElem?_eq_none (by simpa using hl)] at h2; cases h2
        rw [List.getElem?_set_self hl] at h2
        rw [List.getElem?_set_self (by rw [R.len]; exact hl)] at h4
        rw [List.getElem?_set_ne hj] at h1 h3
        cases h2
        cases h4
        intro e
        exact nown j p _ d rfl h1 h3 (by rw [e])
      · rw [List.getElem?_set_ne hj] at h1 h3
        rw [List.getElem?_set_ne hk] at h2 h4
        exact R.dist j k p q d d' hjk h1 h2 h3 h4
def fSet (i : Nat) (f : FE) : FS := fun sl S => bindS (f sl S) sl fun t v S1 => match slotOf t v with
  | some s => some (.nx (sl.set i s) S1)
  | none => none
theorem denS_set {pos' : Pos} {k : Nat} (c : Ct X k) (hi : X.N[i]? = some x) (hx : Loc X.env.scope x) (hxf : X.fn x = true ∨ X.env.scope.names.lookup x = some .local) (he : Den X e fe) (hs : swapsWith e (some (.Name x pos')) pos.line X.env = pure false) :
    DenS1 X (.Assign [.Name x pos'] e pos) (fSet i fe) := by
  refine .mk ?_; intro H0 φ0 φ σ H sl S r R hf D W tk post
  refine wS1.of (ps_set c.nd hi hx wE.pe hs hxf) (den_thenS he R tk hf post fun t v S1 u H1 φ1 hk R1 l1 rv fr => ?_)
  split at hk
  · rename_i s h1
    cases hk
    exact post _ H1 φ1 (R1.put rv h1 i) l1.fz
  · cases hk
/-! ### return, if, pass -/
def fRet (f : FE) : FS := fun sl S => bindS (f sl S) sl fun t v S1 => some (.rt t v S1)
theorem RV.rf {K : PySem.W.Frag} {mg : Str → Option Value} {H0 H : Hp} {φ : List Addr} {σ : L2.St} {sl : Sl} {t : Tg} {v : Vl} {u : V} (r : RV K mg H0 H φ σ sl t v u) : RF K mg H0 H φ t v u := by
  cases t with
  | pure => exact r
  | fresh =>
    cases v with
    | py d => obtain ⟨p, e, o, h0, n, _⟩ := r; exact ⟨p, e, o, h0, n⟩
    | _ => exact r.elim
  | mine =>
    cases v with
    | py d => obtain ⟨p, e, o, h0, n⟩ := r; exact ⟨p, e, o, h0, n⟩
    | _ => exact r.elim
theorem denS_ret (he : Den X e fe) : DenS1 X (.Return (some e) pos) (fRet fe) := by
  refine .mk ?_; intro H0 φ0 φ σ H sl S r R hf D W tk post
  refine wS1.of (ps_ret wE.pe) (den_thenS he R tk hf post fun t v S1 u H1 φ1 hk R1 l1 rv fr => ?_)
  cases hk
  exact post u σ H1 φ1 sl R1 l1.fz rv.rf
def fRetN : FS := fun _ S => some (.rt .pure (.py .none) S)
theorem denS_retN : DenS1 X (.Return none pos) fRetN := by
  refine .mk ?_; intro H0 φ0 φ σ H sl S r R hf D W tk post
  cases hf
  exact wS1.of ps_retN (post _ σ H φ sl R (Fz.refl _) rfl)
theorem denS_pass : DenS1 X (.Pass pos) fNil := by
  refine .mk ?_; intro H0 φ0 φ σ H sl S r R hf D W tk post
  cases hf
  exact wS1.of ps_pass (post σ H φ R (Fz.refl _))
def fBreak : FS := fun sl S => some (.bk sl S)
def fCont : FS := fun sl S => some (.ct sl S)
theorem denS_break : DenS1 X (.Break pos) fBreak := by
  refine .mk ?_; intro H0 φ0 φ σ H sl S r R hf D W tk post
  cases hf
  exact wS1.of ps_break (post σ H φ R (Fz.refl _))
theorem denS_cont : DenS1 X (.Continue pos) fCont := by
  refine .mk ?_; intro H0 φ0 φ σ H sl S r R hf D W tk post
  cases hf
  exact wS1.of ps_continue (post σ H φ R (Fz.refl _))
def fIfS (g : FT) (f1 f2 : FS) : FS := fun sl S => match g sl S with
  | some (.tb true S') => f1 sl S'
  | some (.tb false S') => f2 sl S'
  | some (.exn c d S') => some (.exn c d sl S')
  | none => none
theorem denS_if {c : Expr} {a b : List Stmt} (hc : DenT X c ft) (ha : DenS X a f) (hb : DenS X b g) : DenS1 X (.If c a b pos) (fIfS ft f g) := by
  refine .mk ?_; intro H0 φ0 φ σ H sl S r R hf D W tk post
  refine wS1.of (ps_if wT.pt wSs.pss wSs.pss) ?_
  unfold fIfS at hf
  split at hf
  · rename_i S' h1
    refine hc H0 φ0 φ σ H sl S _ R h1 _ W tk fun H1 φ1 R1 l1 => ?_
    show (if true = true then _ else _)
    rw [if_pos rfl]
    exact ha H0 φ0 φ1 σ H1 sl S' r R1 hf D W tk (post.fz l1.fz)
  · rename_i S' h1
    refine hc H0 φ0 φ σ H sl S _ R h1 _ W tk fun H1 φ1 R1 l1 => ?_
    show (if false = true then _ else _)
    rw [if_neg Bool.false_ne_true]
    exact hb H0 φ0 φ1 σ H1 sl S' r R1 hf D W tk (post.fz l1.fz)
  · rename_i c' d S' h1
    cases hf
    exact hc H0 φ0 φ σ H sl S _ R h1 _ W tk fun C dx H' φ' R' l' ex => post C dx σ H' φ' R' l'.fz ex
  · cases hf
end
end PP
set_option Elab.async false
set_option linter.all false
set_option maxRecDepth 100000
set_option maxHeartbeats 4000000
namespace PP
open PySem L2
/-! ## targets -/
def wG (X : Cx) (tg : Expr) : TG := fun v σ H Q => ∀ (pins : List (Addr × Obj)) (s : Shared) (u : Value), Inv X pins σ H s → RelV v u → wpAny (model X.prog X.w) X.A (assign tg X.env u) (fun _ s' => ∃ σ' H', Inv X pins σ' H' s' ∧ Q σ' H') X.xe s
theorem wG.pg {X : Cx} {tg : Expr} : PG X tg (wG X tg) := ⟨fun pins s σ H v u Q I r h => h pins s u I r⟩
theorem wG.of {X : Cx} {tg : Expr} {t : TG} {v : V} {σ : L2.St} {H : Hp} {Q : L2.St → Hp → Prop} (h : PG X tg t) (q : t v σ H Q) : wG X tg v σ H Q := fun pins s u I r => h.run pins s σ H v u Q I r q
def wGs (X : Cx) (ts : List Expr) : TGs := fun vs σ H Q => ∀ (pins : List (Addr × Obj)) (s : Shared) (us : List Value), Inv X pins σ H s → Vals vs us → wpAny (model X.prog X.w) X.A (assignInOrder ((assignEach ts X.env).map (·.2)) us) (fun _ s' => ∃ σ' H', Inv X pins σ' H' s' ∧ Q σ' H') X.xe s
theorem wGs.pgs {X : Cx} {ts : List Expr} : PGs X ts (wGs X ts) := ⟨fun pins s σ H vs us Q I r h => h pins s us I r⟩
theorem wGs.of {X : Cx} {ts : List Expr} {t : TGs} {vs : List V} {σ : L2.St} {H : Hp} {Q : L2.St → Hp → Prop} (h : PGs X ts t) (q : t vs σ H Q) : wGs X ts vs σ H Q := fun pins s us I r => h.run pins s σ H vs us Q I r q
/-- at most the slots of these numbers differ -/
def Off (is : List Nat) (σ σ' : L2.St) : Prop := σ'.length = σ.length ∧ ∀ j, j ∉ is → σ'[j]? = σ[j]?
theorem Off.refl {is : List Nat} (σ : L2.St) : Off is σ σ := ⟨rfl, fun _ _ => rfl⟩
theorem Off.trans {is js : List Nat} {σ σ1 σ2 : L2.St} (a : Off is σ σ1) (b : Off js σ1 σ2) : Off (is ++ js) σ σ2 :=
  ⟨b.1.trans a.1, fun j h => (b.2 j fun m => h (List.mem_append_right _ m)).trans (a.2 j fun m => h (List.mem_append_left _ m))⟩
theorem wipe_in {σ : L2.St} {i : Nat} : ∀ {vs : List Nat}, i ∈ vs → i < σ.length → (wipe σ vs)[i]? = some none
  | v :: vs, h, hl => by
    unfold wipe
    by_cases e : v = i
    · subst e
      rw [List.getElem?_set_self (by rw [wipe_length]; exact hl)]
    · rw [List.getElem?_set_ne e]
      exact wipe_in ((List.mem_cons.mp h).resolve_left fun z => e z.symm) hl
theorem Off.wipe {is vs : List Nat} {σ σ' : L2.St} (o : Off is σ σ') (h : ∀ i ∈ is, i ∈ vs) : wipe σ' vs = L2.wipe σ vs := by
  refine List.ext_getElem? fun j => ?_
  by_cases hj : j ∈ vs
  · by_cases hl : j < σ.length
    · rw [wipe_in hj hl, wipe_in hj (by rw [o.1]; exact hl)]
    · rw [List.getElem?_eq_none (by rw [wipe_length, o.1]; omega), List.getElem?_eq_none (by rw [wipe_length]; omega)]
  · rw [wipe_out hj, wipe_out hj]
    exact o.2 j fun m => hj (h j m)
def DenG_ (X : Cx) (tg : Expr) (is : List Nat) (g : PyData → Sl → Option Sl) : Prop :=
  ∀ (H0 : Hp) (φ0 φ : List Addr) (σ : L2.St) (H : Hp) (sl sl' : Sl) (S : SS) (d : PyData) (u : V), Rel X.K X.mg H0 φ0 φ σ H sl S → Rp X.K H d u → g d sl = some sl' →
    ∀ (Q : L2.St → Hp → Prop), (∀ σ', Rel X.K X.mg H0 φ0 φ σ' H sl' S → Off is σ σ' → Q σ' H) → wG X tg u σ H Q
structure DenG (X : Cx) (tg : Expr) (is : List Nat) (g : PyData → Sl → Option Sl) : Prop where
  run : DenG_ X tg is g
instance {X : Cx} {tg : Expr} {is : List Nat} {g : PyData → Sl → Option Sl} : CoeFun (DenG X tg is g) (fun _ => DenG_ X tg is g) := ⟨DenG.run⟩
def DenGs_ (X : Cx) (ts : List Expr) (is : List Nat) (g : List PyData → Sl → Option Sl) : Prop :=
  ∀ (H0 : Hp) (φ0 φ : List Addr) (σ : L2.St) (H : Hp) (sl sl' : Sl) (S : SS) (ds : List PyData) (us : List V), Rel X.K X.mg H0 φ0 φ σ H sl S → Rps X.K H ds us → g ds sl = some sl' →
    ∀ (Q : L2.St → Hp → Prop), (∀ σ', Rel X.K X.mg H0 φ0 φ σ' H sl' S → Off is σ σ' → Q σ' H) → wGs X ts us σ H Q
structure DenGs (X : Cx) (ts : List Expr) (is : List Nat) (g : List PyData → Sl → Option Sl) : Prop where
  run : DenGs_ X ts is g
instance {X : Cx} {ts : List Expr} {is : List Nat} {g : List PyData → Sl → Option Sl} : CoeFun (DenGs X ts is g) (fun _ => DenGs_ X ts is g) := ⟨DenGs.run⟩
section
variable {X : Cx} {pos : Pos} {x : Str} {i k n : Nat} {e tg iter : Expr} {es : List Expr} {is js : List Nat}
def gNm (i : Nat) : PyData → Sl → Option Sl := fun d sl => some (sl.set i (.p (.py d)))
theorem denG_name (c : Ct X k) (hi : X.N[i]? = some x) (hx : Loc X.env.scope x) (hxf : X.fn x = true ∨ X.env.scope.names.lookup x = some .local) : DenG X (.Name x pos) [i] (gNm i) := by
  refine .mk ?_; intro H0 φ0 φ σ H sl sl' S d u R r hg Q q
  cases hg
  refine wG.of (pg_name c.nd hi hx hxf) (q _ (R.put (t := .pure) (v := .py d) r rfl i) ⟨List.length_set, fun j hj => List.getElem?_set_ne (fun z => hj (by simp [z]))⟩)
def gsNil : List PyData → Sl → Option Sl
  | [], sl => some sl
  | _ :: _, _ => none
def gsCons (g : PyData → Sl → Option Sl) (gs : List PyData → Sl → Option Sl) : List PyData → Sl → Option Sl
  | [], _ => none
  | d :: ds, sl => match g d sl with
    | some sl' => gs ds sl'
    | none => none
theorem denGs_nil : DenGs X [] [] gsNil := by
  refine .mk ?_; intro H0 φ0 φ σ H sl sl' S ds us R r hg Q q
  cases ds with
  | cons d ds => cases hg
  | nil =>
    cases hg
    cases r
    exact wGs.of pgs_nil ⟨rfl, q σ R (Off.refl σ)⟩
theorem denGs_cons {g : PyData → Sl → Option Sl} {gs : List PyData → Sl → Option Sl} (h1 : DenG X e is g) (h2 : DenGs X es js gs) (hs : (assignEach (e :: es) X.env).map (·.2) = assign e X.env :: (assignEach es X.env).map (·.2)) : DenGs X (e :: es) (is ++ js) (gsCons g gs) := by
  refine .mk ?_; intro H0 φ0 φ σ H sl sl' S ds us R r hg Q q
  cases ds with
  | nil => cases hg
  | cons d ds =>
    obtain ⟨u, t, rfl, a, b⟩ := r
    change (match g d sl with | some sl' => gs ds sl' | none => none) = some sl' at hg
    split at hg
    · rename_i sl1 e1
      refine wGs.of (pgs_cons wG.pg wGs.pgs hs) ⟨u, t, rfl, h1 H0 φ0 φ σ H sl sl1 S d u R a e1 _ fun σ1 R1 o1 => ?_⟩
      exact h2 H0 φ0 φ σ1 H sl1 sl' S ds t R1 b hg Q fun σ2 R2 o2 => q σ2 R2 (o1.trans o2)
    · cases hg
def gTp (n : Nat) (gs : List PyData → Sl → Option Sl) : PyData → Sl → Option Sl
  | .tuple ds, sl => if ds.length = n then gs ds sl else none
  | _, _ => none
theorem denG_tup {gs : List PyData → Sl → Option Sl} {j : Nat} (c : Ct X k) (h : DenGs X es is gs) (hn : (assignEach es X.env).length = n) (hst : (assignEach es X.env).findIdx? (·.1) = none) : DenG X (.Tuple es j pos) is (gTp n gs) := by
  refine .mk ?_; intro H0 φ0 φ σ H sl sl' S d u R r hg Q q
  unfold gTp at hg
  split at hg
  · rename_i ds
    split at hg
    · rename_i hl
      obtain ⟨p, vs, rfl, sq, rs⟩ := r
      exact wG.of (pg_tup c.calm wGs.pgs hn hst) ⟨p, vs, rfl, sq, by rw [rs.len]; exact hl, h H0 φ0 φ σ H sl sl' S ds vs R rs hg Q q⟩
    · cases hg
  · cases hg

/-! ## what is walked -/
def wI (X : Cx) (tg iter : Expr) : TI := fun σ H R => ∀ (pins : List (Addr × Obj)) (s : Shared), Inv X pins σ H s →
  wpAny (model X.prog X.w) X.A (eval iter X.env) (fun v s1 => wpAny (model X.prog X.w) X.A (pyIter v) (PIE X pins σ tg R) X.xe s1) X.xe s
theorem wI.pi : PI X tg iter (wI X tg iter) := ⟨fun pins s σ H R I h => h pins s I⟩
theorem wI.of {wi : TI} {σ : L2.St} {H : Hp} {R : It → Hp → Prop} (h : PI X tg iter wi) (q : wi σ H R) : wI X tg iter σ H R := fun pins s I => h.run pins s σ H R I q
structure Walks (K : PySem.W.Frag) (J : It) (ds : List PyData) (H1 : Hp) : Prop where
  go : ∀ (i : Nat) (H : Hp), Fz H1 H → i < ds.length → J.go i H
  stop : ∀ (H : Hp), Fz H1 H → J.stop ds.length H
  yld : ∀ (i : Nat) (H : Hp) (x : V) (H' : Hp), Fz H1 H → i < ds.length → J.yld i H x H' → Ext H H' ∧ ∃ d, ds[i]? = some d ∧ Rp K H' d x
abbrev FI := Sl → SS → Option (List PyData × SS)
def DenI_ (X : Cx) (tg iter : Expr) (f : FI) : Prop :=
  ∀ (H0 : Hp) (φ0 φ : List Addr) (σ : L2.St) (H : Hp) (sl : Sl) (S : SS) (ds : List PyData) (S' : SS), Rel X.K X.mg H0 φ0 φ σ H sl S → f sl S = some (ds, S') →
    ∀ (R : It → Hp → Prop), (∀ J H1 φ1, Rel X.K X.mg H0 φ0 φ1 σ H1 sl S' → Le φ H φ1 H1 → Walks X.K J ds H1 → R J H1) → wI X tg iter σ H R
structure DenI (X : Cx) (tg iter : Expr) (f : FI) : Prop where
  run : DenI_ X tg iter f
instance {X : Cx} {tg iter : Expr} {f : FI} : CoeFun (DenI X tg iter f) (fun _ => DenI_ X tg iter f) := ⟨DenI.run⟩
theorem takes_no : Takes X (fun _ _ _ _ => False) := fun u s' ⟨_, _, _, _, _, _, _, _, _, _, _, _, _, _, _, _, w⟩ => w.elim
theorem walks_list {K : PySem.W.Frag} {H1 : Hp} {p : Addr} {vs : List V} {ds : List PyData} (q : FzK K H1 p vs) (r : Rps K H1 ds vs) : Walks K (Itl K p) ds H1 := by
  have sq : ∀ {H}, Fz H1 H → SqL K H p vs := fun {H} z => (q.mono z).sq
  refine ⟨fun i H z hi => ⟨vs, vs[i]'(by rw [r.len]; exact hi), sq z, by simp⟩, fun H z => ⟨vs, sq z, by rw [r.len]; exact Nat.le_refl _⟩, fun i H x H' z hi y => ?_⟩
  obtain ⟨rfl, y⟩ := y
  obtain ⟨d, e, a⟩ := r.get' (y vs (sq z))
  exact ⟨Ext.refl _, d, e, a.mono z⟩
theorem walks_tup {K : PySem.W.Frag} {H1 : Hp} {p : Addr} {vs : List V} {ds : List PyData} (q : SqT K H1 p vs) (r : Rps K H1 ds vs) : Walks K (Itt K p) ds H1 := by
  have sq : ∀ {H}, Fz H1 H → SqT K H p vs := fun {H} z => sqT_mono z q
  refine ⟨fun i H z hi => ⟨vs, vs[i]'(by rw [r.len]; exact hi), sq z, by simp⟩, fun H z => ⟨vs, sq z, by rw [r.len]; exact Nat.le_refl _⟩, fun i H x H' z hi y => ?_⟩
  obtain ⟨rfl, y⟩ := y
  obtain ⟨d, e, a⟩ := r.get' (y vs (sq z))
  exact ⟨Ext.refl _, d, e, a.mono z⟩
def chars (s : Str) : List PyData := s.cps.toList.map fun c => .str ⟨#[c]⟩
theorem walks_str {K : PySem.W.Frag} {H1 : Hp} {s : Str} : Walks K (Its s) (chars s) H1 := by
  have hl : (chars s).length = s.cps.size := by simp [chars]
  refine ⟨fun i H z hi => by rw [hl] at hi; exact hi, fun H z => by rw [hl]; exact Nat.le_refl _, fun i H x H' z hi y => ?_⟩
  obtain ⟨rfl, c, e, rfl⟩ := y
  refine ⟨Ext.refl _, .str ⟨#[c]⟩, ?_, rfl⟩
  unfold chars
  rw [List.getElem?_map, Array.getElem?_toList, e]
  rfl
theorem Rpk.get {K : PySem.W.Frag} {H : Hp} : ∀ {kvs : List (PyData × PyData)} {ks : List (Key × V)} {i : Nat} {k : Key} {v : V}, Rpk K H kvs ks → ks[i]? = some (k, v) → ∃ a b, kvs[i]? = some (a, b) ∧ Rp K H a (kV k) ∧ Rp K H b v
  | [], _, _, _, _, h, g => by cases h; cases g
  | (a, b) :: r, _, 0, _, _, ⟨k, v, t, e, h1, h2, h3⟩, g => by subst e; cases g; exact ⟨a, b, rfl, h1, h2⟩
  | (a, b) :: r, _, i + 1, _, _, ⟨k, v, t, e, h1, h2, h3⟩, g => by subst e; exact Rpk.get (i := i) h3 g
theorem Rpk.len {K : PySem.W.Frag} {H : Hp} : ∀ {kvs : List (PyData × PyData)} {ks : List (Key × V)}, Rpk K H kvs ks → ks.length = kvs.length
  | [], _, h => by cases h; rfl
  | (a, b) :: r, _, ⟨k, v, t, e, h1, h2, h3⟩ => by subst e; exact congrArg (· + 1) (Rpk.len h3)
theorem walks_keys {K : PySem.W.Frag} {H1 : Hp} {p : Addr} {o : Obj} {ks : List (Key × V)} {kvs : List (PyData × PyData)} (q : H1 p = some (.frz o (.dK ks))) (r : Rpk K H1 kvs ks) : Walks K (Itk p o ks) (kvs.map (·.1)) H1 := by
  have hl := r.len
  refine ⟨fun i H z hi => ⟨z _ _ q rfl, by rw [List.length_map] at hi; omega⟩, fun H z => ⟨z _ _ q rfl, by rw [List.length_map]; omega⟩, fun i H x H' z hi y => ?_⟩
  obtain ⟨rfl, k, v, e, rfl⟩ := y
  obtain ⟨a, b, e1, h1, h2⟩ := r.get e
  exact ⟨Ext.refl _, a, by rw [List.getElem?_map, e1]; rfl, h1.mono z⟩
/-- a list, a tuple, a text, a dict's keys -/
def fiSeq (f : FE) : FI := fun sl S => match f sl S with
  | some (.val .pure (.py (.list ds)) S') => some (ds, S')
  | some (.val .pure (.py (.tuple ds)) S') => some (ds, S')
  | some (.val .pure (.py (.str s)) S') => some (chars s, S')
  | some (.val .pure (.py (.dict kvs)) S') => some (kvs.map (·.1), S')
  | _ => none
theorem denI_seq {fe : FE} (h : Den X e fe) : DenI X tg e (fiSeq fe) := by
  refine .mk ?_; intro H0 φ0 φ σ H sl S ds S' R hf Rr q
  unfold fiSeq at hf
  split at hf
  · rename_i xs S1 h1
    cases hf
    refine wI.of (pi_list wE.pe) (h H0 φ0 φ σ H sl S _ R h1 _ _ takes_no fun u H1 φ1 R1 l1 rv _ => ?_)
    obtain ⟨p, vs, rfl, fz, rs⟩ := rv
    exact ⟨p, rfl, ⟨vs, fz.sq⟩, q _ H1 φ1 R1 l1 (walks_list fz rs)⟩
  · rename_i xs S1 h1
    cases hf
    refine wI.of (pi_tup wE.pe) (h H0 φ0 φ σ H sl S _ R h1 _ _ takes_no fun u H1 φ1 R1 l1 rv _ => ?_)
    obtain ⟨p, vs, rfl, sq, rs⟩ := rv
    exact ⟨p, rfl, ⟨vs, sq⟩, q _ H1 φ1 R1 l1 (walks_tup sq rs)⟩
  · rename_i s S1 h1
    cases hf
    refine wI.of (pi_str wE.pe) (h H0 φ0 φ σ H sl S _ R h1 _ _ takes_no fun u H1 φ1 R1 l1 rv _ => ?_)
    obtain rfl := rv
    exact ⟨s, rfl, q _ H1 φ1 R1 l1 walks_str⟩
  · rename_i kvs S1 h1
    cases hf
    refine wI.of (pi_keys wE.pe) (h H0 φ0 φ σ H sl S _ R h1 _ _ takes_no fun u H1 φ1 R1 l1 rv _ => ?_)
    obtain ⟨p, o, ks, rfl, hd, rk⟩ := rv
    exact ⟨p, o, rfl, .inl ⟨ks, hd, q _ H1 φ1 R1 l1 (walks_keys hd rk)⟩⟩
  · cases hf
/-! ### range, enumerate, zip -/
def rng (lo : Int) (n : Nat) : List PyData := (List.range n).map fun (i : Nat) => PyData.int (lo + (i : Int))
theorem walks_rng {K : PySem.W.Frag} {H1 : Hp} {lo : Int} {n : Nat} : Walks K (Itr lo n) (rng lo n) H1 := by
  have hl : (rng lo n).length = n := by simp [rng]
  refine ⟨fun i H z hi => by rw [hl] at hi; exact hi, fun H z => by rw [hl]; exact Nat.le_refl _, fun i H x H' z hi y => ?_⟩
  obtain ⟨rfl, rfl⟩ := y
  rw [hl] at hi
  exact ⟨Ext.refl _, .int (lo + i), by simp [rng, hi], rfl⟩
def fiRg1 (g : FA) : FI := fun sl S => match g sl S with
  | some (.vals [(_, .py (.int j))] S') => if -(2 ^ 62) ≤ j ∧ j < 2 ^ 62 then some (rng 0 j.toNat, S') else none
  | _ => none
def fiRg2 (g : FA) : FI := fun sl S => match g sl S with
  | some (.vals [(_, .py (.int i)), (_, .py (.int j))] S') => if -(2 ^ 62) ≤ i ∧ i < 2 ^ 62 ∧ -(2 ^ 62) ≤ j ∧ j < 2 ^ 62 then some (rng i (j - i).toNat, S') else none
  | _ => none
theorem denI_rg1 {a : Expr} {g : FA} {p : Pos} (hg : Gl X "range") (hm : X.mg "range" = none) (h : DenA X [a] g) (hs : starEach [a] X.env = [(false, eval a X.env)]) : DenI X tg (.Call (.Name "range" p) [a] [] pos) (fiRg1 g) := by
  refine .mk ?_; intro H0 φ0 φ σ H sl S ds S' R hf Rr q
  unfold fiRg1 at hf
  split at hf
  · rename_i t j S1 h1
    split at hf
    · rename_i hj
      cases hf
      refine wI.of (pi_range1 hg hm wA.pa hs) (h H0 φ0 φ σ H sl S _ R h1 _ _ takes_no fun us H1 φ1 R1 l1 rvs => ?_)
      obtain ⟨u, r, rfl, rv, rfl⟩ := rvs
      obtain rfl := rv.int
      exact ⟨j, rfl, hj.1, hj.2, q _ H1 φ1 R1 l1 walks_rng⟩
    · cases hf
  · cases hf
theorem denI_rg2 {a b : Expr} {g : FA} {p : Pos} (hg : Gl X "range") (hm : X.mg "range" = none) (h : DenA X [a, b] g) (hs : starEach [a, b] X.env = [(false, eval a X.env), (false, eval b X.env)]) (hs2 : starEach [b] X.env = [(false, eval b X.env)]) : DenI X tg (.Call (.Name "range" p) [a, b] [] pos) (fiRg2 g) := by
  refine .mk ?_; intro H0 φ0 φ σ H sl S ds S' R hf Rr q
  unfold fiRg2 at hf
  split at hf
  · rename_i t i t' j S1 h1
    split at hf
    · rename_i hj
      cases hf
      refine wI.of (pi_range2 hg hm wA.pa hs hs2) (h H0 φ0 φ σ H sl S _ R h1 _ _ takes_no fun us H1 φ1 R1 l1 rvs => ?_)
      obtain ⟨u, r, rfl, rv, u2, r2, rfl, rv2, rfl⟩ := rvs
      obtain rfl := rv.int
      obtain rfl := rv2.int
      exact ⟨i, j, rfl, hj, q _ H1 φ1 R1 l1 walks_rng⟩
    · cases hf
  · cases hf
def enumD (ds : List PyData) : List PyData := (List.range ds.length).map fun (i : Nat) => PyData.tuple [.int (i : Int), ds[i]?.getD .none]
theorem enumD_get {ds : List PyData} {i : Nat} {d : PyData} (h : ds[i]? = some d) : (enumD ds)[i]? = some (.tuple [.int i, d]) := by
  obtain ⟨hl, hd⟩ := List.getElem?_eq_some_iff.mp h
  simp [enumD, hl, hd]
theorem rp_pair {K : PySem.W.Frag} {H : Hp} {T : Addr} {a b : PyData} {x y : V} (hT : H T = none) (h1 : Rp K H a x) (h2 : Rp K H b y) : Rp K (upd H T (.tup [x, y])) (.tuple [a, b]) (.ref T) :=
  ⟨T, [x, y], rfl, SqT.of upd_same, x, [y], rfl, h1.mono (Ext.new hT).fz, y, [], rfl, h2.mono (Ext.new hT).fz, rfl⟩
theorem walks_enum {K : PySem.W.Frag} {H1 : Hp} {p : Addr} {vs : List V} {ds : List PyData} (q : FzK K H1 p vs) (r : Rps K H1 ds vs) : Walks K (Ite K p) (enumD ds) H1 := by
  have sq : ∀ {H}, Fz H1 H → SqL K H p vs := fun {H} z => (q.mono z).sq
  have hl : (enumD ds).length = ds.length := by simp [enumD]
  refine ⟨fun i H z hi => ⟨vs, vs[i]'(by rw [r.len, ← hl]; exact hi), sq z, by simp⟩, fun H z => ⟨vs, sq z, by rw [r.len, hl]; exact Nat.le_refl _⟩, fun i H x H' z hi y => ?_⟩
  obtain ⟨T, y0, rfl, hT, rfl, y⟩ := y
  obtain ⟨d, e, a⟩ := r.get' (y vs (sq z))
  exact ⟨Ext.new hT, _, enumD_get e, rp_pair hT rfl (a.mono z)⟩
def fiEn (g : FA) : FI := fun sl S => match g sl S with
  | some (.vals [(.pure, .py (.list ds))] S') => some (enumD ds, S')
  | _ => none
theorem denI_enum {a : Expr} {g : FA} {p tpos : Pos} {elts : List Expr} {kk : Nat} (hg : Gl X "enumerate") (hm : X.mg "enumerate" = none) (h : DenA X [a] g) (hs : starEach [a] X.env = [(false, eval a X.env)]) :
    DenI X (.Tuple elts kk tpos) (.Call (.Name "enumerate" p) [a] [] pos) (fiEn g) := by
  refine .mk ?_; intro H0 φ0 φ σ H sl S ds S' R hf Rr q
  unfold fiEn at hf
  split at hf
  · rename_i xs S1 h1
    cases hf
    refine wI.of (pi_enum hg hm wA.pa hs) (h H0 φ0 φ σ H sl S _ R h1 _ _ takes_no fun us H1 φ1 R1 l1 rvs => ?_)
    obtain ⟨u, r, rfl, rv, rfl⟩ := rvs
    obtain ⟨a', vs, rfl, fz, rs⟩ := rv
    exact ⟨a', vs, rfl, fz.sq, q _ H1 φ1 R1 l1 (walks_enum fz rs)⟩
  · cases hf
def zipD (xs ys : List PyData) : List PyData := (List.zip xs ys).map fun p => .tuple [p.1, p.2]
theorem zipD_get {xs ys : List PyData} {i : Nat} {a b : PyData} (h : xs[i]? = some a) (h2 : ys[i]? = some b) : (zipD xs ys)[i]? = some (.tuple [a, b]) := by
  unfold zipD
  rw [List.getElem?_map, (List.getElem?_zip_eq_some (z := (a, b))).mpr ⟨h, h2⟩]
  rfl
theorem zipD_len {xs ys : List PyData} : (zipD xs ys).length = min xs.length ys.length := by simp [zipD]
theorem walks_zip {K : PySem.W.Frag} {H1 : Hp} {p p2 : Addr} {vs vs2 : List V} {ds ds2 : List PyData} (q : FzK K H1 p vs) (r : Rps K H1 ds vs) (q2 : FzK K H1 p2 vs2) (r2 : Rps K H1 ds2 vs2) : Walks K (Itz K p p2) (zipD ds ds2) H1 := by
  have sq : ∀ {H}, Fz H1 H → SqL K H p vs := fun {H} z => (q.mono z).sq
  have sq2 : ∀ {H}, Fz H1 H → SqL K H p2 vs2 := fun {H} z => (q2.mono z).sq
  have hl : (zipD ds ds2).length = min ds.length ds2.length := zipD_len
  have l1 := r.len
  have l2 := r2.len
  refine ⟨fun i H z hi => ⟨vs, vs2, vs[i]'(by omega), vs2[i]'(by omega), sq z, sq2 z, by simp, by simp⟩, fun H z => ⟨vs, vs2, sq z, sq2 z, by omega⟩, fun i H x H' z hi y => ?_⟩
  obtain ⟨T, x0, y0, rfl, hT, rfl, y, y2⟩ := y
  obtain ⟨d, e, a⟩ := r.get' (y vs (sq z))
  obtain ⟨d2, e2, a2⟩ := r2.get' (y2 vs2 (sq2 z))
  exact ⟨Ext.new hT, _, zipD_get e e2, rp_pair hT (a.mono z) (a2.mono z)⟩
theorem walks_zipT {K : PySem.W.Frag} {H1 : Hp} {p p2 : Addr} {vs vs2 : List V} {ds ds2 : List PyData} (q : SqT K H1 p vs) (r : Rps K H1 ds vs) (q2 : SqT K H1 p2 vs2) (r2 : Rps K H1 ds2 vs2) : Walks K (RZ.ItzT K p p2) (zipD ds ds2) H1 := by
  have sq : ∀ {H}, Fz H1 H → SqT K H p vs := fun {H} z => sqT_mono z q
  have sq2 : ∀ {H}, Fz H1 H → SqT K H p2 vs2 := fun {H} z => sqT_mono z q2
  have hl : (zipD ds ds2).length = min ds.length ds2.length := zipD_len
  have l1 := r.len
  have l2 := r2.len
  refine ⟨fun i H z hi => ⟨vs, vs2, vs[i]'(by omega), vs2[i]'(by omega), sq z, sq2 z, by simp, by simp⟩, fun H z => ⟨vs, vs2, sq z, sq2 z, by omega⟩, fun i H x H' z hi y => ?_⟩
  obtain ⟨T, x0, y0, rfl, hT, rfl, y, y2⟩ := y
  obtain ⟨d, e, a⟩ := r.get' (y vs (sq z))
  obtain ⟨d2, e2, a2⟩ := r2.get' (y2 vs2 (sq2 z))
  exact ⟨Ext.new hT, _, zipD_get e e2, rp_pair hT (a.mono z) (a2.mono z)⟩
def fiZip (g : FA) : FI := fun sl S => match g sl S with
  | some (.vals [(.pure, .py (.list ds)), (.pure, .py (.list ds2))] S') => some (zipD ds ds2, S')
  | some (.vals [(.pure, .py (.tuple ds)), (.pure, .py (.tuple ds2))] S') => some (zipD ds ds2, S')
  | _ => none
theorem denI_zip {a b : Expr} {g : FA} {p tpos : Pos} {elts : List Expr} {kk : Nat} (hg : Gl X "zip") (hm : X.mg "zip" = none) (h : DenA X [a, b] g) (hs : starEach [a, b] X.env = (false, eval a X.env) :: starEach [b] X.env) (hpl : (backTo pos (starEach [b] X.env)).any (·.1) = false) :
    DenI X (.Tuple elts kk tpos) (.Call (.Name "zip" p) [a, b] [] pos) (fiZip g) := by
  refine .mk ?_; intro H0 φ0 φ σ H sl S ds S' R hf Rr q
  unfold fiZip at hf
  split at hf
  · rename_i xs ys S1 h1
    cases hf
    refine wI.of (RZ.pi_zipA hg hm wA.pa hs hpl) (h H0 φ0 φ σ H sl S _ R h1 _ _ takes_no fun us H1 φ1 R1 l1 rvs => ?_)
    obtain ⟨u, r, rfl, rv, u2, r2, rfl, rv2, rfl⟩ := rvs
    obtain ⟨p1, vs, rfl, fz, rs⟩ := rv
    obtain ⟨p2, vs2, rfl, fz2, rs2⟩ := rv2
    exact ⟨p1, p2, vs, vs2, rfl, .inl ⟨fz.sq, fz2.sq, q _ H1 φ1 R1 l1 (walks_zip fz rs fz2 rs2)⟩⟩
  · rename_i xs ys S1 h1
    cases hf
    refine wI.of (RZ.pi_zipA hg hm wA.pa hs hpl) (h H0 φ0 φ σ H sl S _ R h1 _ _ takes_no fun us H1 φ1 R1 l1 rvs => ?_)
    obtain ⟨u, r, rfl, rv, u2, r2, rfl, rv2, rfl⟩ := rvs
    obtain ⟨p1, vs, rfl, fz, rs⟩ := rv
    obtain ⟨p2, vs2, rfl, fz2, rs2⟩ := rv2
    exact ⟨p1, p2, vs, vs2, rfl, .inr ⟨fz, fz2, q _ H1 φ1 R1 l1 (walks_zipT fz rs fz2 rs2)⟩⟩
  · cases hf
end
end PP
set_option Elab.async false
set_option linter.all false
set_option maxRecDepth 100000
set_option maxHeartbeats 4000000
namespace PP
open PySem L2
/-! ## loops -/
section
variable {X : Cx} {pos : Pos} {x : Str} {i k n : Nat} {e tg iter c elt : Expr} {body : List Stmt} {is : List Nat} {fi : FI} {g : PyData → Sl → Option Sl} {fb : FS} {ft : FT} {fe : FE}
def forLoop (g : PyData → Sl → Option Sl) (body : FS) : List PyData → FS
  | [], sl, S => some (.nx sl S)
  | d :: ds, sl, S => match g d sl with
    | none => none
    | some sl1 => match body sl1 S with
      | some (.nx sl2 S2) => forLoop g body ds sl2 S2
      | some (.ct sl2 S2) => forLoop g body ds sl2 S2
      | some (.bk sl2 S2) => some (.nx sl2 S2)
      | r => r
def fFor (fi : FI) (g : PyData → Sl → Option Sl) (body : FS) : FS := fun sl S => match fi sl S with
  | some (ds, S1) => forLoop g body ds sl S1
  | none => none
theorem forLoop_cons {d : PyData} {ds : List PyData} {sl : Sl} {S : SS} : forLoop g fb (d :: ds) sl S = match g d sl with
    | none => none
    | some sl1 => match fb sl1 S with
      | some (.nx sl2 S2) => forLoop g fb ds sl2 S2
      | some (.ct sl2 S2) => forLoop g fb ds sl2 S2
      | some (.bk sl2 S2) => some (.nx sl2 S2)
      | r => r := rfl
theorem denS_for (ct : Ct X k) (hp : PassesOwn (model X.prog X.w) X.A X.env X.xe) (hi : DenI X tg iter fi) (hg : DenG X tg is g) (hb : DenS X body fb) (hs : ∀ x, foldedSetIterable iter X.env x = pure x) : DenS1 X (.For tg iter body [] pos) (fFor fi g fb) := by
  refine .mk ?_; intro H0 φ0 φ σ H sl S r R hf D W tk post
  refine wS1.of (ps_for hp ct.calm wI.pi wG.pg wSs.pss hs) ?_
  unfold fFor at hf
  split at hf
  · rename_i ds S1 h1
    refine hi H0 φ0 φ σ H sl S ds S1 R h1 _ fun J H1 φ1 R1 l1 wk => ?_
    let Pv : Nat → L2.St → Hp → Prop := fun i σ' H' => ∃ φ' sl' S', Rel X.K X.mg H0 φ0 φ' σ' H' sl' S' ∧ Fz H1 H' ∧ forLoop g fb (ds.drop i) sl' S' = some r
    refine ⟨fun i m σ' H' => m = ds.length - i ∧ i ≤ ds.length ∧ Pv i σ' H', ⟨ds.length, by simp, Nat.zero_le _, φ1, sl, S1, R1, Fz.refl _, hf⟩, ?_⟩
    rintro i m σ' H' ⟨rfl, hle, φ', sl', S', R', z', hl⟩
    by_cases hlt : i < ds.length
    · refine .inr ⟨wk.go i H' z' hlt, Pv (i + 1), fun σ2 H2 p => ⟨ds.length - (i + 1), by omega, rfl, hlt, p⟩, fun x H2 y => ?_⟩
      obtain ⟨ex, d, ed, rp⟩ := wk.yld i H' x H2 z' hlt y
      have hd : ds.drop i = d :: ds.drop (i + 1) := by
        rw [List.drop_eq_getElem_cons hlt]
        congr 1
        rw [List.getElem?_eq_getElem hlt] at ed
        exact Option.some.inj ed
      rw [hd, forLoop_cons] at hl
      have z2 : Fz H1 H2 := z'.trans ex.fz
      split at hl
      · cases hl
      · rename_i sl1 eg
        refine hg H0 φ0 φ' σ' H2 sl' sl1 S' d x (R'.ext ex) rp eg _ fun σ3 R3 _ => ?_
        split at hl
        · rename_i sl2 S2 eb
          exact hb H0 φ0 φ' σ3 H2 sl1 S' _ R3 eb _ W tk fun σ4 H4 φ4 R4 z4 => ⟨φ4, sl2, S2, R4, z2.trans z4, hl⟩
        · rename_i sl2 S2 eb
          exact hb H0 φ0 φ' σ3 H2 sl1 S' _ R3 eb _ W tk fun σ4 H4 φ4 R4 z4 => ⟨φ4, sl2, S2, R4, z2.trans z4, hl⟩
        · rename_i sl2 S2 eb
          cases hl
          exact hb H0 φ0 φ' σ3 H2 sl1 S' _ R3 eb _ W tk fun σ4 H4 φ4 R4 z4 => post σ4 H4 φ4 R4 ((l1.fz.trans z2).trans z4)
        · rename_i h1 h2 h3
          refine hb H0 φ0 φ' σ3 H2 sl1 S' r R3 hl _ W tk ?_
          have post' := post.fz (l1.fz.trans z2)
          cases r with
          | nx a b => exact absurd hl (h1 a b)
          | ct a b => exact absurd hl (h2 a b)
          | bk a b => exact absurd hl (h3 a b)
          | rt t v S => exact post'
          | exn c d sl S => exact post'
    · have e : i = ds.length := by omega
      subst e
      rw [List.drop_length] at hl
      cases hl
      exact .inl ⟨wk.stop H' z', post σ' H' φ' R' (l1.fz.trans z')⟩
  · cases hf
def whileLoop (c : FT) (b : FS) : Nat → FS
  | 0, _, _ => none
  | n + 1, sl, S => match c sl S with
    | some (.tb true S1) => match b sl S1 with
      | some (.nx sl2 S2) => whileLoop c b n sl2 S2
      | some (.ct sl2 S2) => whileLoop c b n sl2 S2
      | some (.bk sl2 S2) => some (.nx sl2 S2)
      | r => r
    | some (.tb false S1) => some (.nx sl S1)
    | some (.exn c d S1) => some (.exn c d sl S1)
    | none => none
theorem whileLoop_succ {sl : Sl} {S : SS} : whileLoop ft fb (n + 1) sl S = match ft sl S with
    | some (.tb true S1) => match fb sl S1 with
      | some (.nx sl2 S2) => whileLoop ft fb n sl2 S2
      | some (.ct sl2 S2) => whileLoop ft fb n sl2 S2
      | some (.bk sl2 S2) => some (.nx sl2 S2)
      | r => r
    | some (.tb false S1) => some (.nx sl S1)
    | some (.exn c d S1) => some (.exn c d sl S1)
    | none => none := rfl
theorem denS_while (n : Nat) (hp : PassesOwn (model X.prog X.w) X.A X.env X.xe) (hc : DenT X c ft) (hb : DenS X body fb) : DenS1 X (.While c body [] pos) (whileLoop ft fb n) := by
  refine .mk ?_; intro H0 φ0 φ σ H sl S r R hf D W tk post
  refine wS1.of (ps_while hp wT.pt wSs.pss) ?_
  let Pv : Nat → L2.St → Hp → Prop := fun m σ' H' => ∃ φ' sl' S', Rel X.K X.mg H0 φ0 φ' σ' H' sl' S' ∧ Fz H H' ∧ whileLoop ft fb m sl' S' = some r
  refine ⟨Pv, ⟨n, φ, sl, S, R, Fz.refl _, hf⟩, ?_⟩
  rintro m σ' H' ⟨φ', sl', S', R', z', hl⟩
  cases m with
  | zero => cases hl
  | succ m =>
    rw [whileLoop_succ] at hl
    split at hl
    · rename_i S1 e1
      refine hc H0 φ0 φ' σ' H' sl' S' _ R' e1 _ W tk fun H1 φ1 R1 l1 => ?_
      show (if true = true then _ else _)
      rw [if_pos rfl]
      refine ⟨Pv m, fun σ2 H2 p => ⟨m, Nat.lt_succ_self m, p⟩, ?_⟩
      have z1 := z'.trans l1.fz
      split at hl
      · rename_i sl2 S2 eb
        exact hb H0 φ0 φ1 σ' H1 sl' S1 _ R1 eb _ W tk fun σ4 H4 φ4 R4 z4 => ⟨φ4, sl2, S2, R4, z1.trans z4, hl⟩
      · rename_i sl2 S2 eb
        exact hb H0 φ0 φ1 σ' H1 sl' S1 _ R1 eb _ W tk fun σ4 H4 φ4 R4 z4 => ⟨φ4, sl2, S2, R4, z1.trans z4, hl⟩
      · rename_i sl2 S2 eb
        cases hl
        exact hb H0 φ0 φ1 σ' H1 sl' S1 _ R1 eb _ W tk fun σ4 H4 φ4 R4 z4 => post σ4 H4 φ4 R4 (z1.trans z4)
      · rename_i h1 h2 h3
        refine hb H0 φ0 φ1 σ' H1 sl' S1 r R1 hl _ W tk ?_
        have post' := post.fz z1
        cases r with
        | nx a b => exact absurd hl (h1 a b)
        | ct a b => exact absurd hl (h2 a b)
        | bk a b => exact absurd hl (h3 a b)
        | rt t v S => exact post'
        | exn c d sl S => exact post'
    · rename_i S1 e1
      cases hl
      refine hc H0 φ0 φ' σ' H' sl' S' _ R' e1 _ W tk fun H1 φ1 R1 l1 => ?_
      show (if false = true then _ else _)
      rw [if_neg Bool.false_ne_true]
      exact post σ' H1 φ1 R1 (z'.trans l1.fz)
    · rename_i c' d S1 e1
      cases hl
      exact hc H0 φ0 φ' σ' H' sl' S' _ R' e1 _ W tk fun C dx H1 φ1 R1 l1 ex => post C dx σ' H1 φ1 R1 (z'.trans l1.fz) ex
    · cases hl
end
/-! ## comprehensions -/
/-- an object of nobody's is written -/
theorem Rel.write {K : PySem.W.Frag} {mg : Str → Option Value} {H0 H : Hp} {φ0 φ : List Addr} {σ : L2.St} {sl : Sl} {S : SS} (R : Rel K mg H0 φ0 φ σ H sl S) {p : Addr} {o o' : HO} (e : H p = some o) (m : Mu o = true) (n : p ∉ φ) (n0 : H0 p = none) (ns : ∀ (i : Nat) (d' : PyData), sl[i]? = some (.own d') → σ[i]? ≠ some (some (.ref p))) :
    Rel K mg H0 φ0 φ σ (upd H p o') sl S := by
  have z : Fz H (upd H p o') := fun a u h n => by
    rw [upd_ne (fun z => by subst z; rw [e] at h; cases h; rw [m] at n; cases n)]
    exact h
  have other : ∀ a, a ≠ p → (upd H p o') a = H a := fun a h => upd_ne h
  refine ⟨R.len, fun i s h => ?_, R.dist, R.blen, fun k a d h g => ?_, R.nd, R.pre, R.new, fun a u h g => ?_⟩
  · have q := R.slots i s h
    cases s with
    | un => trivial
    | p v => obtain ⟨u, e1, e2⟩ := q; exact ⟨u, e1, e2.mono z ⟨[], by simp⟩⟩
    | own d =>
      obtain ⟨p', e1, e2, e3, e4⟩ := q
      exact ⟨p', e1, e2.mono z (other p' fun y => by subst y; exact ns i d h e1), e3, e4⟩
  · exact (R.box k a d h g).mono z (other a fun y => by subst y; exact n (List.mem_of_getElem? h))
  · rw [other a fun y => by subst y; rw [n0] at h; cases h]
    exact R.keep a u h g
def wipeSl (sl : Sl) : List Nat → Sl
  | [] => sl
  | v :: vs => (wipeSl sl vs).set v .un
theorem Rel.un {K : PySem.W.Frag} {mg : Str → Option Value} {H0 H : Hp} {φ0 φ : List Addr} {σ : L2.St} {sl : Sl} {S : SS} (R : Rel K mg H0 φ0 φ σ H sl S) (v : Nat) (x : Option V) : Rel K mg H0 φ0 φ (σ.set v x) H (sl.set v .un) S := by
  have nv : ∀ {j : Nat} {d : PyData}, (sl.set v .un)[j]? = some (.own d) → v ≠ j := fun {j d} h e => by
    subst e
    by_cases hl : v < sl.length
    · rw [List.getElem?_set_self hl] at h; cases h
    · rw [List.getElem?_eq_none (by simpa using hl)] at h; cases h
  refine ⟨by rw [List.length_set, List.length_set, R.len], fun j s h => ?_, fun i j p q d d' hij h1 h2 h3 h4 => ?_, R.blen, R.box, R.nd, R.pre, R.new, R.keep⟩
  · by_cases hj : v = j
    · subst hj
      by_cases hl : v < sl.length
      · rw [List.getElem?_set_self hl] at h
        cases h
        trivial
      · rw [List.getElem?_eq_none (by simpa using hl)] at h; cases h
    · rw [List.getElem?_set_ne hj] at h
      rw [List.getElem?_set_ne hj]
      exact R.slots j s h
  · have e1 := nv h1
    have e2 := nv h2
    rw [List.getElem?_set_ne e1] at h1 h3
    rw [List.getElem?_set_ne e2] at h2 h4
    exact R.dist i j p q d d' hij h1 h2 h3 h4
theorem Rel.wipe {K : PySem.W.Frag} {mg : Str → Option Value} {H0 H : Hp} {φ0 φ : List Addr} {σ : L2.St} {sl : Sl} {S : SS} (R : Rel K mg H0 φ0 φ σ H sl S) : ∀ (vs : List Nat), Rel K mg H0 φ0 φ (wipe σ vs) H (wipeSl sl vs) S
  | [] => R
  | v :: vs => (Rel.wipe R vs).un v none
theorem own_ref {K : PySem.W.Frag} {mg : Str → Option Value} {H0 H : Hp} {φ0 φ : List Addr} {σ : L2.St} {sl : Sl} {S : SS} (R : Rel K mg H0 φ0 φ σ H sl S) {p : Addr} (h : H p = none) : ∀ (i : Nat) (d' : PyData), sl[i]? = some (.own d') → σ[i]? ≠ some (some (.ref p)) := fun i d' h1 g => by
  obtain ⟨q, e1, e2, _⟩ := R.slots i _ h1
  rw [g] at e1
  cases e1
  obtain ⟨o', eo, _⟩ := e2.mu
  rw [h] at eo
  cases eo
theorem wipe_wipe (σ : L2.St) (vs : List Nat) : L2.wipe (L2.wipe σ vs) vs = L2.wipe σ vs := by
  refine List.ext_getElem? fun j => ?_
  by_cases hj : j ∈ vs
  · by_cases hl : j < σ.length
    · rw [wipe_in hj hl, wipe_in hj (by rw [wipe_length]; exact hl)]
    · rw [List.getElem?_eq_none (by rw [wipe_length, wipe_length]; omega), List.getElem?_eq_none (by rw [wipe_length]; omega)]
  · rw [wipe_out hj]
def lcLoop (g : PyData → Sl → Option Sl) (t : FT) (f : FE) (sl : Sl) : List PyData → List PyData → SS → Option (List PyData × SS)
  | [], acc, S => some (acc, S)
  | d :: ds, acc, S => match g d sl with
    | none => none
    | some sl1 => match t sl1 S with
      | some (.tb false S1) => lcLoop g t f sl ds acc S1
      | some (.tb true S1) => match f sl1 S1 with
        | some (.val .pure (.py y) S2) => if acc.length < LIM then lcLoop g t f sl ds (acc ++ [y]) S2 else none
        | _ => none
      | _ => none
theorem lcLoop_cons {g : PyData → Sl → Option Sl} {t : FT} {f : FE} {sl : Sl} {d : PyData} {ds acc : List PyData} {S : SS} : lcLoop g t f sl (d :: ds) acc S = match g d sl with
    | none => none
    | some sl1 => match t sl1 S with
      | some (.tb false S1) => lcLoop g t f sl ds acc S1
      | some (.tb true S1) => match f sl1 S1 with
        | some (.val .pure (.py y) S2) => if acc.length < LIM then lcLoop g t f sl ds (acc ++ [y]) S2 else none
        | _ => none
      | _ => none := rfl
/-- a clause's tests -/
def wTs (X : Cx) (ifs : List Expr) : TT := fun σ H Q => ∀ (pins : List (Addr × Obj)) (s : Shared), Inv X pins σ H s →
  wpAny (model X.prog X.w) X.A (forIn ifs true fun c r => if r = true then do let ok ← isTrue c X.env (eval c X.env); pure (ForInStep.yield ok) else pure (ForInStep.yield r)) (TP X pins σ Q) X.xe s
theorem wTs.of {X : Cx} {ifs : List Expr} {t : TT} {σ : L2.St} {H : Hp} {Q : Bool → Hp → Prop} (h : PTs X ifs t) (q : t σ H Q) : wTs X ifs σ H Q := fun pins s I => h.run pins s σ H Q I q
def DenTs_ (X : Cx) (ifs : List Expr) (f : FT) : Prop :=
  ∀ (H0 : Hp) (φ0 φ : List Addr) (σ : L2.St) (H : Hp) (sl : Sl) (S : SS) (r : TR), Rel X.K X.mg H0 φ0 φ σ H sl S → f sl S = some r →
    ∀ (Q : Bool → Hp → Prop) (W : WX), Takes X W → PostT X H0 φ0 φ σ H sl Q W r → wTs X ifs σ H Q
structure DenTs (X : Cx) (ifs : List Expr) (f : FT) : Prop where
  run : DenTs_ X ifs f
instance {X : Cx} {ifs : List Expr} {f : FT} : CoeFun (DenTs X ifs f) (fun _ => DenTs_ X ifs f) := ⟨DenTs.run⟩
def fYes : FT := fun _ S => some (.tb true S)
theorem denTs_nil {X : Cx} : DenTs X [] fYes := by
  refine .mk ?_; intro H0 φ0 φ σ H sl S r R hf Q W tk post
  cases hf
  exact wTs.of pts_nil (post H φ R (Le.refl _ _))
theorem denTs_one {X : Cx} {c : Expr} {f : FT} (h : DenT X c f) : DenTs X [c] f := .mk fun H0 φ0 φ σ H sl S r R hf Q W tk post => wTs.of (pts_one wT.pt) (h H0 φ0 φ σ H sl S r R hf Q W tk post)
section
variable {X : Cx} {pos : Pos} {x : Str} {i k n : Nat} {e tg iter c elt : Expr} {ifs : List Expr} {scope : Scope} {is vs : List Nat} {own : List (Str × Nat)} {fi : FI} {g : PyData → Sl → Option Sl} {t : FT} {f : FE}
abbrev Bk (X : Cx) (scope : Scope) (s : Shared) (H : Hp) (C : Addr) (cl : List (Str × Addr)) (fp : List Addr) : Cx := X.blk s H scope (compEnvC scope cl C X.env) fp
def bG (X : Cx) (scope : Scope) (tg : Expr) : TG := fun v σ H Q => ∀ s H' C cl fp, wG (Bk X scope s H' C cl fp) tg v σ H Q
def bT (X : Cx) (scope : Scope) (ifs : List Expr) : TT := fun σ H Q => ∀ s H' C cl fp, wTs (Bk X scope s H' C cl fp) ifs σ H Q
def bE (X : Cx) (scope : Scope) (elt : Expr) : TE := fun σ H Q => ∀ s H' C cl fp, wE (Bk X scope s H' C cl fp) elt σ H Q
theorem lc_go (hi : DenI X tg iter fi) (hv : ∀ j ∈ is, j ∈ vs) (hg : ∀ s H C cl fp, DenG (Bk X scope s H C cl fp) tg is g) (ht : ∀ s H C cl fp, DenTs (Bk X scope s H C cl fp) ifs t) (he : ∀ s H C cl fp, Den (Bk X scope s H C cl fp) elt f)
    {H0 : Hp} {φ0 φ : List Addr} {σ : L2.St} {H : Hp} {sl : Sl} {S S1 S2 : SS} {ds acc : List PyData} {Q : VK} (R : Rel X.K X.mg H0 φ0 φ σ H sl S) (h1 : fi sl S = some (ds, S1)) (h2 : lcLoop g t f (wipeSl sl vs) ds [] S1 = some (acc, S2))
    (q : ∀ (D : Addr) (H' : Hp) (φ' : List Addr), Rel X.K X.mg H0 φ0 φ' σ H' sl S2 → Le φ H φ' H' → RV X.K X.mg H0 H' φ' σ sl .fresh (.py (.list acc)) (.ref D) → H D = none → Q (.ref D) H') :
    tLc (wI X tg iter) (bG X scope tg) (bT X scope ifs) (bE X scope elt) vs σ H Q := by
  refine hi H0 φ0 φ σ H sl S ds S1 R h1 _ fun J H1 φ1 R1 l1 wk => ?_
  intro D hD
  let Pv : Nat → Hp → Prop := fun i H' => ∃ φ' S' aD aV, Rel X.K X.mg H0 φ0 φ' (wipe σ vs) H' (wipeSl sl vs) S' ∧ Le φ1 H1 φ' H' ∧ H' D = some (.lst aV) ∧ Rps X.K H' aD aV ∧ D ∉ φ' ∧ lcLoop g t f (wipeSl sl vs) (ds.drop i) aD S' = some (acc, S2)
  have e0 : Ext H1 (upd H1 D (.lst [])) := Ext.new hD
  have D0 : H0 D = none := R1.fresh0 hD
  have nsD := own_ref R1 hD
  have nsW : ∀ (i : Nat) (d' : PyData), (wipeSl sl vs)[i]? = some (.own d') → (wipe σ vs)[i]? ≠ some (some (.ref D)) := own_ref (R1.wipe vs) hD
  refine ⟨fun i m H' => m = ds.length - i ∧ i ≤ ds.length ∧ Pv i H', ⟨ds.length, by simp, Nat.zero_le _, φ1, S1, [], [], (R1.wipe vs).ext e0, e0.le, upd_same, rfl, R1.notBox hD, h2⟩, ?_⟩
  rintro i m H' ⟨rfl, hle, φ', S', aD, aV, R', l', eD, ra, nD, hl⟩
  by_cases hlt : i < ds.length
  · refine .inr ⟨wk.go i H' l'.fz hlt, Pv (i + 1), fun H2 p => ⟨ds.length - (i + 1), by omega, rfl, hlt, p⟩, fun x H2 y => ?_⟩
    obtain ⟨ex, d, ed, rp⟩ := wk.yld i H' x H2 l'.fz hlt y
    have hd : ds.drop i = d :: ds.drop (i + 1) := by
      rw [List.drop_eq_getElem_cons hlt]
      congr 1
      rw [List.getElem?_eq_getElem hlt] at ed
      exact Option.some.inj ed
    rw [hd, lcLoop_cons] at hl
    have R2 := R'.ext ex
    have l2 := l'.trans ex.le
    split at hl
    · cases hl
    · rename_i sl1 eg
      intro s' Hs' C' cl' fp'
      refine hg s' Hs' C' cl' fp' H0 φ0 φ' _ H2 _ sl1 S' d x R2 rp eg _ fun σ3 R3 o3 => ⟨(o3.wipe hv).trans (wipe_wipe σ vs), ?_⟩
      intro s3 Hs3 C3 cl3 fp3
      have back : ∀ {φ4 : List Addr} {H4 : Hp} {S4 : SS}, Rel X.K X.mg H0 φ0 φ4 σ3 H4 sl1 S4 → Le φ' H2 φ4 H4 → Rel X.K X.mg H0 φ0 φ4 (wipe σ vs) H4 (wipeSl sl vs) S4 := fun {φ4 H4 S4} R4 l4 => R2.le l4 R4.blen R4.nd R4.box
      split at hl
      · rename_i S3 et
        refine ht s3 Hs3 C3 cl3 fp3 H0 φ0 φ' σ3 H2 sl1 S' _ R3 et _ _ takes_no fun H4 φ4 R4 l4 => ?_
        show (if false = true then _ else _)
        rw [if_neg Bool.false_ne_true]
        have fz4 := ex.fz.trans l4.fz
        refine ⟨φ4, S3, aD, aV, back R4 l4, l2.trans l4, l4.keep D _ (ex D _ eD) nD, ra.mono fz4, fun z => ?_, hl⟩
        have := l4.new D z nD
        rw [ex D _ eD] at this
        cases this
      · rename_i S3 et
        refine ht s3 Hs3 C3 cl3 fp3 H0 φ0 φ' σ3 H2 sl1 S' _ R3 et _ _ takes_no fun H4 φ4 R4 l4 => ?_
        show (if true = true then _ else _)
        rw [if_pos rfl]
        split at hl
        · rename_i y S4 ee
          split at hl
          · rename_i hlim
            intro s5 Hs5 C5 cl5 fp5
            refine he s5 Hs5 C5 cl5 fp5 H0 φ0 φ4 σ3 H4 sl1 S3 _ R4 ee _ _ takes_no fun u H5 φ5 R5 l5 rv _ => ?_
            have l25 := l4.trans l5
            have fz5 := ex.fz.trans l25.fz
            have e5 : H5 D = some (.lst aV) := l25.keep D _ (ex D _ eD) nD
            have n5 : D ∉ φ5 := fun z => by
              have := l25.new D z nD
              rw [ex D _ eD] at this
              cases this
            have rw5 := back R5 l25
            have z6 : Fz H5 (upd H5 D (.lst (aV ++ [u]))) := fun a w h m => by
              rw [upd_ne (fun z => by subst z; rw [e5] at h; cases h; cases m)]
              exact h
            refine ⟨aV, e5, Nat.lt_of_lt_of_le (by rw [ra.len]; exact hlim) (lim_line (Nat.le_refl _)), φ5, S4, aD ++ [y], aV ++ [u], rw5.write e5 rfl n5 D0 nsW, ⟨fun a w h m => ?_, (l2.trans l25).pre, (l2.trans l25).new, (l2.trans l25).fz.trans z6⟩, upd_same, ?_, n5, hl⟩
            · rw [upd_ne (fun z => by subst z; rw [hD] at h; cases h)]
              exact (l2.trans l25).keep a w h m
            · exact ((ra.mono fz5).mono z6).app ⟨u, [], rfl, Rp.mono z6 y rv, rfl⟩
          · cases hl
        · cases hl
      · cases hl
  · have e : i = ds.length := by omega
    subst e
    rw [List.drop_length] at hl
    cases hl
    refine .inl ⟨wk.stop H' l'.fz, q D H' φ' (R1.le l' R'.blen R'.nd R'.box) (l1.trans l') ⟨D, rfl, ⟨aV, eD, ra⟩, D0, nD, nsD⟩ (l1.fresh R1 hD)⟩
def fLc (fi : FI) (g : PyData → Sl → Option Sl) (t : FT) (f : FE) (vs : List Nat) : FE := fun sl S => match fi sl S with
  | some (ds, S1) => match lcLoop g t f (wipeSl sl vs) ds [] S1 with
    | some (acc, S2) => some (.val .fresh (.py (.list acc)) S2)
    | none => none
  | none => none
theorem den_lc (ct : Ct X k) (ok : BlkOk X.N X.env.scope scope own) (hi : DenI X tg iter fi) (hv : ∀ j ∈ is, j ∈ own.map (·.2)) (hg : ∀ s H C cl fp, DenG (Bk X scope s H C cl fp) tg is g) (ht : ∀ s H C cl fp, DenTs (Bk X scope s H C cl fp) ifs t) (he : ∀ s H C cl fp, Den (Bk X scope s H C cl fp) elt f)
    (hs : ∀ x, foldedSetIterable iter X.env x = pure x) : Den X (.ListComp elt [⟨tg, iter, ifs, 0⟩] scope pos) (fLc fi g t f (own.map (·.2))) := by
  refine .mk ?_; intro H0 φ0 φ σ H sl S r R hf Q W tk post
  unfold fLc at hf
  split at hf
  · rename_i ds S1 h1
    split at hf
    · rename_i acc S2 h2
      cases hf
      exact wE.of (pe_lc ct.calm ct.nd wI.pi ok (g := bG X scope tg) (tt := bT X scope ifs) (te := bE X scope elt) (fun s H C cl fp => ⟨fun pins s' σ H v u Q I r h => h s _ C cl fp pins s' u I r⟩) (fun s H C cl fp => ⟨fun pins s' σ H Q I h => h s _ C cl fp pins s' I⟩) (fun s H C cl fp => ⟨fun pins s' σ H Q I h => h s _ C cl fp pins s' I⟩) hs)
        (lc_go hi hv hg ht he R h1 h2 fun D H' φ' R' l' rv hD => post _ H' φ' R' l' rv fun _ p e => by cases e; exact hD)
    · cases hf
  · cases hf
theorem denS_setLc {py spos : Pos} {y : Str} (ct : Ct X k) (hy : X.N[i]? = some y) (hyl : X.env.scope.names.lookup y = some .local) (hsw : swapsWith (.ListComp elt [⟨tg, iter, ifs, 0⟩] scope pos) (some (.Name y py)) spos.line X.env = pure true)
    (ok : BlkOk X.N X.env.scope scope own) (hi : DenI X tg iter fi) (hv : ∀ j ∈ is, j ∈ own.map (·.2)) (hg : ∀ s H C cl fp, DenG (Bk X scope s H C cl fp) tg is g) (ht : ∀ s H C cl fp, DenTs (Bk X scope s H C cl fp) ifs t) (he : ∀ s H C cl fp, Den (Bk X scope s H C cl fp) elt f)
    (hs : ∀ x, foldedSetIterable iter X.env x = pure x) : DenS1 X (.Assign [.Name y py] (.ListComp elt [⟨tg, iter, ifs, 0⟩] scope pos) spos) (fSet i (fLc fi g t f (own.map (·.2)))) := by
  refine .mk ?_; intro H0 φ0 φ σ H sl S r R hf D W tk post
  unfold fSet bindS fLc at hf
  split at hf
  · rename_i t' v S' h0
    split at h0
    · rename_i ds S1 h1
      split at h0
      · rename_i acc S2 h2
        cases h0
        cases hf
        exact wS1.of (ps_setLc ct.calm ct.nd hy hyl hsw wI.pi ok (g := bG X scope tg) (tt := bT X scope ifs) (te := bE X scope elt) (fun s H C cl fp => ⟨fun pins s' σ H v u Q I r h => h s _ C cl fp pins s' u I r⟩) (fun s H C cl fp => ⟨fun pins s' σ H Q I h => h s _ C cl fp pins s' I⟩) (fun s H C cl fp => ⟨fun pins s' σ H Q I h => h s _ C cl fp pins s' I⟩) hs)
          (lc_go hi hv hg ht he R h1 h2 fun D H' φ' R' l' rv hD => post _ H' φ' (R'.put rv rfl i) l'.fz)
      · cases h0
    · cases h0
  · rename_i c' d' S' h0
    split at h0
    · split at h0
      · cases h0
      · cases h0
    · cases h0
  · cases hf
end
end PP
set_option Elab.async false
set_option linter.all false
set_option maxRecDepth 100000
set_option maxHeartbeats 4000000
namespace PP
open PySem L2
/-! ## a slot's own object is shut behind a statement; .. while a test runs -/
theorem wS1.shut {X : Cx} {st : Stmt} {D : Ends} {σ : L2.St} {H : Hp} (h : wS1 X st { D with nx := fun σ' H' => D.nx σ' H' ∨ ∃ p o, H' p = some o ∧ Mut (some o) ∧ ∀ od, D.nx σ' (upd H' p (.frz od o)) } σ H) : wS1 X st D σ H := fun pins s I =>
  thn (h pins s I) fun f s1 q => by
    cases f with
    | next =>
      obtain ⟨σ1, H1, I1, q1⟩ := q
      rcases q1 with q1 | ⟨p, o, e1, m, q1⟩
      · exact ⟨σ1, H1, I1, q1⟩
      · obtain ⟨od, I2⟩ := I1.lock e1 m
        exact ⟨σ1, _, I2, q1 od⟩
    | ret v => exact q
    | brk => exact q
    | cont => exact q
def lockSl (i : Nat) (sl : Sl) : Sl := match sl[i]? with
  | some (.own d) => sl.set i (.p (.py d))
  | _ => sl
section
variable {K : PySem.W.Frag} {mg : Str → Option Value} {H0 H : Hp} {φ0 φ : List Addr} {σ : L2.St} {sl : Sl} {S : SS}
theorem Rel.lockAt (R : Rel K mg H0 φ0 φ σ H sl S) {i : Nat} {d : PyData} (h : sl[i]? = some (.own d)) : ∃ p o, σ[i]? = some (some (.ref p)) ∧ H p = some o ∧ Mut (some o) ∧ Mu o = true ∧ H0 p = none ∧ p ∉ φ ∧ ∀ od, Rel K mg H0 φ0 φ σ (upd H p (.frz od o)) (sl.set i (.p (.py d))) S ∧ Fz H (upd H p (.frz od o)) := by
  obtain ⟨p, e1, e2, e3, e4⟩ := R.slots i _ h
  obtain ⟨o, eo, mt, rp⟩ := e2.mut
  obtain ⟨o', eo', mu⟩ := e2.mu
  obtain rfl : o = o' := Option.some.inj (eo.symm.trans eo')
  have hl : i < sl.length := (List.getElem?_eq_some_iff.mp h).1
  refine ⟨p, o, e1, eo, mt, mu, e3, e4, fun od => ⟨?_, fz_shut eo mu⟩⟩
  have R1 : Rel K mg H0 φ0 φ (σ.set i (some (.ref p))) H (sl.set i .un) S := R.un i _
  have eσ : σ.set i (some (.ref p)) = σ := by
    refine List.ext_getElem? fun j => ?_
    by_cases hj : i = j
    · subst hj
      rw [List.getElem?_set_self (by rw [R.len]; exact hl), e1]
    · rw [List.getElem?_set_ne hj]
  rw [eσ] at R1
  have R2 := R1.shut (od := od) eo mu e4 e3 fun j d' hj g => by
    by_cases hij : i = j
    · subst hij
      rw [List.getElem?_set_self hl] at hj
      cases hj
    · rw [List.getElem?_set_ne hij] at hj
      exact R.dist i j p p d d' hij h hj e1 g rfl
  have R3 := R2.put (t := .pure) (v := .py d) (u := .ref p) (rp od) rfl i
  rw [eσ, List.set_set] at R3
  exact R3
theorem lockSl_own {i : Nat} {d : PyData} (h : sl[i]? = some (.own d)) : lockSl i sl = sl.set i (.p (.py d)) := by
  unfold lockSl
  rw [h]
theorem lockSl_not {i : Nat} (h : ∀ d, sl[i]? ≠ some (.own d)) : lockSl i sl = sl := by
  unfold lockSl
  split
  · rename_i d e
    exact absurd e (h d)
  · rfl
end
section
variable {X : Cx} {st : Stmt} {e : Expr} {f : FS} {g : FT} {i : Nat}
def fLock (i : Nat) (f : FS) : FS := fun sl S => match f sl S with
  | some (.nx sl' S') => some (.nx (lockSl i sl') S')
  | r => r
theorem denS_lock (i : Nat) (h : DenS1 X st f) : DenS1 X st (fLock i f) := by
  refine .mk ?_; intro H0 φ0 φ σ H sl S r R hf D W tk post
  unfold fLock at hf
  split at hf
  · rename_i sl' S' h1
    cases hf
    refine wS1.shut (h H0 φ0 φ σ H sl S _ R h1 _ W tk fun σ' H' φ' R' z => ?_)
    by_cases ho : ∃ d, sl'[i]? = some (.own d)
    · obtain ⟨d, ho⟩ := ho
      obtain ⟨p, o, _, eo, mt, mu, _, _, q⟩ := R'.lockAt ho
      rw [lockSl_own ho] at post
      exact .inr ⟨p, o, eo, mt, fun od => post σ' _ φ' (q od).1 (z.trans (q od).2)⟩
    · rw [lockSl_not fun d e => ho ⟨d, e⟩] at post
      exact .inl (post σ' H' φ' R' z)
  · rename_i hn
    refine h H0 φ0 φ σ H sl S r R hf _ W tk ?_
    cases r with
    | nx a b => exact absurd hf (hn a b)
    | bk a b => exact post
    | ct a b => exact post
    | rt t v S => exact post
    | exn c d sl S => exact post
/-- all boxes hold whole numbers -/
def allInt : List PyData → Bool
  | [] => true
  | .int _ :: r => allInt r
  | _ :: _ => false
def boxInts : SS → Bool
  | [] => true
  | .list ds :: r => allInt ds && boxInts r
  | _ :: _ => false
theorem Rps.allInt {K : PySem.W.Frag} {H H' : Hp} : ∀ {ds : List PyData} {vs : List V}, PP.allInt ds = true → Rps K H ds vs → Rps K H' ds vs
  | [], _, _, h => h
  | .int _ :: r, _, hi, ⟨v, t, e, a, b⟩ => ⟨v, t, e, a, Rps.allInt (ds := r) hi b⟩
  | .none :: _, _, hi, _ => by cases hi
  | .bool _ :: _, _, hi, _ => by cases hi
  | .str _ :: _, _, hi, _ => by cases hi
  | .list _ :: _, _, hi, _ => by cases hi
  | .tuple _ :: _, _, hi, _ => by cases hi
  | .dict _ :: _, _, hi, _ => by cases hi
theorem boxInts_get : ∀ {S : SS} {k : Nat} {d : PyData}, boxInts S = true → S[k]? = some d → ∃ ds, d = .list ds ∧ allInt ds = true
  | .list ds :: r, 0, d, h, e => by
    cases e
    exact ⟨ds, rfl, (Bool.and_eq_true_iff.mp h).1⟩
  | .list ds :: r, k + 1, d, h, e => boxInts_get (S := r) (k := k) (Bool.and_eq_true_iff.mp h).2 e
  | [], _, _, _, e => by cases e
  | .none :: _, _, _, h, _ => by cases h
  | .bool _ :: _, _, _, h, _ => by cases h
  | .int _ :: _, _, _, h, _ => by cases h
  | .str _ :: _, _, _, h, _ => by cases h
  | .tuple _ :: _, _, _, h, _ => by cases h
  | .dict _ :: _, _, _, h, _ => by cases h
theorem wT.lock {σ : L2.St} {H : Hp} {Q : Bool → Hp → Prop} {d : Addr} {u : HO} (hd : H d = some u) (mu : Mut (some u)) (h : ∀ od, wT X e σ (upd H d (.frz od u)) fun b H' => H' d = some (.frz od u) ∧ Q b (upd H' d u)) : wT X e σ H Q := fun pins s I => by
  obtain ⟨od, I1⟩ := I.lock hd mu
  exact thn (h od pins s I1) fun b s1 ⟨H1, I2, e2, q⟩ => ⟨_, I2.unlock e2 (I.nofrz hd mu), q⟩
/-- the test runs while slot i's own object is only read -/
def fLend (i : Nat) (g : FT) : FT := fun sl S => match g (lockSl i sl) S with
  | some (.tb b S') => if boxInts S' = true then some (.tb b S') else none
  | _ => none
theorem denT_lend (i : Nat) (h : DenT X e g) : DenT X e (fLend i g) := by
  refine .mk ?_; intro H0 φ0 φ σ H sl S r R hf Q W tk post
  unfold fLend at hf
  split at hf
  · rename_i b S' h1
    split at hf
    · rename_i hb
      cases hf
      by_cases ho : ∃ d, sl[i]? = some (.own d)
      · obtain ⟨d, ho⟩ := ho
        obtain ⟨p, o, ep, eo, mt, mu, p0, np, q⟩ := R.lockAt ho
        rw [lockSl_own ho] at h1
        refine wT.lock eo mt fun od => h H0 φ0 φ σ _ _ S _ (q od).1 h1 _ _ takes_no fun H' φ' R' l' => ?_
        have ef : H' p = some (.frz od o) := l'.keep p _ upd_same np
        have np' : p ∉ φ' := fun z => by
          have := l'.new p z np
          rw [upd_same] at this
          cases this
        refine ⟨ef, ?_⟩
        have zf : Fz H (upd H' p o) := fun a w ha m => by
          have hap : a ≠ p := fun z => by subst z; rw [eo] at ha; cases ha; rw [mu] at m; cases m
          rw [upd_ne hap]
          exact l'.fz a w (by rw [upd_ne hap]; exact ha) m
        have keep : ∀ a w, H a = some w → a ∉ φ → (upd H' p o) a = some w := fun a w ha na => by
          by_cases hap : a = p
          · subst hap
            rw [upd_same]
            rw [eo] at ha
            exact ha
          · rw [upd_ne hap]
            exact l'.keep a w (by rw [upd_ne hap]; exact ha) na
        have l2 : Le φ H φ' (upd H' p o) := ⟨keep, l'.pre, fun a ha na => by
          have hap : a ≠ p := fun z => by subst z; exact np' ha
          have := l'.new a ha na
          rw [upd_ne hap] at this
          exact this, zf⟩
        refine post _ φ' (R.le l2 R'.blen R'.nd fun k a d' hk hd => ?_) l2
        have B := R'.box k a d' hk hd
        have hap : a ≠ p := fun z => by subst z; exact np' (List.mem_of_getElem? hk)
        obtain ⟨ds, rfl, hi⟩ := boxInts_get hb hd
        obtain ⟨vs, e, r⟩ := B
        exact ⟨vs, by rw [upd_ne hap]; exact e, r.allInt hi⟩
      · rw [lockSl_not fun d e => ho ⟨d, e⟩] at h1
        exact h H0 φ0 φ σ H sl S _ R h1 Q W tk post
    · cases hf
  · cases hf
end
end PP
set_option Elab.async false
set_option linter.all false
set_option maxRecDepth 100000
set_option maxHeartbeats 4000000
namespace PP
open PySem L2
/-! ## what is written: own lists, boxes -/
section
variable {K : PySem.W.Frag} {mg : Str → Option Value} {H0 H : Hp} {φ0 φ : List Addr} {σ : L2.St} {sl : Sl} {S : SS}
theorem fz_upd {p : Addr} {o o' : HO} (e : H p = some o) (m : Mu o = true) : Fz H (upd H p o') := fun a u h n => by
  rw [upd_ne (fun z => by subst z; rw [e] at h; cases h; rw [m] at n; cases n)]
  exact h
theorem set_same {σ : L2.St} {i : Nat} {x : Option V} (h : σ[i]? = some x) : σ.set i x = σ := by
  refine List.ext_getElem? fun j => ?_
  by_cases hj : i = j
  · subst hj
    rw [List.getElem?_set_self (List.getElem?_eq_some_iff.mp h).1, h]
  · rw [List.getElem?_set_ne hj]
theorem Rel.ownSet (R : Rel K mg H0 φ0 φ σ H sl S) {i : Nat} {p : Addr} {d d' : PyData} {o' : HO} (h : sl[i]? = some (.own d)) (hp : σ[i]? = some (some (.ref p))) (ow : Own1 K (upd H p o') p d') : Rel K mg H0 φ0 φ σ (upd H p o') (sl.set i (.own d')) S := by
  obtain ⟨q, e1, e2, e3, e4⟩ := R.slots i _ h
  rw [hp] at e1
  cases e1
  obtain ⟨o, eo, mu⟩ := e2.mu
  have hl : i < sl.length := (List.getElem?_eq_some_iff.mp h).1
  have ns : ∀ (j : Nat) (d' : PyData), (sl.set i .un)[j]? = some (.own d') → σ[j]? ≠ some (some (.ref p)) := fun j d' hj g => by
    by_cases hij : i = j
    · subst hij
      rw [List.getElem?_set_self hl] at hj
      cases hj
    · rw [List.getElem?_set_ne hij] at hj
      exact R.dist i j p p d d' hij h hj hp g rfl
  have R1 : Rel K mg H0 φ0 φ (σ.set i (some (.ref p))) H (sl.set i .un) S := R.un i _
  rw [set_same hp] at R1
  have R2 := R1.write (o' := o') eo mu e4 e3 ns
  have R3 := R2.put (t := .fresh) (v := .py d') (u := .ref p) ⟨p, rfl, ow, e3, e4, ns⟩ rfl i
  rw [set_same hp, List.set_set] at R3
  exact R3
theorem Rel.boxSet (R : Rel K mg H0 φ0 φ σ H sl S) {k : Nat} {p : Addr} {d d' : PyData} {o' : HO} (hp : φ[k]? = some p) (h : S[k]? = some d) (ow : Own1 K (upd H p o') p d') : Rel K mg H0 φ0 φ σ (upd H p o') sl (S.set k d') := by
  obtain ⟨o, eo, mu⟩ := (R.box k p d hp h).mu
  have z : Fz H (upd H p o') := fz_upd eo mu
  have other : ∀ a, a ≠ p → (upd H p o') a = H a := fun a h => upd_ne h
  have hm : p ∈ φ := List.mem_of_getElem? hp
  have hl : k < S.length := (List.getElem?_eq_some_iff.mp h).1
  refine ⟨R.len, fun i s h => ?_, R.dist, by rw [List.length_set]; exact R.blen, fun k' a d'' h1 h2 => ?_, R.nd, R.pre, R.new, fun a u h g => ?_⟩
  · have q := R.slots i s h
    cases s with
    | un => trivial
    | p v => obtain ⟨u, e1, e2⟩ := q; exact ⟨u, e1, e2.mono z ⟨[], by simp⟩⟩
    | own d =>
      obtain ⟨p', e1, e2, e3, e4⟩ := q
      exact ⟨p', e1, e2.mono z (other p' fun y => by subst y; exact e4 hm), e3, e4⟩
  · by_cases hk : k = k'
    · subst hk
      rw [hp] at h1
      cases h1
      rw [List.getElem?_set_self hl] at h2
      cases h2
      exact ow
    · rw [List.getElem?_set_ne hk] at h2
      refine (R.box k' a d'' h1 h2).mono z (other a fun y => hk ?_)
      subst y
      exact (List.getElem?_inj (List.getElem?_eq_some_iff.mp hp).1 R.nd).mp (hp.trans h1.symm)
  · by_cases ha : a = p
    · subst ha
      have q := R.new a hm g
      rw [h] at q
      cases q
    · rw [other a ha]
      exact R.keep a u h g
/-- a new object becomes a box -/
theorem Rel.newBox (R : Rel K mg H0 φ0 φ σ H sl S) {p : Addr} {d : PyData} (ow : Own1 K H p d) (h0 : H0 p = none) (n : p ∉ φ) (ns : ∀ (i : Nat) (d' : PyData), sl[i]? = some (.own d') → σ[i]? ≠ some (some (.ref p))) : Rel K mg H0 φ0 (φ ++ [p]) σ H sl (S ++ [d]) := by
  refine ⟨R.len, fun i s h => ?_, R.dist, by rw [List.length_append, List.length_append, R.blen]; rfl, fun k a d' h1 h2 => ?_, ?_, ?_, fun a h g => ?_, R.keep⟩
  · have q := R.slots i s h
    cases s with
    | un => trivial
    | p v => obtain ⟨u, e1, e2⟩ := q; exact ⟨u, e1, e2.mono (Fz.refl _) ⟨[p], rfl⟩⟩
    | own d =>
      obtain ⟨p', e1, e2, e3, e4⟩ := q
      refine ⟨p', e1, e2, e3, fun z => ?_⟩
      rcases List.mem_append.mp z with z | z
      · exact e4 z
      · have e : p' = p := by simpa using z
        subst e
        exact ns i d h e1
  · by_cases hk : k < φ.length
    · rw [List.getElem?_append_left hk] at h1
      rw [List.getElem?_append_left (by rw [← R.blen]; exact hk)] at h2
      exact R.box k a d' h1 h2
    · have bl := R.blen
      have hl : k < (φ ++ [p]).length := (List.getElem?_eq_some_iff.mp h1).1
      rw [List.length_append] at hl
      have e : k = φ.length := by simp only [List.length_singleton] at hl; omega
      subst e
      rw [List.getElem?_append_right (Nat.le_refl _)] at h1
      rw [List.getElem?_append_right (by omega)] at h2
      rw [Nat.sub_self] at h1
      rw [bl, Nat.sub_self] at h2
      cases h1
      cases h2
      exact ow
  · refine List.nodup_append.mpr ⟨R.nd, by simp, fun a ha b hb e => ?_⟩
    have e2 : b = p := by simpa using hb
    subst e2
    subst e
    exact n ha
  · obtain ⟨ψ, e⟩ := R.pre
    exact ⟨ψ ++ [p], by rw [e, List.append_assoc]⟩
  · rcases List.mem_append.mp h with h | h
    · exact R.new a h g
    · have e : a = p := by simpa using h
      subst e
      exact h0
end
section
variable {X : Cx} {e : Expr} {es : List Expr} {fe : FE} {g : FA} {pos p : Pos} {i j k : Nat} {x : Str}
def fSetBox (i : Nat) (f : FE) : FS := fun sl S => bindS (f sl S) sl fun t v S1 => match t, v with
  | .fresh, .py d => some (.nx (sl.set i (.p (.box S1.length))) (S1 ++ [d]))
  | _, _ => none
/-- name = e, e's new object is a box from now on -/
theorem denS_setBox {pos' : Pos} (c : Ct X k) (hi : X.N[i]? = some x) (hx : Loc X.env.scope x) (hxf : X.fn x = true ∨ X.env.scope.names.lookup x = some .local) (he : Den X e fe) (hs : swapsWith e (some (.Name x pos')) pos.line X.env = pure false) :
    DenS1 X (.Assign [.Name x pos'] e pos) (fSetBox i fe) := by
  refine .mk ?_; intro H0 φ0 φ σ H sl S r R hf D W tk post
  refine wS1.of (ps_set c.nd hi hx wE.pe hs hxf) (den_thenS he R tk hf post fun t v S1 u H1 φ1 hk R1 l1 rv fr => ?_)
  split at hk
  · rename_i d
    cases hk
    obtain ⟨p, rfl, ow, h0, n, ns⟩ := rv
    have R2 := R1.newBox ow h0 n ns
    refine post _ H1 (φ1 ++ [p]) (R2.put (t := .pure) (v := .box S1.length) (u := .ref p) ⟨p, ?_, rfl⟩ rfl i) l1.fz
    rw [← R1.blen, List.getElem?_append_right (Nat.le_refl _), Nat.sub_self]
    rfl
  · cases hk
def fBoxSet (i j : Nat) (f : FE) : FS := fun sl S => bindS (f sl S) sl fun t v S1 => match t, v, sl[i]? with
  | .pure, .py y, some (.p (.box k)) => match S1[k]? with
    | some (.list ds) => if j < ds.length then some (.nx sl (S1.set k (.list (ds.set j y)))) else none
    | _ => none
  | _, _, _ => none
/-- name[j] = e, the name's object a box -/
theorem denS_boxSet {c2 : Nat} {p1 p2 p3 : Pos} (hN : X.N[i]? = some x) (hv : Vis X.env.scope x) (hd : (x == ("__debug__" : Str)) = false) (hcd : (x == ("__classdict__" : Str)) = false) (he : Den X e fe)
    (ha : ∀ v, assign (.Subscript (.Name x p1) (.Constant (.int (j : Nat)) c2 p2) p3) X.env v = (do
      let ov ← holding [v] (eval (.Name x p1) X.env)
      let iv ← holding [v, ov] (eval (.Constant (.int (j : Nat)) c2 p2) X.env)
      standAt p3
      holding [v, ov, iv] (setItem ov iv v)
      release [v, ov, iv] []))
    (hs : swapsWithSole [.Subscript (.Name x p1) (.Constant (.int (j : Nat)) c2 p2) p3] e pos.line X.env = pure false) (hw : swappedStores [.Subscript (.Name x p1) (.Constant (.int (j : Nat)) c2 p2) p3] e X.env = pure none)
    (h1 : (assignEach [.Subscript (.Name x p1) (.Constant (.int (j : Nat)) c2 p2) p3] X.env).map (·.2) = [assign (.Subscript (.Name x p1) (.Constant (.int (j : Nat)) c2 p2) p3) X.env]) :
    DenS1 X (.Assign [.Subscript (.Name x p1) (.Constant (.int (j : Nat)) c2 p2) p3] e pos) (fBoxSet i j fe) := by
  refine .mk ?_; intro H0 φ0 φ σ H sl S r R hf D W tk post
  refine wS1.of (ps_asg wE.pe (pg_sub wE.pe wE.pe set_list ha) hs hw h1) (den_thenS he R tk hf post fun t v S1 u H1 φ1 hk R1 l1 rv fr => ?_)
  split at hk
  · rename_i y k e1
    split at hk
    · rename_i ds e2
      split at hk
      · rename_i hj
        cases hk
        refine wE.of (pe_var hN hv hd hcd) ?_
        obtain ⟨uo, eo, a, ea, rfl⟩ := R1.slots i _ e1
        refine ⟨.ref a, eo, wE.of pe_int ?_⟩
        obtain ⟨vs, hvs, rs⟩ := R1.box k a _ ea e2
        refine ⟨a, vs, (j : Int), j, rfl, rfl, hvs, ?_, ?_⟩
        · unfold ixN
          have := rs.len
          rw [if_pos (by omega), if_pos (by omega)]
          simp
        · have z : Fz H1 (upd H1 a (.lst (vs.set j u))) := fz_upd hvs rfl
          refine post σ _ φ1 (R1.boxSet ea e2 ⟨_, upd_same, (rs.mono z).set j (Rp.mono z y rv)⟩) (l1.fz.trans z)
      · cases hk
    · cases hk
  · cases hk
def fApp (i : Nat) (g : FA) : FS := fun sl S => match g sl S with
  | some (.vals [(.pure, .py y)] S1) => match sl[i]? with
    | some (.own (.list ds)) => if ds.length < LIM then some (.nx (sl.set i (.own (.list (ds ++ [y])))) S1) else none
    | _ => none
  | _ => none
theorem mt_app : MtR X "list.append" rAppend := mt_append
/-- name.append(e), the name's object its own -/
theorem denS_append {p1 apos cpos : Pos} (hN : X.N[i]? = some x) (hv : Vis X.env.scope x) (hd : (x == ("__debug__" : Str)) = false) (hcd : (x == ("__classdict__" : Str)) = false) (ha : DenA X [e] g)
    (hbase : attributeBase (.Name x p1) "append" X.env (eval (.Name x p1) X.env) = eval (.Name x p1) X.env)
    (hfew : ((backTo cpos (starEach [e] X.env)).all (fun x => !x.1) && (backToKw cpos (keywordEach [] X.env)).all (fun x => x.1.isSome)
      && decide (([e] : List Expr).length + ([] : List Keyword).length + (if ([] : List Keyword).isEmpty then 0 else 1) < 30)) = true)
    (hline : (apos.endLine == cpos.line) = true) (hst : starEach [e] X.env = (false, eval e X.env) :: starEach [] X.env) (hplain : (backTo cpos (starEach [] X.env)).any (·.1) = false)
    (hs : swapsWith (.Call (.Attribute (.Name x p1) "append" apos) [e] [] cpos) none pos.line X.env = pure false) :
    DenS1 X (.Expr (.Call (.Attribute (.Name x p1) "append" apos) [e] [] cpos) pos) (fApp i g) := by
  refine .mk ?_; intro H0 φ0 φ σ H sl S r R hf D W tk post
  refine wS1.of (ps_expr (pe_bm PySem.F.plainAttrs_list PySem.F.slot_list_append PySem.F.type_list_append mt_app wE.pe wA.pa hbase hfew hline hst hplain) hs) ?_
  unfold fApp at hf
  split at hf
  · rename_i y S1 h1
    split at hf
    · rename_i ds e1
      split at hf
      · rename_i hl
        cases hf
        obtain ⟨q, eq, ow, _, nb⟩ := R.slots i _ e1
        refine wE.of (pe_var hN hv hd hcd) ⟨.ref q, eq, ?_⟩
        obtain ⟨vs0, hvs0, _⟩ := ow
        refine ⟨.inl ⟨rfl, vs0, .inl (.inl hvs0)⟩, ?_⟩
        refine ha H0 φ0 φ σ H sl S _ R h1 _ W tk fun us H1 φ1 R1 l1 rvs => ?_
        obtain ⟨u, t, rfl, rv, rfl⟩ := rvs
        obtain ⟨q', eq', ow1, _, nb1⟩ := R1.slots i _ e1
        rw [eq] at eq'
        cases eq'
        obtain ⟨vs, hvs, rs⟩ := ow1
        refine ⟨q, vs, u, rfl, rfl, hvs, Nat.lt_of_lt_of_le (by rw [rs.len]; exact hl) (lim_line (Nat.le_refl _)), ?_⟩
        have z : Fz H1 (upd H1 q (.lst (vs ++ [u]))) := fz_upd hvs rfl
        exact post σ _ φ1 (R1.ownSet e1 eq ⟨_, upd_same, (rs.mono z).app ⟨u, [], rfl, Rp.mono z y rv, rfl⟩⟩) (l1.fz.trans z)
      · cases hf
    · cases hf
  · cases hf
end
end PP
set_option Elab.async false
set_option linter.all false
set_option maxRecDepth 100000
set_option maxHeartbeats 4000000
namespace PP
open PySem L2
/-! ## a module's written dict with text keys -/
structure TabOk (K : PySem.W.Frag) (w : World) (p : Addr) (kvs : List (Str × PyData)) : Prop where
  kd : ∃ es n, KDict K w p es n
  get : ∀ z : Str, ∃ r, PySem.W.nsIn K p z = some r ∧ ((kvs.lookup z = none ∧ r = none) ∨ ∃ d u v, kvs.lookup z = some d ∧ r = some u ∧ RelV v u ∧ ∀ H, Rp K H d v)
section
variable {X : Cx} {e f : Expr} {fe ff : FE} {pos p2 apos : Pos} {T : Str} {p : Addr} {kvs : List (Str × PyData)} {k : Nat}
def fTabIn (neg : Bool) (kvs : List (Str × PyData)) (f : FE) : FE := fun sl S => bindE (f sl S) fun _ v S1 => match v with
  | .py (.str z) => some (.val .pure (.py (.bool (neg ^^ (kvs.lookup z).isSome))) S1)
  | _ => none
theorem RV.str {K : PySem.W.Frag} {mg : Str → Option Value} {H0 H : Hp} {φ : List Addr} {σ : L2.St} {sl : Sl} {t : Tg} {z : Str} {u : V} (r : RV K mg H0 H φ σ sl t (.py (.str z)) u) : u = .str z := by
  cases t with
  | pure => exact r
  | fresh => obtain ⟨_, _, o, _⟩ := r; exact o.elim
  | mine => obtain ⟨_, _, o, _⟩ := r; exact o.elim
theorem tabIn_go (hg : Gl X T) (hm : X.mg T = some (.ref p)) (tb : TabOk X.K X.w p kvs) (he : Den X e fe) (hdb : (T == ("__debug__" : Str)) = false) {neg : Bool} {g : Value → Value → Sem Value}
    (hop : ∀ es n, KDict X.K X.w p es n → OpR X g (fun x y H Q => ∃ (z : Str) (r : Option Value), x = .str z ∧ y = .ref p ∧ PySem.W.nsIn X.K p z = some r ∧ Q (.bl (neg ^^ r.isSome)) H))
    {H0 : Hp} {φ0 φ : List Addr} {σ : L2.St} {H : Hp} {sl : Sl} {S : SS} {r : ER} {Q : VK} {W : WX} (R : Rel X.K X.mg H0 φ0 φ σ H sl S) (tk : Takes X W) (hf : fTabIn neg kvs fe sl S = some r) (post : Post X H0 φ0 φ σ H sl Q W r) :
    tOp (OpRun X g) (wE X e) (wE X (.Name T p2)) σ H Q := by
  refine den_then he R tk hf post fun t v S1 u H1 φ1 hk R1 l1 rv post1 => ?_
  split at hk
  · rename_i z
    cases hk
    obtain rfl := rv.str
    refine wE.of (pe_glob (v := .ref p) hg hm rfl hdb) ?_
    obtain ⟨es, n, kd⟩ := tb.kd
    obtain ⟨r, hn, h⟩ := tb.get z
    refine OpRun.of (hop es n kd) ⟨z, r, rfl, rfl, hn, ?_⟩
    have e1 : r.isSome = (kvs.lookup z).isSome := by
      rcases h with ⟨a, b⟩ | ⟨d, u, v, a, b, _⟩
      · rw [a, b] <;> rfl
      · rw [a, b] <;> rfl
    rw [e1]
    exact post1 _ H1 φ1 R1 (Le.refl _ _) rfl (fun z => nomatch z)
  · cases hk
theorem op_inT {es : Array DictEntry} {n : Nat} (D : KDict X.K X.w p es n) : OpR X (compareOp .In) (fun x y H Q => ∃ (z : Str) (r : Option Value), x = .str z ∧ y = .ref p ∧ PySem.W.nsIn X.K p z = some r ∧ Q (.bl (false ^^ r.isSome)) H) := fun pins s σ H x y v u Q I rx ry ⟨z, r, e1, e2, e3, q⟩ =>
  op_in_kd D pins s σ H x y v u Q I rx ry ⟨z, r, e1, e2, e3, by simpa using q⟩
theorem op_notInT {es : Array DictEntry} {n : Nat} (D : KDict X.K X.w p es n) : OpR X (compareOp .NotIn) (fun x y H Q => ∃ (z : Str) (r : Option Value), x = .str z ∧ y = .ref p ∧ PySem.W.nsIn X.K p z = some r ∧ Q (.bl (true ^^ r.isSome)) H) := fun pins s σ H x y v u Q I rx ry ⟨z, r, e1, e2, e3, q⟩ =>
  op_notIn_kd D pins s σ H x y v u Q I rx ry ⟨z, r, e1, e2, e3, by simpa using q⟩
theorem den_tabIn (hg : Gl X T) (hm : X.mg T = some (.ref p)) (tb : TabOk X.K X.w p kvs) (he : Den X e fe) (hdb : (T == ("__debug__" : Str)) = false) (hmk : behindInMarks .In (.Name T p2) = false) : Den X (.Compare e [.In] [.Name T p2] pos) (fTabIn false kvs fe) :=
  .mk fun H0 φ0 φ σ H sl S r R hf Q W tk post => wE.of (pe_cmpR OpRun.op wE.pe wE.pe hmk) (tabIn_go hg hm tb he hdb (fun es n kd => op_inT kd) R tk hf post)
theorem denT_tabIn (hg : Gl X T) (hm : X.mg T = some (.ref p)) (tb : TabOk X.K X.w p kvs) (he : Den X e fe) (hdb : (T == ("__debug__" : Str)) = false) (hmk : behindInMarks .In (.Name T p2) = false) : DenT X (.Compare e [.In] [.Name T p2] pos) (fTb (fTabIn false kvs fe)) :=
  .mk fun H0 φ0 φ σ H sl S r R hf Q W tk post => by
    obtain ⟨r', h1, p⟩ := post_bool hf post
    exact wT.of (pt_cmpR OpRun.op wE.pe wE.pe hmk) (tabIn_go hg hm tb he hdb (fun es n kd => op_inT kd) R tk h1 p)
def fTabIx (kvs : List (Str × PyData)) (f : FE) : FE := fun sl S => bindE (f sl S) fun _ v S1 => match v with
  | .py (.str z) => match kvs.lookup z with
    | some d => some (.val .pure (.py d) S1)
    | none => none
  | _ => none
theorem den_tabIx (hg : Gl X T) (hm : X.mg T = some (.ref p)) (tb : TabOk X.K X.w p kvs) (he : Den X e fe) (hdb : (T == ("__debug__" : Str)) = false) (hs : PlainIx e) : Den X (.Subscript (.Name T p2) e pos) (fTabIx kvs fe) := by
  refine .mk ?_; intro H0 φ0 φ σ H sl S r R hf Q W tk post
  refine wE.of (pe_ix IxRun.op wE.pe wE.pe hs) ?_
  refine wE.of (pe_glob (v := .ref p) hg hm rfl hdb) ?_
  refine den_then he R tk hf post fun t v S1 u H1 φ1 hk R1 l1 rv post1 => ?_
  split at hk
  · rename_i z
    split at hk
    · rename_i d hd
      cases hk
      obtain rfl := rv.str
      obtain ⟨es, n, kd⟩ := tb.kd
      obtain ⟨r, hn, h⟩ := tb.get z
      rcases h with ⟨a, b⟩ | ⟨d', u, v, a, b, rv', rp⟩
      · rw [a] at hd; cases hd
      · rw [a] at hd
        cases hd
        subst b
        exact IxRun.of ix_kdict ⟨p, z, v, rfl, rfl, ⟨es, n, u, kd.at_, kd.lit, hn, rv'⟩, post1 v H1 φ1 R1 (Le.refl _ _) (rp H1) (fun z => nomatch z)⟩
    · cases hk
  · cases hk
/-- T.get(e, f) -/
def fTabGet (kvs : List (Str × PyData)) (f g : FE) : FE := fun sl S => bindE (f sl S) fun _ v S1 => match v with
  | .py (.str z) => bindE (g sl S1) fun t2 v2 S2 => match t2 with
    | .pure => match kvs.lookup z with
      | some d => some (.val .pure (.py d) S2)
      | none => some (.val .pure v2 S2)
    | _ => none
  | _ => none
theorem den_tabGet (hg : Gl X T) (hm : X.mg T = some (.ref p)) (tb : TabOk X.K X.w p kvs) (he : Den X e fe) (hff : Den X f ff) (hdb : (T == ("__debug__" : Str)) = false) (m : M2 X (.Name T p2) "get" apos e f pos) :
    Den X (.Call (.Attribute (.Name T p2) "get" apos) [e, f] [] pos) (fTabGet kvs fe ff) := by
  refine .mk ?_; intro H0 φ0 φ σ H sl S r R hf Q W tk post pins s I
  obtain ⟨es, n, kd⟩ := tb.kd
  refine wpAny_Call_method m.base m.few m.line PySem.F.plainAttrs_dict PySem.F.slot_dict_get PySem.F.type_dict_get (ld_glob I hg hm ?_ hdb)
  refine ⟨kd_type kd I, fun a q => ?_, ?_⟩
  · cases q
    exact ⟨_, I.kIn _ _ kd.at_, rfl⟩
  rw [m.trees]
  refine Calls.callWith_builtin rfl (Calls.evalArgs_plain (Calls.spliced_cons ?_))
  refine thn (den_then (Q' := fun x H1 => ∃ z, x = .str z ∧ wE X f σ H1 fun y H2 => ∃ r, PySem.W.nsIn X.K p z = some r ∧ (∀ u, r = some u → ∃ v, RelV v u ∧ Q v H2) ∧ (r = none → Q y H2)) he R tk hf post (fun t v S1 u H1 φ1 hk R1 l1 rv post1 => ?_) pins s I) ?_
  · split at hk
    · rename_i z
      obtain rfl := rv.str
      refine ⟨z, rfl, den_then hff R1 tk hk post1 fun t2 v2 S2 u2 H2 φ2 hk2 R2 l2 rv2 post2 => ?_⟩
      obtain ⟨r, hn, h⟩ := tb.get z
      split at hk2
      · refine ⟨r, hn, fun u e => ?_, fun e => ?_⟩
        · rcases h with ⟨a, b⟩ | ⟨d', u', v, a, b, rv', rp⟩
          · rw [b] at e; cases e
          · rw [a] at hk2
            cases hk2
            rw [b] at e
            cases e
            exact ⟨v, rv', post2 v H2 φ2 R2 (Le.refl _ _) (rp H2) (fun z => nomatch z)⟩
        · rcases h with ⟨a, b⟩ | ⟨d', u', v, a, b, rv', rp⟩
          · rw [a] at hk2
            cases hk2
            exact post2 u2 H2 φ2 R2 (Le.refl _ _) rv2 (fun z => nomatch z)
          · rw [b] at e; cases e
      · cases hk2
    · cases hk
  · rintro iv s2 ⟨x, H2, I2, ry, z, rfl, h2⟩
    obtain ⟨tz, rfl⟩ := ry
    refine Calls.spliced_cons (thn (h2 pins s2 I2) fun fv s3 ⟨y, H3, I3, rz, r, hn, q1, q2⟩ => Calls.spliced_nil ?_)
    have mp := PySem.W.mapOf_K (prog := X.prog) (w := X.w) I3.kIn kd.at_ kd.lit
    refine call_meetsIn PySem.F.slot_dict_get (kd_type kd I3) PySem.F.entry_dict_get (PySem.F.args_dict_get_3 _ _ _) (meets_dict_get_default (strKind X.prog X.w) p (strKind_is X.prog X.w z tz) kd.low fv) ⟨_, mp, ?_⟩
    rw [PySem.W.find_K kd.at_ hn]
    cases r with
    | none => exact ⟨y, H3, I3.tok _, rz, q2 rfl⟩
    | some u =>
      obtain ⟨v, rv, q⟩ := q1 u rfl
      exact ⟨v, H3, I3.tok _, rv, q⟩
/-! ### whole numbers -/
def fBits (f : FE) : FE := fun sl S => bindE (f sl S) fun _ v S1 => match v with
  | .py (.int i) => some (.val .pure (.py (.int ((Builtin.Int.intBits i : Nat) : Int))) S1)
  | _ => none
theorem den_bits (he : Den X e fe) (hbase : attributeBase e "bit_length" X.env (eval e X.env) = eval e X.env) (hline : (apos.endLine == pos.line) = true) : Den X (.Call (.Attribute e "bit_length" apos) [] [] pos) (fBits fe) := by
  refine .mk ?_; intro H0 φ0 φ σ H sl S r R hf Q W tk post
  refine wE.of (pe_bits wE.pe hbase hline) (den_then he R tk hf post fun t v S1 u H1 φ1 hk R1 l1 rv post1 => ?_)
  split at hk
  · rename_i i
    cases hk
    obtain rfl := rv.int
    exact ⟨i, rfl, post1 _ H1 φ1 R1 (Le.refl _ _) rfl (fun z => nomatch z)⟩
  · cases hk
def powP : PyData → PyData → Option (Tg × PyData)
  | .int i, .int j => if 0 ≤ j ∧ j ≤ 1000 ∧ Builtin.Int.intBits i ≤ 10000 then some (.pure, .int (i ^ j.toNat)) else none
  | _, _ => none
theorem sem_pow : BinSem X (binaryOp .Pow) powP := by
  intro dx dy x y H t d Q sx sy hs q
  unfold powP at hs
  split at hs
  · rename_i i j
    split at hs
    · rename_i hc
      cases hs
      obtain rfl : x = .int i := sx
      obtain rfl : y = .int j := sy
      intro pins s σ v u I rx ry
      obtain ⟨a, rfl⟩ := rx
      obtain ⟨b, rfl⟩ := ry
      obtain ⟨c1, c2, c3⟩ := hc
      refine PyProof.Rows.pow_int c1 ?_ ⟨.int _, H, I.tok _, ⟨_, rfl⟩, q _ H (Ext.refl H) rfl⟩
      have h1 : ((Builtin.Int.intBits i : Nat) : Int) ≤ 10000 := by exact_mod_cast c3
      calc ((Builtin.Int.intBits i : Nat) : Int) * j ≤ 10000 * 1000 := Int.mul_le_mul h1 c2 c1 (by omega)
        _ ≤ 2 ^ 27 := by decide
    · cases hs
  · cases hs
def intsOf : List PyData → Option (List Int)
  | [] => some []
  | .int i :: r => match intsOf r with
    | some ns => some (i :: ns)
    | none => none
  | _ :: _ => none
theorem rps_ints {K : PySem.W.Frag} {H : Hp} : ∀ {ds : List PyData} {vs : List V} {ns : List Int}, intsOf ds = some ns → Rps K H ds vs → vs = ns.map V.int
  | [], _, _, h, e => by cases h; cases e; rfl
  | .int i :: r, _, ns, h, ⟨v, t, e, a, b⟩ => by
    unfold intsOf at h
    split at h
    · rename_i ns' h1
      cases h
      obtain rfl : v = .int i := a
      rw [e, rps_ints h1 b]
      rfl
    · cases h
  | .none :: _, _, _, h, _ => by cases h
  | .bool _ :: _, _, _, h, _ => by cases h
  | .str _ :: _, _, _, h, _ => by cases h
  | .list _ :: _, _, _, h, _ => by cases h
  | .tuple _ :: _, _, _, h, _ => by cases h
  | .dict _ :: _, _, _, h, _ => by cases h
def sumP : List PyData → Option (Tg × PyData)
  | [.list ds] => match intsOf ds with
    | some ns => some (.pure, .int ns.sum)
    | none => none
  | _ => none
theorem sem_sum (c : Ct X k) : CallSem X (.builtin "sum") sumP := by
  intro ds xs H t d Q sh hs q
  unfold sumP at hs
  split at hs
  · rename_i ys
    split at hs
    · rename_i ns h1
      cases hs
      obtain ⟨u, r, rfl, ⟨p, vs, rfl, r1, a1⟩, rfl⟩ := sh
      obtain rfl := rps_ints h1 a1
      exact CallRun.of (cr_sum c.calm) ⟨p, ns, rfl, r1, q _ H (Ext.refl H) rfl⟩
    · cases hs
  · cases hs
end
end PP
set_option Elab.async false
set_option linter.all false
set_option maxRecDepth 100000
set_option maxHeartbeats 4000000
namespace PP
open PySem L2 PySem.Spec PyProof.Rows
/-! ## calls by names, calls of a name that holds a def -/
def wK (X : Cx) (kws : List Keyword) : TA := fun σ H Q => ∀ (pos : Pos) (pins : List (Addr × Obj)) (s : Shared), Inv X pins σ H s → wpAny (model X.prog X.w) X.A (evalAll ((backToKw pos (keywordEach kws X.env)).map (·.2))) (AP X pins σ Q) X.xe s
theorem wK.pk {X : Cx} {kws : List Keyword} : PK X kws (wK X kws) := ⟨fun pos pins s σ H Q I h => h pos pins s I⟩
theorem wK.of {X : Cx} {kws : List Keyword} {t : TA} {σ : L2.St} {H : Hp} {Q : List V → Hp → Prop} (h : PK X kws t) (q : t σ H Q) : wK X kws σ H Q := fun pos pins s I => h.run pos pins s σ H Q I q
def DenK_ (X : Cx) (kws : List Keyword) (f : FA) : Prop :=
  ∀ (H0 : Hp) (φ0 φ : List Addr) (σ : L2.St) (H : Hp) (sl : Sl) (S : SS) (r : AR), Rel X.K X.mg H0 φ0 φ σ H sl S → f sl S = some r →
    ∀ (Q : List V → Hp → Prop) (W : WX), Takes X W → PostA X H0 φ0 φ σ H sl Q W r → wK X kws σ H Q
structure DenK (X : Cx) (kws : List Keyword) (f : FA) : Prop where
  run : DenK_ X kws f
instance {X : Cx} {kws : List Keyword} {f : FA} : CoeFun (DenK X kws f) (fun _ => DenK_ X kws f) := ⟨DenK.run⟩
section
variable {X : Cx} {e : Expr} {es : List Expr} {kws : List Keyword} {f : FE} {g : FA} {p pos kpos : Pos} {x : Str} {k k' n i : Nat} {F : FF} {nm : Option Str}
theorem denK_nil : DenK X [] faNil := by
  refine .mk ?_; intro H0 φ0 φ σ H sl S r R hf Q W tk post
  cases hf
  exact wK.of pk_nil (post [] H φ R (Le.refl _ _) rfl)
theorem denK_cons (h : Den X e f) (hs : DenK X kws g) : DenK X (⟨nm, e, kpos⟩ :: kws) (faCons f g) := by
  refine .mk ?_; intro H0 φ0 φ σ H sl S r R hf Q W tk post
  refine wK.of (pk_cons wE.pe wK.pk) ?_
  unfold faCons at hf
  split at hf
  · rename_i t v S1 h1
    refine h H0 φ0 φ σ H sl S _ R h1 _ W tk fun u H1 φ1 R1 l1 rv _ => ?_
    split at hf
    · rename_i xs S2 h2
      cases hf
      exact hs H0 φ0 φ1 σ H1 sl S1 _ R1 h2 _ W tk fun us H2 φ2 R2 l2 rvs => post _ H2 φ2 R2 (l1.trans l2) ⟨u, us, rfl, rv.le l2, rvs⟩
    · rename_i c d S2 h2
      cases hf
      exact hs H0 φ0 φ1 σ H1 sl S1 _ R1 h2 _ W tk (fun C dx H' φ' R' l' => post C dx H' φ' R' (l1.trans l'))
    · cases hf
  · rename_i c d S1 h1
    cases hf
    exact h H0 φ0 φ σ H sl S _ R h1 _ W tk post
  · cases hf
/-- the parameters' values out of the keywords' values -/
def pick {α : Type} (perm : List Nat) (xs : List α) : List α := perm.filterMap fun j => xs[j]?
theorem pick_cons {α : Type} {j : Nat} {perm : List Nat} {xs : List α} : pick (j :: perm) xs = match xs[j]? with
    | some x => x :: pick perm xs
    | none => pick perm xs := by
  unfold pick
  rw [List.filterMap_cons]
  cases xs[j]? <;> rfl
theorem vals_none {xs : List V} {us : List Value} (r : Vals xs us) {j : Nat} (h : xs[j]? = none) : us[j]? = none := by
  rw [List.getElem?_eq_none_iff] at h ⊢
  rw [← r.length]
  exact h
theorem Vals.pick {xs : List V} {us : List Value} (r : Vals xs us) : ∀ perm : List Nat, Vals (PP.pick perm xs) (PP.pick perm us)
  | [] => .nil
  | j :: perm => by
    rw [pick_cons, pick_cons]
    cases e : xs[j]? with
    | none =>
      rw [vals_none r e]
      exact Vals.pick r perm
    | some x =>
      obtain ⟨u, hu, ru⟩ := r.get e
      rw [hu]
      exact .cons ru (Vals.pick r perm)
theorem RVs.get {K : PySem.W.Frag} {mg : Str → Option Value} {H0 H : Hp} {φ : List Addr} {σ : L2.St} {sl : Sl} : ∀ {xs : List (Tg × Vl)} {us : List V} {j : Nat} {x : Tg × Vl}, RVs K mg H0 H φ σ sl xs us → xs[j]? = some x → ∃ u, us[j]? = some u ∧ RV K mg H0 H φ σ sl x.1 x.2 u
  | _ :: _, _, 0, _, ⟨u, r, e, a, _⟩, h => by subst e; cases h; exact ⟨u, rfl, a⟩
  | _ :: _, _, j + 1, _, ⟨u, r, e, _, b⟩, h => by subst e; exact RVs.get (j := j) b h
theorem RVs.len {K : PySem.W.Frag} {mg : Str → Option Value} {H0 H : Hp} {φ : List Addr} {σ : L2.St} {sl : Sl} : ∀ {xs : List (Tg × Vl)} {us : List V}, RVs K mg H0 H φ σ sl xs us → us.length = xs.length
  | [], _, h => by cases h; rfl
  | _ :: _, _, ⟨u, r, e, _, b⟩ => by subst e; exact congrArg (· + 1) (RVs.len b)
theorem RVs.pick {K : PySem.W.Frag} {mg : Str → Option Value} {H0 H : Hp} {φ : List Addr} {σ : L2.St} {sl : Sl} {xs : List (Tg × Vl)} {us : List V} (r : RVs K mg H0 H φ σ sl xs us) : ∀ perm : List Nat, RVs K mg H0 H φ σ sl (PP.pick perm xs) (PP.pick perm us)
  | [] => rfl
  | j :: perm => by
    rw [pick_cons, pick_cons]
    cases e : xs[j]? with
    | none =>
      have : us[j]? = none := by
        rw [List.getElem?_eq_none_iff] at e ⊢
        rw [r.len]
        exact e
      rw [this]
      exact RVs.pick r perm
    | some x =>
      obtain ⟨u, hu, ru⟩ := r.get e
      rw [hu]
      exact ⟨u, _, rfl, ru, RVs.pick r perm⟩
structure CallKOk (X : Cx) (k : Nat) (f : Str) (ks : List Str) (perm : List Nat) (n : Nat) (F : FF) : Prop where
  ex : ∃ (fa : Addr) (fd : FuncData) (ps : List Str), ps.length = n ∧ X.mg f = some (.ref fa) ∧ PySem.W.keepIn X.K (.ref fa) = true ∧
    (∀ (s : Shared) (ws : List Value), ws.length = ks.length → (pick perm ws).length = n → BindsTo s fd ⟨[], ks.zip ws⟩ (ps.zip (pick perm ws))) ∧ FnG X.prog X.w X.K X.mg X.base k fa fd ps (spF X.K X.mg F ps.length)
/-- what a call gives -/
def callRes (n : Nat) (F : FF) (xs : List (Tg × Vl)) (S1 : SS) : Option ER := match argsOf xs with
  | some as => if as.length = n then match F as S1 with
      | some (.val .pure v S2) => some (.val .pure v S2)
      | some (.val _ v S2) => some (.val .fresh v S2)
      | some (.exn c d S2) => some (.exn c d S2)
      | none => none
    else none
  | none => none
theorem spF_go {H0 : Hp} {φ0 φ1 : List Addr} {σ : L2.St} {H1 : Hp} {sl : Sl} {S1 : SS} {r : ER} {Q : VK} {W : WX} {xs : List (Tg × Vl)} {us : List V} (R1 : Rel X.K X.mg H0 φ0 φ1 σ H1 sl S1) (rvs : RVs X.K X.mg H0 H1 φ1 σ sl xs us)
    (hf : callRes n F xs S1 = some r) (post1 : Post X H0 φ0 φ1 σ H1 sl Q W r) : spF X.K X.mg F n us H1 Q fun cl d H' => W cl d σ H' := by
  unfold callRes at hf
  split at hf
  · rename_i as h2
    split at hf
    · rename_i hn
      have fin : ∀ {H' φ' S'}, Le φ1 H1 φ' H' → BoxOk X.K φ' H' S' → Rel X.K X.mg H0 φ0 φ' σ H' sl S' := fun {H' φ' S'} l b => R1.le l b.blen b.nd b.box
      have ra := rvs.args h2
      split at hf
      · rename_i v S2 h3
        cases hf
        exact ⟨φ1, S1, as, _, hn, ra, R1.boxOk, h3, fun u H' φ' l b rp => post1 u H' φ' (fin l b) l rp (fun z => nomatch z)⟩
      · rename_i t v S2 hne h3
        cases hf
        refine ⟨φ1, S1, as, _, hn, ra, R1.boxOk, h3, fun u H' φ' l b rp => ?_⟩
        obtain ⟨d, p, rfl, hv, o, n, nb⟩ : ∃ d p, u = .ref p ∧ v = .py d ∧ Own1 X.K H' p d ∧ H1 p = none ∧ p ∉ φ' := by
          cases t with
          | pure => exact (hne rfl).elim
          | fresh =>
            cases v with
            | py d => obtain ⟨p, e, o, n, nb⟩ := rp; exact ⟨d, p, e, rfl, o, n, nb⟩
            | _ => exact rp.elim
          | mine =>
            cases v with
            | py d => obtain ⟨p, e, o, n, nb⟩ := rp; exact ⟨d, p, e, rfl, o, n, nb⟩
            | _ => exact rp.elim
        subst hv
        exact post1 _ H' φ' (fin l b) l ⟨p, rfl, o, R1.fresh0 n, nb, own_ref R1 n⟩ (fun _ q e => by cases e; exact n)
      · rename_i c' d S2 h3
        cases hf
        exact ⟨φ1, S1, as, _, hn, ra, R1.boxOk, h3, fun C dx H' φ' l b ex => post1 C dx H' φ' (fin l b) l ex⟩
      · cases hf
    · cases hf
  · cases hf
def fCallK (perm : List Nat) (m n : Nat) (F : FF) (g : FA) : FE := fun sl S => match g sl S with
  | some (.vals xs S1) => if xs.length = m then callRes n F (pick perm xs) S1 else none
  | some (.exn c d S1) => some (.exn c d S1)
  | none => none
/-- the callee runs, bound in any way -/
theorem run_gb {fa : Addr} {fd : FuncData} {ps : List Str} {sp : Sp} {W : WX} {pins : List (Addr × Obj)} {σ : L2.St} {H : Hp} {s : Shared} {Q : VK} {us0 us : List Value} {kw : List (Str × Value)} {vs : List V} (G : FnG X.prog X.w X.K X.mg X.base k fa fd ps sp) (c : Ct X k') (hk : k ≤ k')
    (hb : us.length = ps.length → BindsTo s fd ⟨us0, kw⟩ (ps.zip us)) (tk : Takes X W)
    (I : Inv X pins σ H s) (r : Vals vs us) (h : sp vs H Q fun cl d H' => W cl d σ H') : wpAny (model X.prog X.w) X.A (call (.ref fa) us0 kw) (EP X pins σ Q) X.xe s := by
  have hl : us.length = ps.length := by rw [← r.length]; exact G.len _ _ _ _ h
  refine wpAny_call (codeAny_mono (G.run X.A X.stack s H ⟨us0, kw⟩ us vs Q _ (c.room.mono hk) c.gd I.env0 (hb hl) r h) fun r s' hq => ?_)
  match r, hq with
  | .error er, hq => exact tk er s' (XE.of_call I (fun _ _ _ z => z) hq)
  | .ok (.ret u), hq => exact I.after hq
/-- f(a = .., b = ..) -/
theorem den_callK {ks : List Str} {perm : List Nat} (C : CallKOk X k x ks perm n F) (c : Ct X k') (hk : k ≤ k') (hg : Gl X x) (h : DenK X kws g) (hdb : (x == ("__debug__" : Str)) = false)
    (hall : (backToKw pos (keywordEach kws X.env)).all (·.1.isSome) = true) (hks : (backToKw pos (keywordEach kws X.env)).filterMap (·.1) = ks)
    (hpl : ((backTo pos (starEach [] X.env)).any (·.1) || (backToKw pos (keywordEach kws X.env)).any (·.1.isNone)) = false) : Den X (.Call (.Name x p) [] kws pos) (fCallK perm ks.length n F g) := by
  refine .mk ?_; intro H0 φ0 φ σ H sl S r R hf Q W tk post pins s I
  obtain ⟨fa, fd, ps, hn, hm, kp, hb, G⟩ := C.ex
  subst hn
  refine wpAny_Call_Name_kw (ld_glob I hg hm ?_ hdb)
  have go : wK X kws σ H fun vs H1 => vs.length = ks.length ∧ spF X.K X.mg F ps.length (pick perm vs) H1 Q fun cl d H' => W cl d σ H' := by
    unfold fCallK at hf
    split at hf
    · rename_i xs S1 h1
      split at hf
      · rename_i hl
        refine h H0 φ0 φ σ H sl S _ R h1 _ W tk fun us H1 φ1 R1 l1 rvs => ⟨rvs.len.trans hl, spF_go R1 (rvs.pick perm) hf (Post.le l1 R1 post)⟩
      · cases hf
    · rename_i c' d S1 h1
      cases hf
      exact h H0 φ0 φ σ H sl S _ R h1 _ W tk post
    · cases hf
  refine PySem.W.callWith_KW0 (h₀ := X.base) I.ok.mod.kin kp hall (thn (go pos pins s I) fun ws s2 ⟨zs, H2, I2, rz, hl, q2⟩ => ⟨I2.kIn, ?_⟩) hpl
  rw [hks]
  exact run_gb G c hk (fun e => hb s2 ws (by rw [← rz.length]; exact hl) e) tk I2 (Vals.pick rz perm) q2
/-- v(e, ..), v a name of ours that holds a def -/
def fCallL (i : Nat) (fs : List (Str × Nat × FF)) (g : FA) : FE := fun sl S => match sl[i]? with
  | some (.p (.fn f)) => match fs.lookup f with
    | some (n, F) => match g sl S with
      | some (.vals xs S1) => callRes n F xs S1
      | some (.exn c d S1) => some (.exn c d S1)
      | none => none
    | none => none
  | _ => none
theorem den_callL {fs : List (Str × Nat × FF)} (hi : X.N[i]? = some x) (hv : Vis X.env.scope x) (C : ∀ f n F, fs.lookup f = some (n, F) → CallOk X k f n F) (c : Ct X k') (hk : k ≤ k') (h : DenA X (e :: es) g) (hdb : (x == ("__debug__" : Str)) = false) (hcd : (x == ("__classdict__" : Str)) = false)
    (he : starEach (e :: es) X.env = (false, eval e X.env) :: starEach es X.env) (hpl : (backTo pos (starEach es X.env)).any (·.1) = false) : Den X (.Call (.Name x p) (e :: es) [] pos) (fCallL i fs g) := by
  refine .mk ?_; intro H0 φ0 φ σ H sl S r R hf Q W tk post pins s I
  unfold fCallL at hf
  split at hf
  · rename_i f ef
    split at hf
    · rename_i n F el
      obtain ⟨fa, fd, ps, hn, hm, kp, hb, G⟩ := (C f n F el).ex
      subst hn
      obtain ⟨u, eu, a, rfl, hm'⟩ := R.slots i _ ef
      rw [hm] at hm'
      cases hm'
      refine wpAny_Call_Name_kw (thn ((pe_var (pos := p) hi hv hdb hcd).run pins s σ H (fun v H1 => v = .ref fa ∧ H1 = H) I ⟨_, eu, rfl, rfl⟩) fun u s1 ⟨v, H1, I1, rv, e1, e2⟩ => ?_)
      subst e1 e2
      obtain rfl : u = Value.ref fa := rv
      have go : wA X (e :: es) σ H1 fun vs H2 => spF X.K X.mg F ps.length vs H2 Q fun cl d H' => W cl d σ H' := by
        split at hf
        · rename_i xs S1 h1
          exact h H0 φ0 φ σ H1 sl S _ R h1 _ W tk fun us H2 φ2 R2 l2 rvs => spF_go R2 rvs hf (Post.le l2 R2 post)
        · rename_i c' d S1 h1
          cases hf
          exact h H0 φ0 φ σ H1 sl S _ R h1 _ W tk post
        · cases hf
      refine PySem.W.callWith_K (h₀ := X.base) I1.ok.mod.kin kp (thn (go pos pins s1 I1) fun us s2 ⟨vs, H2, I2, rv, q⟩ => ?_) he hpl
      exact ⟨I2.kIn, run_g G c hk hb tk I2 rv q⟩
    · cases hf
  · cases hf
end
end PP
set_option Elab.async false
set_option linter.all false
set_option maxRecDepth 100000
set_option maxHeartbeats 4000000
namespace PP
open PySem L2 PySem.Spec PyProof.Rows
/-! ## a def by its body; the law's call -/
/-- what a body does, as a def -/
def funF (nN n : Nat) (f : FS) : FF := fun as S => if as.length = n then
    match f (as.map Slot.p ++ List.replicate (nN - n) .un) S with
    | some (.rt t v S') => some (.val t v S')
    | some (.nx _ S') => some (.val .pure (.py .none) S')
    | some (.exn c d _ S') => some (.exn c d S')
    | _ => none
  else none
theorem start_rel {K : PySem.W.Frag} {mg : Str → Option Value} {H : Hp} {φ : List Addr} {S : SS} {N : List Str} {as : List Vl} {vs : List V} (ra : RpVs K mg H φ as vs) (b : BoxOk K φ H S) (hl : as.length ≤ N.length) :
    Rel K mg H φ φ (L2.start N vs) H (as.map Slot.p ++ List.replicate (N.length - as.length) .un) S := by
  have lv := ra.len
  have nown : ∀ (j : Nat) (d : PyData), (as.map Slot.p ++ List.replicate (N.length - as.length) Slot.un)[j]? ≠ some (.own d) := fun j d h => by
    by_cases hj : j < as.length
    · rw [List.getElem?_append_left (by simpa using hj), List.getElem?_map] at h
      cases e : as[j]? with
      | none => rw [e] at h; cases h
      | some a => rw [e] at h; cases h
    · rw [List.getElem?_append_right (by simpa using Nat.le_of_not_lt hj), List.getElem?_replicate] at h
      split at h <;> cases h
  refine ⟨by simp [L2.start, lv], fun i s h => ?_, fun i j p q d d' _ h1 => absurd h1 (nown i d), b.blen, b.box, b.nd, ⟨[], by simp⟩, fun a h n => absurd h n, fun a o h _ => h⟩
  by_cases hi : i < as.length
  · rw [List.getElem?_append_left (by simpa using hi), List.getElem?_map] at h
    cases e : as[i]? with
    | none => rw [e] at h; cases h
    | some a =>
      rw [e] at h
      cases h
      obtain ⟨u, hu, ru⟩ := ra.get e
      refine ⟨u, ?_, ru⟩
      unfold L2.start
      rw [List.getElem?_append_left (by simpa [lv] using hi), List.getElem?_map, hu]
      rfl
  · rw [List.getElem?_append_right (by simpa using Nat.le_of_not_lt hi), List.getElem?_replicate] at h
    split at h
    · cases h
      trivial
    · cases h
theorem start_le {K : PySem.W.Frag} {mg : Str → Option Value} {H H' : Hp} {φ φ' : List Addr} {σ : L2.St} {sl : Sl} {S S' : SS} (b : BoxOk K φ H S) (R : Rel K mg H φ φ' σ H' sl S') : Le φ H φ' H' := by
  refine ⟨R.keep, R.pre, R.new, fun a o h m => R.keep a o h fun z => ?_⟩
  obtain ⟨k, hk⟩ := List.getElem?_of_mem z
  have hl : k < S.length := by rw [← b.blen]; exact (List.getElem?_eq_some_iff.mp hk).1
  obtain ⟨o', e, mu⟩ := (b.box k a S[k] hk (List.getElem?_eq_getElem hl)).mu
  rw [h] at e
  cases e
  rw [m] at mu
  cases mu
section
variable {P : Program} {w : World} {K : PySem.W.Frag} {mg : Str → Option Value} {base : Heap} {k : Nat} {f : Addr} {name qual : Str} {params : Arguments} {body : List Stmt} {scope : Scope} {dV kV doc pm cdv ct oc : Value} {an od : Option Addr}
    {osl : Array (Option Value)} {N ps : List Str}
/-- where a def's body runs -/
abbrev BX (P : Program) (w : World) (K : PySem.W.Frag) (mg : Str → Option Value) (base : Heap) (N : List Str) (qual : Str) (scope : Scope) (f : Addr) (cdv : Value) (A : Around) (outer : List Env) (s : Shared) (H : Hp) (E : XK) : Cx := cxOf (L2.CX P w) P w K mg base N qual scope f cdv A outer s H E
theorem bx_ct {A : Around} {outer : List Env} {s : Shared} {H : Hp} {E : XK} (hr : Room (k + 1) A) (hg : A.guards = some []) (nd : N.Nodup) : Ct (BX P w K mg base N qual scope f cdv A outer s H E) k :=
  ⟨hr.deeper _, by first | exact hg | (simpa [cxOf, Around.deeper] using hg), rfl, nd⟩
theorem bx_po {A : Around} {outer : List Env} {s : Shared} {H : Hp} {E : XK} : PassesOwn (model (BX P w K mg base N qual scope f cdv A outer s H E).prog (BX P w K mg base N qual scope f cdv A outer s H E).w) (BX P w K mg base N qual scope f cdv A outer s H E).A (BX P w K mg base N qual scope f cdv A outer s H E).env (BX P w K mg base N qual scope f cdv A outer s H E).xe :=
  passes_of rfl
/-- THE RULE: a def, by its body -/
theorem fnG_of {fb : FS} (lk : K.lookup f = some ⟨oc, od, .func (PySem.W.fnOf name qual params body scope dV kV doc pm an cdv ct), osl⟩) (hcd : PySem.W.codeIn K cdv qual = true) (S : FnScope N ps scope)
    (hbody : ∀ (A : Around) (outer : List Env) (s : Shared) (H : Hp) (E : XK), Room (k + 1) A → A.guards = some [] → DenS (BX P w K mg base N qual scope f cdv A outer s H E) body fb) :
    FnG P w K mg base (k + 1) f (PySem.W.fnOf name qual params body scope dV kV doc pm an cdv ct) ps (spF K mg (funF N.length ps.length fb) ps.length) := by
  have hpl : ps.length ≤ N.length := by have := congrArg List.length S.pre; rw [List.length_take] at this; omega
  have len : ∀ vs H Q E, spF K mg (funF N.length ps.length fb) ps.length vs H Q E → vs.length = ps.length := fun vs H Q E ⟨φ, S, as, r, h1, h2, _⟩ => h2.len.trans h1
  refine ⟨len, fun A outer s H args us vs Q E hr hgd e0 hb r hsp => ?_⟩
  have hl := len _ _ _ _ hsp
  have KX : K.In s.heap := e0.mod.kin.keeps fun b o e => (e0.bs b o e).1
  have lim : s.heap.NoLimit := e0.mod.nolimit.keeps fun b o e => (e0.bs b o e).1
  have hkind : ∀ y ∈ ps.zip us, scope.names.lookup y.1 = some .local ∨ (scope.names.lookup y.1 = some .cell ∧ ((cellsFrom (s.heap.objs.size + 1) scope.names []).lookup y.1).isSome = true) := fun ⟨n, v⟩ hy => by
    rcases S.par n (List.of_mem_zip hy).1 with q | q
    · exact .inl q
    · exact .inr ⟨q, PySem.W.cellsFrom_some _ _ _ (.inl q)⟩
  refine codeAny_call_function hr.depth (KX _ _ lk) rfl S.co S.gen rfl (PySem.W.codeRec_of KX hcd) (hb _ _ _ _ ?_)
  refine wpAny_newFunctionEnv_cells S.kind hkind fun env he s1 x => ?_
  subst he
  refine ⟨lim.keeps x.toInCall.keep, codeAny_func ?_⟩
  have I : Inv (BX P w K mg base N qual scope f cdv A outer s H E) [] (L2.start N vs) H s1 := inv_start S hr.hd e0 hl r x
  obtain ⟨φ, S0, as, rr, h1, ra, bx, hF, post⟩ := hsp
  have R0 : Rel K mg H φ φ (L2.start N vs) H (as.map Slot.p ++ List.replicate (N.length - ps.length) .un) S0 := by
    have := start_rel (N := N) ra bx (by rw [h1]; exact hpl)
    rw [h1] at this
    exact this
  have tk : Takes (BX P w K mg base N qual scope f cdv A outer s H E) (fun cls d _ H => E cls d H) := takes_of rfl rfl rfl rfl
  unfold funF at hF
  rw [if_pos h1] at hF
  have go : wSs (BX P w K mg base N qual scope f cdv A outer s H E) body { nx := fun _ H' => Q .non H', rt := Q } (L2.start N vs) H := by
    split at hF
    · rename_i t v S' e
      cases hF
      exact hbody A outer s H E hr hgd H φ φ (L2.start N vs) H _ S0 _ R0 e _ _ tk fun u σ' H' φ' sl' R' z rf => post u H' φ' (start_le bx R') R'.boxOk rf
    · rename_i sl' S' e
      cases hF
      exact hbody A outer s H E hr hgd H φ φ (L2.start N vs) H _ S0 _ R0 e _ _ tk fun σ' H' φ' R' z => post .non H' φ' (start_le bx R') R'.boxOk rfl
    · rename_i c d sl' S' e
      cases hF
      exact hbody A outer s H E hr hgd H φ φ (L2.start N vs) H _ S0 _ R0 e _ _ tk fun C dx σ' H' φ' R' z ex => post C dx H' φ' (start_le bx R') R'.boxOk ex
    · cases hF
  refine wpAny_mono (go [] s1 I) (fun fl s' hs => ?_) fun e s' hs => hs
  have fin : ∀ {σ' : L2.St} {H' : Hp} {v : V} {u : Value}, Inv (BX P w K mg base N qual scope f cdv A outer s H E) [] σ' H' s' → RelV v u → Q v H' → CE outer P w H s Q u s' :=
    fun {σ' H' v u} J rv q => ⟨v, H', J.os, J.bare, J.base, J.hok, rv, q⟩
  cases fl with
  | ret u =>
    obtain ⟨v, σ', H', J, rv, q⟩ := hs
    exact fin J rv q
  | next =>
    obtain ⟨σ', H', J, q⟩ := hs
    exact fin (v := V.non) (u := Value.none) J rfl q
  | brk =>
    obtain ⟨_, _, _, q⟩ := hs
    exact False.elim q
  | cont =>
    obtain ⟨_, _, _, q⟩ := hs
    exact False.elim q
end
/-- as it is bound by position -/
theorem spF_imp {K : PySem.W.Frag} {mg : Str → Option Value} {F F' : FF} {n : Nat} {vs : List V} {H : Hp} {Q : VK} {E : XK} (h : ∀ as S r, F as S = some r → F' as S = some r) : spF K mg F n vs H Q E → spF K mg F' n vs H Q E := fun ⟨φ, S, as, r, h1, h2, h3, h4, h5⟩ => ⟨φ, S, as, r, h1, h2, h3, h _ _ _ h4, h5⟩
theorem FnG.imp {P : Program} {w : World} {K : PySem.W.Frag} {mg : Str → Option Value} {base : Heap} {k : Nat} {f : Addr} {fd : FuncData} {ps : List Str} {sp sp' : Sp} (G : FnG P w K mg base k f fd ps sp) (h : ∀ vs H Q E, sp' vs H Q E → sp vs H Q E) : FnG P w K mg base k f fd ps sp' :=
  ⟨fun vs H Q E q => G.len vs H Q E (h _ _ _ _ q), fun A outer s H args us vs Q E hr hg he hb hv hs => G.run A outer s H args us vs Q E hr hg he hb hv (h _ _ _ _ hs)⟩
theorem FnG.mono {P : Program} {w : World} {K : PySem.W.Frag} {mg : Str → Option Value} {base : Heap} {j k : Nat} {f : Addr} {fd : FuncData} {ps : List Str} {sp : Sp} (G : FnG P w K mg base j f fd ps sp) (h : j ≤ k) : FnG P w K mg base k f fd ps sp :=
  ⟨G.len, fun A outer s H args us vs Q E hr => G.run A outer s H args us vs Q E (hr.mono h)⟩
/-- the call at the law's own place, over an abstract heap that tells of the script at most -/
theorem law_at {P : Program} {w : World} {K : PySem.W.Frag} {mg mb : Str → Option Value} {k : Nat} {fa a : Addr} {fd : FuncData} {x : Str} {sp : Sp} {s1 : Shared} {us : List Value} {H : Hp}
    (KX : K.In s1.heap) (nsG : s1.heap.Ns mainGlobals mg) (nsB : s1.heap.Ns builtinsNs mb) (boot : ∀ x : Str, x ≠ "__name__" → mb x = bootBuiltins x) (lim : s1.heap.NoLimit) (ng : s1.gens = #[])
    (at_a : s1.heap.get? a = some { cls := .type "list", data := .seq us.toArray }) (rm : Room k callerA) (gd : callerA.guards = some [])
    (F : ∀ base : Heap, K.In base → base.Ns mainGlobals mg → FnG P w K mg base k fa fd [x] sp) (bd : ∀ (s : Shared) (u : Value), BindsTo s fd ⟨[u], []⟩ [(x, u)])
    (onlyA : ∀ b, H b ≠ none → b = a) (notK : H a ≠ none → K.lookup a = none) (isF : ∀ u, H a = some u → ∃ o l, u = .frz o (.lst l)) (hk : HOk P w H s1.heap)
    (want : sp [.ref a] H (fun v _ => v = .bl true) fun _ _ _ => False) :
    codeAny (model P w) callerA (.call (.ref fa) ⟨[.ref a], []⟩) (fun r s' => r = .ok (.ret (.bool true)) ∧ OldK s1.heap s'.heap ∧ s'.os = s1.os ∧ AllBare s'.gens) s1 := by
  have low : ∀ {b : Addr} {o : Obj}, s1.heap.get? b = some o → (∀ l n, o.data ≠ .seq l n) → H b = none := fun {b o} e hd => by
    cases hb : H b with
    | none => rfl
    | some u =>
      obtain rfl : b = a := onlyA b (by rw [hb]; exact Option.some_ne_none u)
      rw [at_a] at e
      cases e
      exact absurd rfl (hd _ _)
  have toBase : ∀ {b : Addr} {o : Obj}, H b = none → s1.heap.get? b = some o → (hidT s1.heap H).get? b = some o := fun n e => hidT_get e n
  have nsOf : ∀ {b : Addr} {m : Str → Option Value}, s1.heap.Ns b m → (hidT s1.heap H).Ns b m := fun {b m} ⟨o, es, ep, e, d, r⟩ =>
    ⟨o, es, ep, toBase (low e fun l n z => by rw [d] at z; cases z) e, d, r⟩
  have inBase : K.In (hidT s1.heap H) := fun b o e => by
    refine toBase ?_ (KX b o e)
    cases hb : H b with
    | none => rfl
    | some u =>
      obtain rfl : b = a := onlyA b (by rw [hb]; exact Option.some_ne_none u)
      rw [notK (by rw [hb]; exact Option.some_ne_none u)] at e
      cases e
  obtain ⟨mc, l1, l2⟩ := lim
  have md : Mod K mg (hidT s1.heap H) := { kin := inBase, glob := nsOf nsG, blt := ⟨mb, nsOf nsB, boot⟩, nolimit := ⟨mc, nsOf l1, l2⟩ }
  have env : Env0 P w K mg (hidT s1.heap H) callerA [] s1 H :=
    { frames := rfl, mod := md, bs := fun b o e => of_hidT e, bsz := Nat.le_of_eq (hidT_size _ _), funs := trivial, frf := fun b hb => (nomatch (show b ∈ ([] : List Addr) from hb)), hok := hk, bare := .of_eq ng }
  have r1 : Vals [V.ref a] [Value.ref a] := .cons rfl .nil
  refine codeAny_mono ((F _ inBase (nsOf nsG)).run callerA [] s1 H ⟨[.ref a], []⟩ [.ref a] [.ref a] _ _ rm gd env (bd s1 (.ref a)) r1 want) fun r s' q => ?_
  match r, q with
  | .error e, ⟨_, _, _, _, _, _, _, _, _, _, _, _, no⟩ => exact no.elim
  | .ok (.ret u), ⟨v, H', eo, ba, un, ok', rv, ev⟩ =>
    have ev' : v = .bl true := ev
    subst ev'
    obtain rfl : u = Value.bool true := rv
    refine ⟨rfl, OldK.of_keep fun b o e => ?_, eo, ba⟩
    cases hb : H b with
    | none => exact un.keep b o e hb (fun z => by cases z) (fun z => by cases z)
    | some u =>
      have hb' := hb
      obtain rfl : b = a := onlyA b (by rw [hb]; exact Option.some_ne_none u)
      obtain ⟨ob, l, rfl⟩ := isF u hb
      have e1 := (hk _ _ hb).1
      have e2 := (ok' _ _ (un.frzs _ _ _ hb)).1
      rw [e] at e1
      cases e1
      exact e2
theorem law_callG {P : Program} {w : World} {K : PySem.W.Frag} {mg mb : Str → Option Value} {k : Nat} {fa a : Addr} {fd : FuncData} {x : Str} {sp : Sp} {s1 : Shared} {us : List Value} {ns : List Int}
    (KX : K.In s1.heap) (nsG : s1.heap.Ns mainGlobals mg) (nsB : s1.heap.Ns builtinsNs mb) (boot : ∀ x : Str, x ≠ "__name__" → mb x = bootBuiltins x) (lim : s1.heap.NoLimit) (ng : s1.gens = #[])
    (at_a : s1.heap.get? a = some { cls := .type "list", data := .seq us.toArray }) (ia : IntsAre us ns) (zl : ns.length ≤ sizeLine) (rm : Room k callerA) (gd : callerA.guards = some [])
    (F : ∀ base : Heap, K.In base → base.Ns mainGlobals mg → FnG P w K mg base k fa fd [x] sp) (bd : ∀ (s : Shared) (u : Value), BindsTo s fd ⟨[u], []⟩ [(x, u)])
    (want : ∀ H : Hp, FzK K H a (ns.map V.int) → sp [.ref a] H (fun v _ => v = .bl true) fun _ _ _ => False) :
    codeAny (model P w) callerA (.call (.ref fa) ⟨[.ref a], []⟩) (fun r s' => r = .ok (.ret (.bool true)) ∧ OldK s1.heap s'.heap ∧ s'.os = s1.os ∧ AllBare s'.gens) s1 := by
  have rv := vals_ints ia
  have le := ia.length
  cases lk : K.lookup a with
  | some o =>
    have e := KX a o lk
    rw [at_a] at e
    cases e
    have fz : FzK K (fun _ => none) a (ns.map V.int) := .inr ⟨_, us.toArray, _, lk, rfl, rfl, rfl, by rw [List.size_toArray, le]; exact zl, by simpa using rv⟩
    exact law_at KX nsG nsB boot lim ng at_a rm gd F bd (fun b z => absurd rfl z) (fun z => absurd rfl z) (fun u z => nomatch z) (fun b u z => nomatch z) (want _ fz)
  | none =>
    have e0 : upd (fun _ => none) a (.frz { cls := .type "list", data := .seq us.toArray } (.lst (ns.map V.int))) a = some (.frz { cls := .type "list", data := .seq us.toArray } (.lst (ns.map V.int))) := upd_same
    have ne : ∀ b, b ≠ a → upd (fun _ => none) a (.frz { cls := .type "list", data := .seq us.toArray } (.lst (ns.map V.int))) b = none := fun b hb => upd_ne hb
    refine law_at KX nsG nsB boot lim ng at_a rm gd F bd (fun b z => ?_) (fun _ => lk) (fun u z => ?_) (fun b u z => ?_) (want _ (.inl ⟨_, e0⟩))
    · by_cases hb : b = a
      · exact hb
      · exact absurd (ne b hb) z
    · rw [e0] at z
      cases z
      exact ⟨_, _, rfl⟩
    · by_cases hb : b = a
      · subst hb
        rw [e0] at z
        cases z
        exact ⟨at_a, by rw [List.length_map]; exact zl, us, _, rv, at_a⟩
      · rw [ne b hb] at z
        cases z
/-- the goal that the head leaves -/
theorem walk_ofG {l : PySem.W.OpenLaw} {n k : Nat} {q : Program} {loose : List Str} {XP : (Str → Option Value) → Heap → Prop} {YP : World → Heap → Prop} {d : DefRec} {K : Params → PySem.W.Frag} {F : World → FF} {x : Str}
    (hn : l.most = some n) (hn2 : n ≤ sizeLine) (hdf : d.params.defaults = []) (hr : Room k callerA) (gd : callerA.guards = some [])
    (hY : ∀ (w : World) (h : Heap), YP w h → (K w.params).In h)
    (hF : ∀ (w : World) (mg : Str → Option Value) (fa : Addr) (h : Heap), (K w.params).In h → h.Ns mainGlobals mg → mg d.name = some (.ref fa) →
      ∃ fd : FuncData, (∀ (s : Shared) (u : Value), BindsTo s fd ⟨[u], []⟩ [(x, u)]) ∧ ∀ base : Heap, (K w.params).In base → base.Ns mainGlobals mg → FnG l.prog w (K w.params) mg base k fa fd [x] (spF (K w.params) mg (F w) 1))
    (hsp : ∀ (w : World) (ns : List Int), ns.length ≤ n → ∃ t S, F w [.py (.list (ns.map PyData.int))] [] = some (.val t (.py (.bool true)) S)) :
    PySem.W.WalkO q loose XP YP l.row.toRowW d [] (fun f vs => PySem.call f vs) := by
  refine Att.attach_call hn hdf fun w s₀ s₁ mg mb fa o pm cd doc a vs ns G Y ho hd hcd hmg hobj hints hlen hg => ?_
  have KX := hY w _ Y
  obtain ⟨fd, hb, hG⟩ := hF w mg fa _ KX G.T.g hmg
  refine law_callG KX G.T.g G.T.b G.T.builtins G.T.nolimit hg hobj hints (Nat.le_trans hlen hn2) hr gd hG hb fun H fz => ?_
  obtain ⟨t, S, e⟩ := hsp w ns hlen
  have rp : Rps (K w.params) H (ns.map PyData.int) (ns.map V.int) := by
    clear fz hlen hints e
    induction ns with
    | nil => rfl
    | cons i ns ih => exact ⟨.int i, _, rfl, rfl, ih⟩
  refine ⟨[], [], [.py (.list (ns.map PyData.int))], _, rfl, ⟨.ref a, [], rfl, ⟨a, _, rfl, fz, rp⟩, rfl⟩, ⟨rfl, List.nodup_nil, fun k a d h => nomatch h⟩, e, fun u H' φ' l b rf => ?_⟩
  cases t with
  | pure => exact rf
  | fresh => obtain ⟨_, _, o, _⟩ := rf; exact o.elim
  | mine => obtain ⟨_, _, o, _⟩ := rf; exact o.elim
end PP
set_option Elab.async false
set_option linter.all false
set_option maxRecDepth 100000
set_option maxHeartbeats 4000000
namespace PP
open PySem PySem.W PySem.Calls PyProof.Rows
/-! ## an own error of the house: super().__init__(value); self.value = value -/
def iniArgs (q1 q2 : Pos) : Arguments := { posonlyargs := [], args := [{ arg := "self", annotation := none, pos := q1 }, { arg := "value", annotation := none, pos := q2 }], vararg := none, kwonlyargs := [], kw_defaults := [], kwarg := none, defaults := [] }
abbrev iniCall (a b c d e : Pos) : Expr := .Call (.Attribute (.Call (.Name "super" a) [] [] b) "__init__" c) [.Name "value" d] [] e
def iniBody (a b c d e f g h i j k : Pos) : List Stmt :=
  [.Expr (iniCall a b c d e) f, .Assign [.Attribute (.Name "self" g) "value" h] (.Name "value" i) j]
/-- what the written part says of the class at C (made by the __init__ at fI that the class at D has) -/
structure ErrTxt (prog : Program) (K : Frag) (C D fI : Addr) : Prop where
  cls : ∃ nm q N bs bm sn sub ab col dd k0 k1 k2 k3 k5, K.lookup C = some (excClassObj nm q C N bs bm true sn sub ab col dd k0 k1 k2 k3 k5 "ValueError.__new__") ∧ HandSPX.refsVE bm = true
  sa : findIn K (.ref C) "__setattr__" = some (some (.builtin "object.__setattr__"))
  ga : findIn K (.ref C) "__getattribute__" = some (some (.builtin "BaseException.__getattribute__"))
  gg : findIn K (.ref C) "__getattr__" = some none
  noN : findIn K (.ref C) "value" = some none
  iC : findIn K (.ref C) "__init__" = some (some (.ref fI))
  tC : typeIn K (.ref fI) = some (.type "function")
  kC : keepIn K (.ref C) = true
  exC : subIn K (.ref C) (.type "BaseException") = some true
  veC : subIn K (.ref C) (.type "ValueError") = some true
  tyC : typeIn K (.ref C) = some (.type "type")
  hdC : hasDictIn K C = true
  inC : excInitIn K C [.type "ValueError", .type "Exception", .type "BaseException", .type "object"] "ValueError.__new__" = true
  sup : ks_superIn K C D "__init__" = some (some (.builtin "ValueError.__init__"))
  subD : mroIn K C (.ref D) = some true
  clD : (clsIn K D).isSome = true
  thi : nsIn K cStatics "thirdparty.any" = some none
  noS : nsIn K mainGlobals "super" = some none
  top : (prog.main.scope.names.lookup ("super" : Str)).isSome = false
  fn : ∃ (oc doc pm ct : Value) (od an : Option Addr) (osl : Array (Option Value)) (cda cc : Addr) (q1 q2 p1 p2 p3 p4 p5 p6 p7 p8 p9 p10 p11 : Pos) (scope : Scope) (vs : Array Value) (file : Str) (tf : Tok) (o1 o2 : Value) (d1 d2 : Option Addr) (s1 s2 : Array (Option Value)),
    K.lookup fI = some ⟨oc, od, .func (fnX "__init__" "ReasonError.__init__" (iniArgs q1 q2) (iniBody p1 p2 p3 p4 p5 p6 p7 p8 p9 p10 p11) scope [("__class__", cc)] .none .none doc pm an (.ref cda) ct), osl⟩ ∧ codeIn K (.ref cda) "ReasonError.__init__" = true ∧
      K.lookup cda = some ⟨o1, d1, .fields vs, s1⟩ ∧ vs[2]? = some (.str file tf) ∧ ((prog.main.file : Str) == file) = true ∧ K.lookup cc = some ⟨o2, d2, .cell (some (.ref D)), s2⟩ ∧
      scope.kind = .function ∧ scope.isCoroutine = false ∧ scope.isGenerator = false ∧ scope.names.lookup ("super" : Str) = some .globalImplicit ∧ scope.names.lookup ("__class__" : Str) = some .free ∧ scope.names.lookup ("self" : Str) = some .local ∧ scope.names.lookup ("value" : Str) = some .local ∧ (∀ y ∈ scope.names, y.2 ≠ .cell) ∧
      ∃ pl : Sem Bool, ∀ env : Env, eval (iniCall p1 p2 p3 p4 p5) env = (do
        let ov ← attributeBase (.Call (.Name "super" p1) [] [] p2) "__init__" env (eval (.Call (.Name "super" p1) [] [] p2) env)
        standAt p3.atName
        let (f, first) ← holding [ov] (getMethod ov "__init__" pl)
        callWith p5 f first (backTo p5 (starEach [.Name "value" p4] env)) [])
/-- a made error -/
structure ErrMade (h h' : Heap) (e C d : Addr) (v : Value) : Prop where
  keep : ∀ b o, h.get? b = some o → h'.get? b = some o
  new : h.objs.size ≤ e
  obj : ∃ oe vs, h'.get? e = some oe ∧ oe.cls = .ref C ∧ oe.dict = some d ∧ oe.data = .fields vs ∧ vs[1]? = some .none
  dbig : h.objs.size ≤ d
  dne : d ≠ e
  ns : h'.Ns1 d (fun y => if y = "value" then some v else none)
section
variable {prog : Program} {w : World} {A : Around} {E : Value → Shared → Prop} {R : Result → Shared → Prop} {s : Shared} {K : Frag} {mg mb : Str → Option Value} {C D fI : Addr}
theorem boot_super : bootBuiltins "super" = some (.type "super") := by first | boot_by_name | rfl | kernel_rfl
theorem err_made (T : ErrTxt prog K C D fI) {v : Value} (X : K.In s.heap) (hlim : s.heap.NoLimit) (hG : s.heap.Ns mainGlobals mg) (hB : s.heap.Ns builtinsNs mb) (hb : ∀ x : Str, x ≠ "__name__" → mb x = bootBuiltins x) (hroom : A.depth + 1 < recursionLimit)
    (hq : ∀ h' tk e d, ErrMade s.heap h' e C d v → R (.ok (.ret (.ref e))) { s with heap := h', toks := tk }) :
    codeAny (model prog w) A (.call (.ref C) ⟨[v], []⟩) R s := by
  obtain ⟨nm, q, N, bs, bm, sn, sub, ab, col, dd, k0, k1, k2, k3, k5, hC, hbm⟩ := T.cls
  have hcl : clsIn K C = some { name := nm, bases := bs, mro := .ref C :: bm, ns := N, qualname := q, hasDict := true, slotNames := sn, subclasses := sub, abstract := ab, collection := col, hasDel := false } := by unfold clsIn; rw [hC] <;> rfl
  obtain ⟨oc, doc, pm, ct, od, an, osl, cda, cc, q1, q2, p1, p2, p3, p4, p5, p6, p7, p8, p9, p10, p11, scope, vs, file, tf, o1, o2, d1, d2, sl1, sl2, hfn, hcd, hcode, hvs, hfile, hcell, hk, hco, hgen, hks, hkc, hka, hkv, hnc, pl, hev⟩ := T.fn
  obtain ⟨cdD, hD⟩ := Option.isSome_iff_exists.mp T.clD
  obtain ⟨hp, g, dr, tk, os⟩ := s
  have z1 : ([v] : List Value).length ≤ sizeLine := by rw [sizeLine_eq]; exact (by decide : 1 ≤ 16777216)
  have up : ∀ b o, hp.get? b = some o → ((hp.push (kdv_tup [v])).push (HandSPX.excO C hp.objs.size)).get? b = some o := fun b o e => Heap.get?_push_of_some _ (Heap.get?_push_of_some _ e)
  have hx1 : ((hp.push (kdv_tup [v])).push (HandSPX.excO C hp.objs.size)).get? (hp.objs.size + 1) = some (HandSPX.excO C hp.objs.size) := by heap_get
  have szx : hp.get? (hp.objs.size + 1) = none := Heap.get?_none_of_le (Nat.le_succ _)
  refine HandSPX.call_own F.excBase_ValueError (fun X => HandSPX.refsVE_contains X bm hbm) (X _ _ hC) (looks_findIn X T.iC) (fun self => bind_fn X self T.tC) z1 ?_
  generalize hh1 : (hp.push (kdv_tup [v])).push (HandSPX.excO C hp.objs.size) = h1 at up hx1
  have X1 : K.In h1 := X.keeps up
  have sz1 : hp.objs.size + 1 < h1.objs.size := Heap.lt_size hx1
  refine ks_codeAny_call_defAt (binds := [("self", .ref (hp.objs.size + 1)), ("value", v)]) (body := iniBody p1 p2 p3 p4 p5 p6 p7 p8 p9 p10 p11) ?_ (X1 _ _ hfn) rfl (hlim.keeps up) (codeRec_of X1 hcd) rfl (BindsTo.of_eq (by first | rfl | with_unfolding_all rfl)) hnc ?_ (fun h2 hns k2' => ?_) hco hgen hk
  · show A.depth + 1 < recursionLimit
    exact hroom
  · intro y hy
    rcases List.mem_cons.mp hy with rfl | hy
    · exact hka
    · rcases List.mem_cons.mp hy with rfl | hy
      · exact hkv
      · cases hy
  have up2 : ∀ b o, hp.get? b = some o → h2.get? b = some o := fun b o e => k2' b o (up b o e)
  have hx2 : h2.get? (hp.objs.size + 1) = some (HandSPX.excO C hp.objs.size) := k2' _ _ hx1
  have Fr2 : Fr hp h1.objs.size h2 (fun x => ([("self", Value.ref (hp.objs.size + 1)), ("value", v)] : List (Str × Value)).reverse.lookup x) := ⟨hns, up2, Nat.le_of_lt (Nat.lt_of_succ_lt sz1)⟩
  have N2 : News hp h1.objs.size h2 [(hp.objs.size + 1, excObj C hp.objs.size none .none)] := fun p hp' => by
    obtain rfl : p = _ := List.mem_singleton.mp hp'
    exact ⟨hx2, Nat.ne_of_lt sz1, szx⟩
  show _root_.PySem.wpAt (model prog w) _ (.func _ (ksEnv "ReasonError.__init__" scope h1.objs.size fI (.ref cda) cc)) (execs _ (ksEnv "ReasonError.__init__" scope h1.objs.size fI (.ref cda) cc)) _ _ _
  have nse : (("value" : Str) == ("__debug__" : Str)) = false := by decide
  -- super()
  refine ks_wpAt_execs_cons (ks_wpAt_Expr_any (ks_wpAt_MethodCall (pl := pl) ?_ (hev _)) (by simp [interactive, hk]))
  have hf2 := up2 _ _ (X _ _ hfn)
  obtain ⟨oD, eD1, eD2⟩ : ∃ oD, h2.get? D = some oD ∧ oD.data = .cls cdD := by
    unfold clsIn at hD
    split at hD
    · rename_i c d cd' sl ho
      cases hD
      exact ⟨_, up2 _ _ (X _ _ ho), rfl⟩
    · cases hD
  have X2 : K.In h2 := X.keeps up2
  refine ks_wpAt_super_base (env := ksEnv "ReasonError.__init__" scope h1.objs.size fI (.ref cda) cc) hks hkc rfl rfl hf2 rfl rfl rfl (up2 _ _ (X _ _ hcode)) rfl hvs hfile T.top ?_
  refine ks_loadName_global hk hks (loadGlobal_builtin (env := ksEnv "ReasonError.__init__" scope h1.objs.size fI (.ref cda) cc) (hG.keeps up2) (mg_none_of X hG T.noS) (hB.keeps up2) ((hb _ (by decide +kernel)).trans boot_super) ⟨rfl, ?_⟩)
  refine wpAny_loadName_free hk hkc rfl ⟨_, up2 _ _ (X _ _ hcell), rfl⟩ ?_
  refine wpAny_loadName_local hk hka hns rfl ?_
  refine ks_wpAny_isType_cls eD1 eD2 ⟨rfl, ?_⟩
  refine ks_wpAny_call_super eD1 eD2 hx2 rfl (fun c e => nomatch e) (looks_mroIn X2 T.subD) (fun h3 e3 up3 => ?_)
  obtain ⟨Fr3, N3, l3⟩ := ks_newsPush (s := ⟨h2, g, dr, tk + 2, os⟩) Fr2 N2 rfl e3 up3
  have I3 : InstAt h3 (hp.objs.size + 1) (excObj C hp.objs.size none .none) C none := ⟨up3 _ _ hx2, rfl, rfl, trivial⟩
  refine kxs_method kxs_ValueError Fr3 X N3 (List.mem_cons_self ..) I3 T.thi T.sup T.veC rfl fun u h4 Fr4 N4 l4 => ?_
  refine kxs_callWith1 N4 (List.mem_cons_self ..) (Calls.spliced_cons (wpAny_Name (wpAny_loadName_local hk hkv Fr4.ns rfl (Calls.spliced_nil ⟨kxs_at N4 (List.mem_cons_self ..), ?_⟩)) nse))
  refine kxs_call Fr4 X N4 F.excBase_ValueError T.inC (List.mem_cons_self ..) (UpdF.tail ?_ (UpdF.tail ?_ (UpdF.head fun p hp => nomatch hp))) z1 fun t5 h5 Fr5 N5 l5 => ?_
  · exact Nat.ne_of_gt (l4 (hp.objs.size + 1, excObj C hp.objs.size none .none) (by simp))
  · exact Nat.ne_of_gt (l3 (hp.objs.size + 1, excObj C hp.objs.size none .none) (by simp))
  -- self.value = value
  have hx5 : h5.get? (hp.objs.size + 1) = some (excObj C t5 none .none) := (N5 (hp.objs.size + 1, excObj C t5 none .none) (by simp)).1
  have X5 : K.In h5 := X.keeps Fr5.keep
  show _root_.PySem.wpAt _ _ _ (execs _ _) _ _ _
  refine wpAt_of_wpAny (wpAny_execs_cons (plainObj_wpAny_Assign_Attribute ?_))
  refine wpAny_Name (wpAny_loadName_local hk hkv Fr5.ns rfl (wpAny_Name (wpAny_loadName_local hk hka Fr5.ns rfl ?_) (by decide))) nse
  refine set_plain X5 (ox := excObj C t5 none .none) (od := none) ⟨hx5, rfl, rfl, trivial⟩ T.sa ?_
  refine HandSPX.exc_osa X5 hx5 hcl (show HandSPX.refsVE (.ref C :: bm) = true from hbm) rfl T.noN (fun h6 tk6 dx up6 dn dne hx6 ns6 => ?_)
  refine wpAny_execs_nil ⟨rfl, hq h6 tk6 (hp.objs.size + 1) dx ⟨fun b o e => up6 b o (Nat.ne_of_lt (Nat.lt_succ_of_lt (Heap.lt_size e))) (Fr5.keep b o e), Nat.le_succ _, ⟨_, _, hx6, rfl, rfl, rfl, rfl⟩, ?_, dne, ns6⟩⟩
  exact Nat.le_trans (Nat.le_of_lt (Nat.lt_of_succ_lt (Nat.lt_trans sz1 Fr5.ns.lt))) dn
end
end PP
set_option Elab.async false
set_option linter.all false
set_option maxRecDepth 100000
set_option maxHeartbeats 4000000
namespace PP
open PySem L2 PySem.Spec PyProof.Rows
/-! ## raise, try, what is caught -/
section
variable {X : Cx} {pins : List (Addr × Obj)} {σ : L2.St} {H : Hp} {s : Shared}
/-- an object that none of ours knows is noted -/
theorem inv_note {a : Addr} {oe : Obj} (I : Inv X pins σ H s) (ha : s.heap.get? a = some oe) (na : H a = none) (nL : a ≠ X.env.locals) (nC : ∀ x c, X.env.cells.lookup x = some c → c ≠ a) (nP : ∀ p ∈ X.pn ++ pins, p.1 ≠ a) (n0 : X.s_0.heap.get? a = none) :
    Inv X pins σ (upd H a (.ext fun h => h.get? a = some oe)) s := by
  have ne0 : ∀ b o, X.s_0.heap.get? b = some o → b ≠ a := fun b o e z => by subst z; rw [n0] at e; cases e
  have neH : ∀ b o, H b = some o → b ≠ a := fun b o e z => by subst z; rw [na] at e; cases e
  have B := I.base
  refine { I with
    base := ⟨B.keep, B.slot, fun b o e n hx => (upd_ne (ne0 b o e)).trans (B.free b o e n hx), B.there, fun b xs e => ?_, fun b o xs e => ?_, fun b ps e => ?_⟩
    free := (upd_ne (Ne.symm nL)).trans I.free
    freeC := fun x c e => (upd_ne (nC x c e)).trans (I.freeC x c e)
    pin := fun p hp => ?_
    hok := fun b o e => ?_ }
  · exact (upd_ne (neH b _ (B.tups b xs e))).trans (B.tups b xs e)
  · exact (upd_ne (neH b _ (B.frzs b o xs e))).trans (B.frzs b o xs e)
  · obtain ⟨m, q⟩ := B.tbls b ps e
    exact ⟨m, (upd_ne (neH b _ q)).trans q⟩
  · obtain ⟨q1, q2, q3⟩ := I.pin p hp
    exact ⟨q1, (upd_ne (nP p hp)).trans q2, q3⟩
  · by_cases hb : b = a
    · subst hb
      rw [upd_same] at e
      cases e
      exact ⟨ha, ⟨_, ha⟩, fun h1 h2 q k => k _ q⟩
    · rw [upd_ne hb] at e
      exact (I.hok b o e).stay (fun _ _ _ q => q) (fun c q => (upd_ne (neH c _ q)).trans q) (fun c xs q => (upd_ne (neH c _ q)).trans q)
/-- what the clause 'except c as n: y = n' wishes: slot i is n's, slot j is y's -/
def wKeep (K : PySem.W.Frag) (c : Value) (i j : Nat) (D : Ends) : WX := fun cls d σ H =>
  PySem.W.exmOne K cls c = some true ∧ ∀ a oe, H a = none → oe.cls = cls → oe.dict = d → (∃ ws, oe.data = .fields ws) →
    D.nx (((σ.set i (some (.ref a))).set j (some (.ref a))).set i none) (upd H a (.ext fun h => h.get? a = some oe))
theorem ps_keep {x n y : Str} {c : Value} {i j : Nat} {body : List Stmt} {np p1 p2 spos pos pos' : Pos} {tb : WX → TS} (hs : X.stack = X.env :: X.outer) (hf : X.env.frame = some X.env.locals) (hex : X.ex = []) (nd : X.N.Nodup) (hi : X.N[i]? = some n) (hj : X.N[j]? = some y)
    (hn : X.env.scope.names.lookup n = some .local) (hy : X.env.scope.names.lookup y = some .local) (hc : Names X x c) (hdn : (n == ("__debug__" : Str)) = false) (hcn : (n == ("__classdict__" : Str)) = false)
    (hsw : swapsWith (.Name n p2) (some (.Name y p1)) spos.line X.env = pure false) (hli : i < X.N.length)
    (hb : ∀ (W : WX) (pn : List (Addr × Obj)) (xe : Value → Shared → Prop), Takes (X.tr pn xe) W → PassesOwn (model X.prog X.w) X.A X.env xe → PSs (X.tr pn xe) body (tb W)) :
    PS X (.Try body [.ExceptHandler (some (.Name x np)) (some n) [.Assign [.Name y p1] (.Name n p2) spos] pos'] [] [] pos) (fun D σ H => tb (wKeep X.K c i j D) D σ H) := by
  refine ⟨fun pins s σ H D I want => wpAny_Try_except ?_⟩
  have okX := I.ok
  have frames : X.A.frames = some (X.env :: X.outer) := okX.frames.trans (by rw [hs])
  -- the body's ends
  have ends : ∀ (xe : Value → Shared → Prop) (f : Flow) (s1 : Shared), SP (X.tr (X.pn ++ pins) xe) [] D f s1 → SP X pins D f s1 := fun xe f s1 q => by
    cases f with
    | next => exact let ⟨σ', H', J, z⟩ := q; ⟨σ', H', J.ofTry okX, z⟩
    | brk => exact let ⟨σ', H', J, z⟩ := q; ⟨σ', H', J.ofTry okX, z⟩
    | cont => exact let ⟨σ', H', J, z⟩ := q; ⟨σ', H', J.ofTry okX, z⟩
    | ret u => exact let ⟨v, σ', H', J, r, z⟩ := q; ⟨v, σ', H', J.ofTry okX, r, z⟩
  let hnd : List ExceptHandler := [.ExceptHandler (some (.Name x np)) (some n) [.Assign [.Name y p1] (.Name n p2) spos] pos']
  let XE1 : Value → Shared → Prop := fun e s1 => wpAny (model X.prog X.w) X.A (noteFrame e X.env) (fun _ s2 => wpAny (model X.prog X.w) X.A (setFlight e none) (fun _ s3 => wpAny (model X.prog X.w) X.A (handleBy e X.env hnd) (SP X pins D) X.xe s3) X.xe s2) X.xe s1
  have takes : Takes (X.tr (X.pn ++ pins) XE1) (wKeep X.K c i j D) := by
    rintro u s' ⟨a, B, sI, pins', σ', H', cls, d, rfl, J', nb, up, sky, na, os, ag, hm, go⟩
    have J : Inv X pins σ' H' sI := J'.ofTry okX
    have sky1 : Sky B (X.env :: X.outer) a (Zc cls d) X.env.locals s'.heap := hs ▸ sky
    show wpAny (model X.prog X.w) X.A (noteFrame (.ref a) X.env) _ _ _
    refine Sky.land Zc.steady frames hf sky1 fun h3 fl3 up3 => ?_
    have J3 : Inv X pins σ' H' { s' with heap := h3 } := J.landed nb fl3.1 (up.trans up3) os ag
    obtain ⟨oe3, vs3, g3, z3, d3⟩ := fl3.there
    have noFr : a ∉ frs (X.env :: X.outer) := fun hm' => by
      obtain ⟨_, o', e', hnf⟩ := fl3.2.2.1.mem hm'
      rw [g3] at e'
      cases e'
      exact hnf _ d3
    have nL : a ≠ X.env.locals := fun z => noFr (List.mem_filterMap.mpr ⟨X.env, List.mem_cons_self, by rw [hf, z]⟩)
    have nF : a ∉ X.fs := fun hm' => let ⟨e, he, q⟩ := List.mem_filterMap.mp hm'; noFr (List.mem_filterMap.mpr ⟨e, List.mem_cons_of_mem _ he, q⟩)
    have aB : B.get? a = none := fl3.2.1
    have notI : ∀ o, sI.heap.get? a ≠ some o := fun o e => by
      have := nb a o e (by rw [hs]; exact noFr)
      rw [aB] at this
      cases this
    have S3 := J3.suite g3 d3 na nL nF
    have looksT : PySem.W.Looks (model X.prog X.w) h3 (typeOf (.ref a)) cls := fun A Q E s k q => wpAny_typeOf_ref (k _ _ g3) (by rw [z3.1]; exact q)
    have looksM := PySem.W.exm_one (M := model X.prog X.w) J3.kIn looksT hm
    refine wpAny_handleBy_cons (codeAny_handlers_test ?_) (fun q => nomatch q)
    have named : ∀ {Q : Value → Shared → Prop} {E : Value → Shared → Prop}, Q c { s' with heap := h3 } → wpAny (model X.prog X.w) (X.A.mark (some (.ref a))) (eval (.Name x np) X.env) Q E { s' with heap := h3 } := fun {Q E} q => by
      rcases hc with ⟨hg, hdbg, h1 | ⟨h1, h2, h3⟩⟩
      · exact ld_glob (X := X.suite a ((a, oe3) :: (X.pn ++ pins))) S3 hg h1 q hdbg
      · exact ld_blt (X := X.suite a ((a, oe3) :: (X.pn ++ pins))) S3 hg h1 h2 q h3 hdbg
    refine named (looksM.here (codeAny_handlers_suite_as (HandSPX.lands_againZ fl3 fun h4 fl4 up4 => ?_)))
    have J4 : Inv X pins σ' H' { s' with heap := h4 } := J.landed nb fl4.1 ((up.trans up3).trans up4) os ag
    obtain ⟨oe4, vs4, g4, z4, d4⟩ := fl4.there
    have S4 := J4.suite g4 d4 na nL nF
    have li : i < σ'.length := by rw [J.len]; exact hli
    refine store_ok (X := X.suite a ((a, oe4) :: (X.pn ++ pins))) (v := .ref a) S4 nd hi (.inl hn) rfl (fun s5 S5 => ?_) (.inr hn)
    -- y = n
    have asg : PS (X.suite a ((a, oe4) :: (X.pn ++ pins))) (.Assign [.Name y p1] (.Name n p2) spos) (tAsg (tVar i) (gName j)) := ps_set nd hj (.inl hy) (pe_var hi (.inl hn) hdn hcn) hsw (.inr hy)
    refine wpAny_mono ((pss_one asg).run [] s5 _ H' { nx := fun σ6 H6 => σ6 = (σ'.set i (some (.ref a))).set j (some (.ref a)) ∧ H6 = H', rt := fun _ _ => False } S5 ⟨.ref a, List.getElem?_set_self li, rfl, rfl⟩) (fun f s6 hsp => ?_) fun _ _ z => False.elim z
    cases f with
    | next =>
      obtain ⟨σ6, H6, S6, rfl, rfl⟩ := hsp
      have J6 : Inv X pins _ H6 s6 := S6.unsuite okX
      have g6 : s6.heap.get? a = some oe4 := (S6.pin (a, oe4) (List.mem_append_left _ List.mem_cons_self)).1
      have noted := inv_note J6 g6 na nL (fun x' c' e' z => by
          obtain ⟨v', o', e1, e2⟩ := J6.cell x' c' e'
          rw [z, g6] at e1
          cases e1
          rw [d4] at e2
          cases e2) (fun p hp z => by
          have q := (J.pin p hp).1
          rw [z] at q
          exact notI _ q) (by
          cases e0 : X.s_0.heap.get? a with
          | none => rfl
          | some o0 =>
            obtain ⟨o', e1⟩ := J.base.there a o0 e0 (by rw [hex]; exact fun z => nomatch z)
            exact absurd e1 (notI o'))
      exact gone_ok noted nd hi hn fun s7 J7 => ⟨_, _, J7, go a oe4 na z4.1 z4.2 ⟨_, d4⟩⟩
    | brk => exact let ⟨_, _, _, z⟩ := hsp; False.elim z
    | cont => exact let ⟨_, _, _, z⟩ := hsp; False.elim z
    | ret u => exact let ⟨_, _, _, _, _, z⟩ := hsp; False.elim z
  refine wpAny_mono ((hb (wKeep X.K c i j D) (X.pn ++ pins) XE1 takes PassesOwn.looking).run [] s σ H D (I.toTry XE1) want) (fun f s1 hsp => ?_) fun e s1 he => he
  have q := ends _ f s1 hsp
  cases f with
  | next => exact wpAny_execs_nil q
  | brk => exact q
  | cont => exact q
  | ret u => exact q
end
end PP
set_option Elab.async false
set_option linter.all false
set_option maxRecDepth 100000
set_option maxHeartbeats 4000000
namespace PP
open PySem PySem.W PySem.Calls PyProof.Rows PySem.Spec
/-! ## isinstance of a kept error -/
structure ErrCls (K : Frag) (D : Addr) : Prop where
  ga : findIn K (.ref D) "__getattribute__" = some (some (.builtin "BaseException.__getattribute__"))
  gg : findIn K (.ref D) "__getattr__" = some none
  ex : subIn K (.ref D) (.type "BaseException") = some true
  hd : hasDictIn K D = true
  cl : findIn K (.ref D) "__class__" = some (some (.builtin "object.__class__"))
  gt : specialIn K (.builtin "object.__class__") "__get__" = some (some (.builtin "getset_descriptor.__get__"))
  tk : takesIn K (.builtin "object.__class__") = some true
  ob : mroIn K D (.type "object") = some true
section
variable {prog : Program} {w : World} {A : Around} {E : Value → Shared → Prop} {s : Shared} {K : Frag} {x D : Addr} {ox : Obj} {od : Option Obj}
theorem err_class {Q : Option Value → Shared → Prop} (c : ErrCls K D) (X : K.In s.heap) (I : InstAt s.heap x ox D od) (h : Q (some (.ref D)) { s with toks := s.toks + 1 }) : wpAny (model prog w) A (getAttr? (.ref x) "__class__") Q E s := by
  obtain ⟨cd, hc, _⟩ := any_some c.hd
  have found : findObj K D od "__class__" = some (.bind (.builtin "getset_descriptor.__get__") (.builtin "object.__class__")) := by
    unfold findObj
    rw [hc, Option.bind_some, c.cl, Option.bind_some]
    simp [c.gt, c.tk]
  obtain ⟨hp, g, dr, t, os⟩ := s
  have lt := I.type (M := model prog w)
  have lg := looks_findIn (M := model prog w) X c.ga
  have lo := looks_find (M := model prog w) X I found
  have isB : Looks (model prog w) hp (isInstance (.ref x) (.type "BaseException")) true := lt.andThen (looks_subIn X c.ex)
  unfold getAttr? getAttrBy? getAttrBy
  refine wpAny_bind (wpAny_mkText (wpAny_bind (wpAny_attempt (wpAny_holding (wpAny_bind (lt.at (wpAny_bind (lg.at ?_))))))))
  have no2 : (Value.builtin "BaseException.__getattribute__" == Value.builtin "object.__getattribute__") = false := by decide +kernel
  have no1 : (onTheHeap (Value.ref D) && Value.builtin "BaseException.__getattribute__" == Value.builtin "object.__getattribute__") = false := by rw [no2, Bool.and_false]
  show wpAny _ _ (if (onTheHeap (Value.ref D) && Value.builtin "BaseException.__getattribute__" == Value.builtin "object.__getattribute__") = true then _ else _) _ _ _
  rw [no1, if_neg Bool.false_ne_true]
  unfold getAttrByItsOwn hookBefore
  refine wpAny_bind ?_
  rw [if_pos (show onTheHeap (Value.ref D) = true from rfl)]
  refine (looks_findIn (M := model prog w) X c.gg).at (wpAny_bind (wpAny_attempt (wpAny_holding ?_)))
  unfold callGetattribute
  rw [if_neg (show ¬ ((false && onTheHeap (Value.builtin "BaseException.__getattribute__")) = true) from Bool.false_ne_true)]
  unfold boundAndCalled
  rw [PySem.F.excAttr_ValueError.ga.bind (.ref x)]
  refine wpAny_bind (wpAny_pure ?_)
  show wpAny _ _ (call (.builtin "BaseException.__getattribute__") [.ref x, .str "__class__" t]) _ _ _
  refine wpAny_call (codeAny_call_builtin PySem.F.excAttr_ValueError.ga.plain PySem.F.entry_bexc_ga (@check_slot (model prog w) _ _ ⟨hp, g, dr, t + 1, os⟩ "BaseException.__getattribute__" "BaseException" "__getattribute__" (.ref x) [.str "__class__" t] [] _ (by decide +kernel) (by decide +kernel) isB
    (PySem.F.args_bexc_ga (.ref x) (.str "__class__" t)) ?_))
  unfold Builtin.«object.__getattribute__»
  refine wpAny_bind (wpAny_of_eq (a := ((Value.ref x : Value), [Value.str "__class__" t])) (by first | rfl | (simp only [slotArgs]; rfl)) (wpAny_bind (wpAny_pure (wpAny_bind (lt.at (wpAny_bind (lo.at ?_)))))))
  show wpAny _ _ (holding [Value.builtin "object.__class__"] (call (.builtin "getset_descriptor.__get__") [.builtin "object.__class__", .ref x, .ref D]) >>= ret) _ _ _
  refine wpAny_bind (wpAny_holding (wpAny_call (class_get (s := ⟨hp, g, dr, t + 1, os⟩) (ox := ox) (od := od) X I c.ob (wpAny_pure ?_))))
  show wpAny _ _ (handedOut (.ref D)) _ _ _
  rw [handedOut_of (v := .ref D) rfl]
  first
    | exact wpAny_pure (wpAny_pure h)
    | exact wpAny_pure h
    | exact wpAny_pure (wpAny_bind (wpAny_pure (wpAny_pure h)))
theorem err_kit (c : ErrCls K D) : KitX K (.ref x) (.ref D) (fun h => ∃ ox od, InstAt h x ox D od) where
  ty := fun _ _ _ ⟨_, _, I⟩ => I.type
  it := fun _ _ X _ => by
    obtain ⟨cd, hc, _⟩ := any_some c.hd
    unfold clsIn at hc
    split at hc
    · rename_i ho
      exact fun A' Q' E' s' k q => by
        unfold isType loadHead
        exact wpAny_bind (wpAny_loadPart (k _ _ (X _ _ ho)) (wpAny_pure q))
    · cases hc
  ne := fun h tp dd its n sl X htp => by
    obtain ⟨cd, hc, _⟩ := any_some c.hd
    refine Bool.eq_false_iff.mpr fun q => ?_
    obtain rfl : D = tp := Value.ref.inj (beq_iff_eq.mp q)
    unfold clsIn at hc
    split at hc
    · rename_i ho
      cases (X _ _ ho).symm.trans htp
    · cases hc
  ca := fun X ⟨_, _, I⟩ k => err_class c X I k
end
end PP
namespace PP
open PySem L2 PySem.Spec PyProof.Rows
section
variable {X : Cx} {e a : Expr} {fe : FE} {g : FA} {p pos pos2 : Pos} {c : Str} {k : Nat}
/-- the object of a kept error -/
theorem errAt_inst {pins : List (Addr × Obj)} {σ : L2.St} {H : Hp} {s : Shared} {d : PyData} {u : V} (I : Inv X pins σ H s) (h : ErrAt X.K X.mg H c d u) : ∃ (a C dx : Addr) (oe : Obj) (fs : List (Str × V)) (vv : V) (od : Obj) (mA : Str → Option Value), u = .ref a ∧ X.mg c = some (.ref C) ∧ PySem.W.InstAt s.heap a oe C (some od) ∧
    (∀ y, PySem.W.lookIn y od = some (mA y)) ∧ RelO (fs.lookup ("value" : Str)) (mA "value") ∧ fs.lookup ("value" : Str) = some vv ∧ Rp X.K H d vv := by
  obtain ⟨a, C, dx, oe, fs, vv, rfl, hm, c1, c2, ⟨ws, c3⟩, c4, c5, c6, rp⟩ := h
  have he : s.heap.get? a = some oe := (I.hok a _ c4).1
  obtain ⟨mA, ns, rel⟩ := (show ObjOk X.prog X.w H s.heap dx (.xd fs) from I.hok dx _ c5)
  obtain ⟨od, ho, hl⟩ := lookIn_ns ns
  exact ⟨a, C, dx, oe, fs, vv, od, mA, rfl, hm, ⟨he, c1, by unfold PySem.W.notCls; rw [c3] <;> rfl, by rw [c2]; exact ho⟩, hl, rel _, c6, rp⟩
/-- what is known of the error class c -/
structure ErrOk (X : Cx) (R fI : Addr) (c : Str) : Prop where
  ex : ∃ C, X.mg c = some (.ref C) ∧ ErrTxt X.prog X.K C R fI ∧ ErrCls X.K C ∧ PySem.W.exmOne X.K (.ref C) (.ref R) = some true
def rIsiE (X : Cx) : List V → Hp → VK → Prop := fun xs H Q => ∃ (x v : V) (u : Value) (c : Str) (d : PyData) (C : Addr) (b : Bool), xs = [x, v] ∧ ClsV v u ∧ ErrAt X.K X.mg H c d x ∧ X.mg c = some (.ref C) ∧ ErrCls X.K C ∧ PySem.W.kitOne X.K (.ref C) u = some b ∧ Q (.bl b) H
theorem cr_isiE : CallR X (.builtin "isinstance") (rIsiE X) := by
  intro pins s σ H xs us Q I r h
  obtain ⟨x, v, u, c, d, C, b, rfl, kv, er, hm, ec, e, q⟩ := h
  obtain ⟨u1, u2, rfl, r1, r2⟩ := vals2 r
  have e2 := kv.eq r2
  subst e2
  obtain ⟨a, C', dx, oe, fs, vv, od, mA, rfl, hm', J, _⟩ := errAt_inst I er
  rw [hm] at hm'
  cases hm'
  obtain rfl : u1 = Value.ref a := r1
  exact PySem.W.kia_one (err_kit ec) I.kIn ⟨_, _, J⟩ e (fun z => nomatch z) fun tk => ⟨.bl b, H, I.tok tk, rfl, q⟩
theorem cr_isiN : CallR X (.builtin "isinstance") (fun xs H Q => rIsiE X xs H Q ∨ rIsi X.K xs H Q) := by
  intro pins s σ H xs us Q I r h
  rcases h with h | h
  · exact cr_isiE pins s σ H xs us Q I r h
  · exact call_isi pins s σ H xs us Q I r h
/-- isinstance(e, T), e a kept error or None, T an error's class -/
def fIsiC (tab : List (Str × Bool)) (f : FE) : FE := fun sl S => bindE (f sl S) fun t v S1 => match t, v with
  | .pure, .err c _ => match tab.lookup c with
    | some b => some (.val .pure (.py (.bool b)) S1)
    | none => none
  | .pure, .py .none => some (.val .pure (.py (.bool false)) S1)
  | _, _ => none
theorem den_isiC {T : Str} {q : Pos} {v : V} {uT : Value} {tab : List (Str × Bool)} (h : Den X e fe) (hi : Gl X "isinstance") (mi : X.mg "isinstance" = none) (hT : PE X (.Name T q) (tC v)) (kv : ClsV v uT)
    (htab : ∀ c b, tab.lookup c = some b → ∃ C, X.mg c = some (.ref C) ∧ ErrCls X.K C ∧ PySem.W.kitOne X.K (.ref C) uT = some b) (hN : PySem.W.kitOne X.K (.type "NoneType") uT = some false)
    (h1 : starEach [e, .Name T q] X.env = (false, eval e X.env) :: starEach [.Name T q] X.env) (h2 : starEach [.Name T q] X.env = (false, eval (.Name T q) X.env) :: starEach [] X.env) (hpl : (backTo pos (starEach [.Name T q] X.env)).any (·.1) = false) :
    Den X (.Call (.Name "isinstance" p) [e, .Name T q] [] pos) (fIsiC tab fe) := by
  refine .mk ?_; intro H0 φ0 φ σ H sl S r R hf Q W tk post
  refine wE.of (pe_callB cr_isiN hi mi (by decide +kernel) (pa_cons wE.pe (pa_cons hT pa_nil h2) h1) (by decide) (by decide) h1 hpl) ?_
  refine den_then h R tk hf post fun t1 v1 S1 u1 H1 φ1 hk R1 l1 rv1 post1 => ?_
  split at hk
  · rename_i c d
    split at hk
    · rename_i b hb
      cases hk
      obtain ⟨C, hm, ec, ek⟩ := htab c b hb
      exact .inl ⟨u1, v, uT, c, d, C, b, rfl, kv, rv1, hm, ec, ek, post1 _ H1 φ1 R1 (Le.refl _ _) rfl (fun z => nomatch z)⟩
    · cases hk
  · cases hk
    obtain rfl : u1 = .non := rv1
    exact .inr ⟨.non, v, _, uT, false, rfl, kv, .base .non, hN, post1 _ H1 φ1 R1 (Le.refl _ _) rfl (fun z => nomatch z)⟩
  · cases hk
/-- e.value -/
def fErrVal (cs : List Str) (f : FE) : FE := fun sl S => bindE (f sl S) fun t v S1 => match t, v with
  | .pure, .err c d => if cs.contains c = true then some (.val .pure (.py d) S1) else none
  | _, _ => none
theorem den_errVal {R0 fI : Addr} {cs : List Str} (h : Den X e fe) (ok : ∀ c, cs.contains c = true → ErrOk X R0 fI c) (hb : attributeBase e "value" X.env (eval e X.env) = eval e X.env) : Den X (.Attribute e "value" pos) (fErrVal cs fe) := by
  refine .mk ?_; intro H0 φ0 φ σ H sl S r R hf Q W tk post pins s I
  refine attr_of hb ?_
  have go : wE X e σ H fun x H1 => ∃ c d C, ErrAt X.K X.mg H1 c d x ∧ X.mg c = some (.ref C) ∧ ErrTxt X.prog X.K C R0 fI ∧ ∀ v, Rp X.K H1 d v → Q v H1 := by
    rcases bindE_some hf with ⟨t, v, S1, e1, e2⟩ | ⟨c, d, S1, e1, rfl⟩
    · refine h H0 φ0 φ σ H sl S _ R e1 _ W tk fun u H1 φ1 R1 l1 rv _ => ?_
      split at e2
      · rename_i c d
        split at e2
        · rename_i hc
          cases e2
          obtain ⟨C, hm, T, _⟩ := (ok _ hc).ex
          exact ⟨_, _, C, rv, hm, T, fun v rp => post v H1 φ1 R1 l1 rp (fun z => nomatch z)⟩
        · cases e2
      · cases e2
    · exact h H0 φ0 φ σ H sl S _ R e1 _ W tk post
  refine thn (go pins s I) fun u s1 ⟨x, H1, I1, rx, c, d, C, er, hm, T, q⟩ => ?_
  obtain ⟨a, C', dx, oe, fs, vv, od, mA, rfl, hm', J, hl, rel, hv, rp⟩ := errAt_inst I1 er
  rw [hm] at hm'
  cases hm'
  obtain rfl : u = Value.ref a := rx
  obtain ⟨uv, hu, ru⟩ := RelO.some_of (v := vv) (o := mA "value") (by rw [← hv]; exact rel)
  exact HandSPX.exc_get I1.kIn J T.ga T.gg T.exC (PySem.W.findObj_own T.hdC T.noN rfl (by rw [hl, hu])) (handed_of ru) ⟨vv, H1, I1.tok _, ru, q vv rp⟩
/-! ### raise C(e) -/
def fMkErr (C : Addr) (ta : TA) : L2.St → Hp → XK → Prop := fun σ H Q => ta σ H fun vs H1 => ∃ v, vs = [v] ∧ ∀ d, H1 d = none → Q (.ref C) (some d) (upd H1 d (.xd [("value", v)]))
theorem relO_value {v : V} {u : Value} (r : RelV v u) (f : Str) : RelO (List.lookup f [(("value" : Str), v)]) (if f = "value" then some u else none) := by
  by_cases h : f = "value"
  · subst h
    rw [if_pos rfl]
    have e : List.lookup ("value" : Str) [(("value" : Str), v)] = some v := by simp [List.lookup]
    rw [e]
    exact r
  · rw [if_neg h]
    have e : (f == ("value" : Str)) = false := by simpa using h
    have e2 : List.lookup f [(("value" : Str), v)] = none := by simp [List.lookup, e]
    rw [e2]
    trivial
theorem pmk_err {C R0 fI : Addr} {ta : TA} (T : ErrTxt X.prog X.K C R0 fI) (hr : Room k X.A) (hg : Gl X c) (hm : X.mg c = some (.ref C)) (hdb : (c == ("__debug__" : Str)) = false) (ha : PA X [a] ta)
    (he : starEach (a :: []) X.env = (false, eval a X.env) :: starEach [] X.env) (hpl : (backTo pos (starEach [] X.env)).any (·.1) = false) : PMk X (.Call (.Name c p) [a] [] pos) (fMkErr C ta) := by
  intro pins s σ H Q I h
  refine wpAny_Call_Name_kw (ld_glob I hg hm ?_ hdb)
  refine PySem.W.callWith_K (h₀ := X.base) I.ok.mod.kin T.kC (thn (ha.run pos pins s σ H _ I h) fun us s1 ⟨vs, H1, I1, rr, v, ev, q1⟩ => ⟨I1.kIn, ?_⟩) he hpl
  subst ev
  obtain ⟨u, rfl, rv⟩ := rr.one
  have lim := I1.nolimit
  have nsG := I1.ok.mod.glob.keeps I1.bk
  obtain ⟨mb, nsB, hbb⟩ := I1.ok.mod.blt
  have nsB' := nsB.keeps I1.bk
  obtain ⟨hp, g, dr, tk, os⟩ := s1
  refine wpAny_call (err_made T I1.kIn lim nsG nsB' hbb (by have := hr.dp; omega) fun h' tk' e d M => ?_)
  show MkP X pins σ Q (.ref e) ⟨h', g, dr, tk', os⟩
  obtain ⟨oe, fv, hoe, hc, hd, hdat, h1⟩ := M.obj
  -- the state without the error's object
  obtain ⟨G', in_, out_⟩ := restrict h' fun b => decide (b ≠ e)
  have same : ∀ b, b ≠ e → G'.get? b = h'.get? b := fun b hb => in_ b (decide_eq_true hb)
  have gone : G'.get? e = none := out_ e (by simp)
  have old : ∀ b o, hp.get? b = some o → G'.get? b = some o := fun b o q => by
    rw [same b (Nat.ne_of_lt (Nat.lt_of_lt_of_le (Heap.lt_size q) M.new))]
    exact M.keep b o q
  have new : ObjOk X.prog X.w (upd H1 d (.xd [(("value" : Str), v)])) G' d (.xd [(("value" : Str), v)]) :=
    ⟨_, M.ns.at fun o q => by rw [same d M.dne]; exact q, fun f => relO_value rv f⟩
  have J : Inv X pins σ (upd H1 d (.xd [(("value" : Str), v)])) ⟨G', g, dr, tk', os⟩ := I1.laid (t' := tk') old M.dbig new
  refine ⟨e, oe, fv, ⟨G', g, dr, tk', os⟩, _, .ref C, some d, rfl, J, fun b o q => ?_, gone, hoe, ⟨hc, hd⟩, hdat, h1, ?_, rfl, I1.bare, raises_own T.exC T.tyC, q1 d (I1.hok.fresh M.dbig)⟩
  · have q' : G'.get? b = some o := q
    by_cases hb : b = e
    · rw [hb, gone] at q'
      cases q'
    · rw [same b hb] at q'
      exact q'
  · rw [upd_ne (Ne.symm M.dne)]
    exact I1.hok.fresh M.new
def fRaise (c : Str) (g : FA) : FS := fun sl S => match g sl S with
  | some (.vals [(.pure, .py d)] S1) => some (.exn c d sl S1)
  | some (.exn c' d S1) => some (.exn c' d sl S1)
  | _ => none
theorem denS_raise {R0 fI : Addr} (ct : Ct X k) (ok : ErrOk X R0 fI c) (hg : Gl X c) (hdb : (c == ("__debug__" : Str)) = false) (ha : DenA X [a] g)
    (he : starEach (a :: []) X.env = (false, eval a X.env) :: starEach [] X.env) (hpl : (backTo pos (starEach [] X.env)).any (·.1) = false) : DenS1 X (.Raise (some (.Call (.Name c p) [a] [] pos)) none pos2) (fRaise c g) := by
  refine .mk ?_; intro H0 φ0 φ σ H sl S r R hf D W tk post
  obtain ⟨C, hm, T, _⟩ := ok.ex
  refine wS1.of (ps_raise ct.calm tk (pmk_err T ct.room hg hm hdb wA.pa he hpl)) ?_
  unfold fRaise at hf
  split at hf
  · rename_i d S1 h1
    cases hf
    refine ha H0 φ0 φ σ H sl S _ R h1 _ W tk fun us H1 φ1 R1 l1 rvs => ?_
    obtain ⟨u, t, rfl, rv, rfl⟩ := rvs
    refine ⟨u, rfl, fun dx hd => ?_⟩
    have ex : Ext H1 (upd H1 dx (.xd [(("value" : Str), u)])) := Ext.new hd
    exact post (C) dx σ _ φ1 (R1.ext ex) (l1.fz.trans ex.fz) ⟨hm, _, u, upd_same, by simp [List.lookup], Rp.mono ex.fz d rv⟩
  · rename_i c' d S1 h1
    cases hf
    exact ha H0 φ0 φ σ H sl S _ R h1 _ W tk fun C dx H' φ' R' l' ex => post C dx σ H' φ' R' l'.fz ex
  · cases hf
/-! ### try: .. except R as n: y = n -/
def fKeep (cs : List Str) (i j : Nat) (fb : FS) : FS := fun sl S => match fb sl S with
  | some (.exn c d sl' S') => if cs.contains c then some (.nx ((sl'.set j (.p (.err c d))).set i .un) S') else none
  | r => r
theorem denS_keep {x n y : Str} {R0 fI : Addr} {cs : List Str} {i j : Nat} {body : List Stmt} {fb : FS} {np p1 p2 spos pos' : Pos} (ct : Ct X k) (hs : X.stack = X.env :: X.outer) (hf : X.env.frame = some X.env.locals) (hex : X.ex = []) (hi : X.N[i]? = some n) (hj : X.N[j]? = some y) (hij : i ≠ j)
    (hn : X.env.scope.names.lookup n = some .local) (hy : X.env.scope.names.lookup y = some .local) (hg : Gl X x) (hm : X.mg x = some (.ref R0)) (hdx : (x == ("__debug__" : Str)) = false) (ok : ∀ c, cs.contains c = true → ErrOk X R0 fI c) (hdn : (n == ("__debug__" : Str)) = false) (hcn : (n == ("__classdict__" : Str)) = false)
    (hsw : swapsWith (.Name n p2) (some (.Name y p1)) spos.line X.env = pure false)
    (hb : ∀ (pn : List (Addr × Obj)) (xe : Value → Shared → Prop), PassesOwn (model X.prog X.w) X.A X.env xe → DenS (X.tr pn xe) body fb) :
    DenS1 X (.Try body [.ExceptHandler (some (.Name x np)) (some n) [.Assign [.Name y p1] (.Name n p2) spos] pos'] [] [] pos) (fKeep cs i j fb) := by
  refine .mk ?_; intro H0 φ0 φ σ H sl S r R hfb D W tk post
  have li : i < X.N.length := (List.getElem?_eq_some_iff.mp hi).1
  refine wS1.of (ps_keep (c := .ref R0) (tb := fun W' D' σ' H' => ∀ pn xe, Takes (X.tr pn xe) W' → PassesOwn (model X.prog X.w) X.A X.env xe → wSs (X.tr pn xe) body D' σ' H') hs hf hex ct.nd hi hj hn hy ⟨hg, hdx, .inl hm⟩ hdn hcn hsw li
    fun W' pn xe tk' po => ⟨fun pins s σ' H' D' I h => h pn xe tk' po pins s I⟩) fun pn xe tk' po => ?_
  unfold fKeep at hfb
  split at hfb
  · rename_i c d sl' S' e1
    split at hfb
    · rename_i hc
      cases hfb
      refine hb pn xe po H0 φ0 φ σ H sl S _ R e1 D _ tk' fun C dx σ' H' φ' R' z ex => ?_
      obtain ⟨C', hm', _, _, hx⟩ := (ok c hc).ex
      obtain ⟨hmC, fs, vv, hd, hv, rp⟩ := ex
      have hmC' : X.mg c = some (.ref C) := hmC
      rw [hm'] at hmC'
      cases hmC'
      refine ⟨hx, fun a oe na oc od ws => ?_⟩
      have e0 : Ext H' (upd H' a (.ext fun h => h.get? a = some oe)) := Ext.new na
      have er : ErrAt X.K X.mg (upd H' a (.ext fun h => h.get? a = some oe)) c d (.ref a) := ⟨a, _, dx, oe, fs, vv, rfl, hm', oc, od, ws, upd_same, e0 _ _ hd, hv, rp.mono e0.fz⟩
      have R1 : Rel X.K X.mg H0 φ0 φ' σ' (upd H' a (.ext fun h => h.get? a = some oe)) sl' S' := Rel.ext R' e0
      have R2 := ((R1.un i (some (.ref a))).put (t := .pure) (v := .err c d) (u := .ref a) er rfl j).un i none
      have e2 : ((sl'.set i Slot.un).set j (Slot.p (Vl.err c d))).set i Slot.un = (sl'.set j (Slot.p (Vl.err c d))).set i Slot.un := by rw [List.set_comm _ _ hij, List.set_set]
      rw [e2] at R2
      exact post _ _ φ' R2 (z.trans e0.fz)
    · cases hfb
  · rename_i hne
    refine hb pn xe po H0 φ0 φ σ H sl S r R hfb D _ tk' ?_
    cases r with
    | nx a b => exact post
    | bk a b => exact post
    | ct a b => exact post
    | rt t v S => exact post
    | exn c d a b => exact absurd hfb (hne c d a b)
end
end PP
set_option Elab.async false
set_option linter.all false
set_option maxRecDepth 100000
set_option maxHeartbeats 4000000
namespace PP
open PySem PySem.W PySem.Calls PyProof.Rows PySem.Spec PySem.SeqAt
/-! ## sorted -/
section
variable {prog : Program} {w : World} {A : Around} {E : Value → Shared → Prop} {s : Shared}
theorem tupleLt_call {Q : Value → Shared → Prop} {l b : Addr} {items items2 : Array Value} {e r : Nat → Bool} {o o2 : Obj} {n n2 : Nat} (h1 : s.heap.get? l = some o) (c1 : o.cls = .type "tuple") (d1 : o.data = .seq items n) (h2 : s.heap.get? b = some o2) (c2 : o2.cls = .type "tuple") (d2 : o2.data = .seq items2 n2)
    (he : ∀ j (h1 : j < items.size) (h2 : j < items2.size), EqAt A.in1 s items[j] items2[j] (e j)) (hr : ∀ j (h1 : j < items.size) (h2 : j < items2.size), e j = false → RcLt A.in1 s items[j] items2[j] (r j))
    (h : Q (.bool (firstLt e r (decide (items.size < items2.size)) (List.range (min items.size items2.size)))) s) : wpAny (model prog w) A (call (.builtin "tuple.__lt__") [.ref l, .ref b]) Q E s := by
  obtain ⟨k1, dd1, dt1, sl1⟩ := o
  obtain ⟨k2, dd2, dt2, sl2⟩ := o2
  dsimp only at c1 d1 c2 d2
  subst c1 d1 c2 d2
  exact call_meets F.slot_tuple_lt ⟨_, h1, rfl⟩ F.entry_tuple_lt (F.args_tuple_lt_2 _ _) (tuple_ltAt l b items items2 n n2 dd1 dd2 sl1 sl2 e r) ⟨h1, h2, he, hr, h⟩
theorem oneLt_tup {xs ys : List PyData} {a b : Value} {as bs : List Addr} {Q : Bool → Shared → Prop} (ra : Reads s.heap a (.tuple xs) as) (rb : Reads s.heap b (.tuple ys) bs) (hal : alikeAll xs ys = true)
    (hu : A.units + min (PyData.tuple xs).depth (PyData.tuple ys).depth < cLine) (hq : Q (dataLt (.tuple xs) (.tuple ys)) s) : wpAny (model prog w) A (oneLt' true a b) Q E s := by
  cases ra with
  | @tuple l o vs n _ as₁ h1 h2 h3 h4 =>
    cases rb with
    | @tuple l' o' vs' n' _ bs₁ k1 k2 k3 k4 =>
      have n1 : vs.size = xs.length := by simpa using SeqAt.ReadsAll.length _ _ _ h4
      have n2 : vs'.size = ys.length := by simpa using SeqAt.ReadsAll.length _ _ _ k4
      rw [dataLt_tuple, ← firstLt_toks xs ys hal, ← n1, ← n2] at hq
      rw [oneLt'_eq, if_pos rfl]
      refine wpAny_bind (wpAny_cRoomFor (SeqAt.room_here hu) (wpAny_bind (wpAny_callSpecialIfBound?_slot (T := "tuple") ⟨_, h1, h2⟩ F.slot_tuple_lt ?_)))
      refine tupleLt_call (e := pairEq xs ys) (r := fun j => dataLt (xs.getD j .none) (ys.getD j .none)) h1 h2 h3 k1 k2 k3 (fun j j1 j2 => ?_) (fun j j1 j2 hj => ?_) (wpAny_truthy_bool hq)
      · have z := eqAt_alikeAll xs ys A.in1 s vs.toList vs'.toList _ _ h4 k4 hal (SeqAt.room_in hu) j (by simpa using j1) (by simpa using j2)
        simpa using z
      · have z := rcLt_alikeAll xs ys A.in1 s vs.toList vs'.toList _ _ h4 k4 hal (SeqAt.room_in hu) j (by simpa using j1) (by simpa using j2) hj
        simpa using z
theorem mapM_some {M : Model} {α β : Type} {f : α → Sem β} : ∀ (l : List α) {Q : List β → Shared → Prop}, (∀ v ∈ l, ∃ r : β, ∀ (Q' : β → Shared → Prop), Q' r s → wpAny M A (f v) Q' E s) → (∀ rs : List β, rs.length = l.length → Q rs s) → wpAny M A (l.mapM f) Q E s
  | [], Q, _, h => by rw [List.mapM_nil]; exact wpAny_pure (h [] rfl)
  | x :: l, Q, hf, h => by
    rw [List.mapM_cons]
    obtain ⟨r, hr⟩ := hf x (List.mem_cons_self ..)
    refine wpAny_bind (hr _ (wpAny_bind (mapM_some l (fun v hv => hf v (List.mem_cons_of_mem _ hv)) fun rs e => wpAny_pure (h (r :: rs) (by simp [e])))))
theorem first_of {M : Model} {v : Value} {xs : List PyData} {as : List Addr} (ra : Reads s.heap v (.tuple xs) as) : ∃ r : Option Value, (xs = [] → r = none) ∧ ∀ (Q' : Option Value → Shared → Prop), Q' r s → wpAny M A (firstOfTuple' v) Q' E s := by
  cases ra with
  | @tuple l o vs n _ as₁ h1 h2 h3 h4 =>
    refine ⟨vs[0]?, fun e => ?_, fun Q' q => ?_⟩
    · subst e
      have n1 : vs.size = 0 := by simpa using SeqAt.ReadsAll.length _ _ _ h4
      exact Array.getElem?_eq_none (by omega)
    · rw [kas_first_eq]
      refine wpAny_bind (Looks.here (show Looks M s.heap (typeOf (.ref l)) o.cls from (Looks.ld h1).andThen .now) ?_)
      rw [h2, if_neg (by first | decide | simp)]
      exact wpAny_bind (listItems_at h1 h3 (wpAny_pure q))
/-- tuples, the first of them empty -/
theorem kind_empty {M : Model} {vs : List Value} {ds : List PyData} {Q : SortKind → Shared → Prop} (e : EachIs (fun v d => ∃ as, Reads s.heap v d as) vs (.tuple [] :: ds)) (ht : ∀ d ∈ ds, ∃ xs, d = .tuple xs) (h2 : 2 ≤ vs.length) (h : Q oneType' s) : wpAny M A (keyKind' vs.toArray) Q E s := by
  have isT : ∀ v ∈ vs, ∃ xs as, Reads s.heap v (.tuple xs) as := fun v hv => by
    obtain ⟨d, hd, as, r⟩ := e.left v hv
    rcases List.mem_cons.mp hd with rfl | hd
    · exact ⟨_, as, r⟩
    · obtain ⟨xs, rfl⟩ := ht d hd
      exact ⟨xs, as, r⟩
  cases e with
  | @cons v _ rest _ r0 rt =>
    obtain ⟨as0, r0⟩ := r0
    rw [keyKind'_eq, List.mapM_toArray, map_eq_pure_bind, List.mapM_cons]
    obtain ⟨f0, hf0, hq0⟩ := first_of (M := M) (A := A) (E := E) r0
    obtain rfl := hf0 rfl
    refine wpAny_bind (wpAny_bind (wpAny_bind (hq0 _ (wpAny_bind (mapM_some rest (fun v hv => ?_) fun rs hl => wpAny_pure (wpAny_pure ?_))))))
    · obtain ⟨xs, as, r⟩ := isT v (List.mem_cons_of_mem _ hv)
      obtain ⟨f, _, hq⟩ := first_of (M := M) (A := A) (E := E) r
      exact ⟨f, hq⟩
    · rw [if_neg (by simp), if_neg (by simp)]
      rw [oneTypeOnly'_eq, List.mapM_toArray, map_eq_pure_bind]
      refine wpAny_bind (wpAny_bind (wpAny_bind (kas_mapM (r := Value.type "tuple") _ (fun v hv Q' hq => ?_) (wpAny_pure ?_))))
      · obtain ⟨xs, as, r⟩ := isT v hv
        exact (looks_reads r).here hq
      · have all : ((List.map (fun _ => Value.type "tuple") (v :: rest)).toArray.all fun x => x == Value.type "tuple") = true := by
          simp only [List.all_toArray, List.all_map, List.all_eq_true]
          intro _ _
          exact beq_self_eq_true _
        rw [show (List.map (fun _ => Value.type "tuple") (v :: rest)).toArray[0]? = some (Value.type "tuple") by simp]
        simp only [all, if_true]
        exact wpAny_pure (wpAny_pure h)
theorem sorts_empty {vs : List Value} {ds : List PyData} (e : EachIs (fun v d => ∃ as, Reads s.heap v d as) vs (.tuple [] :: ds)) (hal : AllAlike (.tuple [] :: ds)) (ht : ∀ d ∈ ds, ∃ xs, d = .tuple xs) (hu : ∀ d, d ∈ PyData.tuple [] :: ds → A.units + d.depth < cLine) :
    SortsAt prog w A s (dataKind s.heap (.tuple [] :: ds)) vs := by
  have isT : ∀ d ∈ PyData.tuple [] :: ds, ∃ xs, d = .tuple xs := fun d hd => by
    rcases List.mem_cons.mp hd with rfl | hd
    · exact ⟨[], rfl⟩
    · exact ht d hd
  refine ⟨fun v hv => ?_, oneType', ?_, fun h2 E Q hq => kind_empty e ht h2 hq⟩
  · obtain ⟨d, hd, as, r⟩ := e.left v hv
    exact ⟨_, dataKind_some hal hd r⟩
  · intro E x y a b Q ha hb hq
    obtain ⟨d, as, hd, ra, rfl⟩ := dataKind_inv ha
    obtain ⟨d', as', hd', rb, rfl⟩ := dataKind_inv hb
    obtain ⟨xs, rfl⟩ := isT d hd
    obtain ⟨ys, rfl⟩ := isT d' hd'
    rw [keyLt'_oneType]
    have al := hal _ hd _ hd'
    exact oneLt_tup ra rb (by simpa [alike] using al) (Nat.lt_of_le_of_lt (Nat.add_le_add_left (Nat.min_le_left _ _) _) (hu _ hd)) hq
/-- sorted(xs), the first item an empty tuple -/
theorem sorted_empty {l : Addr} {vs : List Value} {ds : List PyData} {R : Value → PyData → Prop} {Q : Value → Shared → Prop} (hl : s.heap.IsList l vs.toArray) (e : EachIs R vs (.tuple [] :: ds)) (er : EachIs (fun v d => ∃ as, Reads s.heap v d as) vs (.tuple [] :: ds)) (hal : AllAlike (.tuple [] :: ds)) (ht : ∀ d ∈ ds, ∃ xs, d = .tuple xs) (hL : vs.length ≤ sizeLine)
    (hu : ∀ d, d ∈ PyData.tuple [] :: ds → A.units + 2 + d.depth < cLine) (h : ∀ out, out.length = vs.length → EachIs R out ((PyData.tuple [] :: ds).mergeSort (dataLe false fun d => d)) → Q (.ref (s.heap.objs.size + 1)) { s with heap := sortedAll s.heap vs (List.toArray out) }) :
    wpAny (model prog w) A (call (.builtin "sorted") [.ref l]) Q E s := by
  have er' : EachIs (fun v d => ∃ as, Reads (sortingHeap (copyHeap s.heap vs) (s.heap.objs.size + 1) vs) v d as) vs (.tuple [] :: ds) := er.mono fun _ _ ⟨as, r⟩ => ⟨as, PyProof.Rows.Reads.keeps (fun _ _ => sorting_copy_old) r⟩
  have ed : ∀ ds : List PyData, ds.map (fun d : PyData => d) = ds := fun ds => List.map_id' ds
  have al : AllAlike ((PyData.tuple [] :: ds).map fun d => d) := by rw [ed]; exact hal
  refine sorted_vals hl (sorts_empty (s := { s with heap := sortingHeap (copyHeap s.heap vs) (s.heap.objs.size + 1) vs }) er' hal ht hu) hL (h _ (sortVals_length false rfl) ?_)
  have q := sortVals_data (enc := fun d : PyData => d) false e er' al
  rw [ed] at q
  exact q
end
end PP
namespace PP
open PySem L2 PySem.Spec PyProof.Rows
open PySem.W (EachIs)
section
variable {X : Cx} {k : Nat}
def alikes (ds : List PyData) : Bool := ds.all fun a => ds.all fun b => PySem.W.alike a b
def isTup : PyData → Bool
  | .tuple _ => true
  | _ => false
def isTup1 : PyData → Bool
  | .tuple (_ :: _) => true
  | _ => false
def isOther : PyData → Bool
  | .none => false
  | .tuple _ => false
  | _ => true
def sortsOk (ds : List PyData) : Bool := ds.all isTup1 || ds.all isOther || (match ds with
  | .tuple [] :: r => r.all isTup
  | _ => false)
def srt (ds : List PyData) : List PyData := ds.mergeSort (PySem.W.dataLe false fun d => d)
def sortP : List PyData → Option (Tg × PyData)
  | [.list ds] => if alikes ds && sortsOk ds && ds.all (fun d => decide (d.depth ≤ DEEP)) then some (.fresh, .list (srt ds)) else none
  | _ => none
theorem rps_each {K : PySem.W.Frag} {H : Hp} : ∀ {ds : List PyData} {vs : List V} {us : List Value}, Rps K H ds vs → Vals vs us → EachIs (fun u d => ∃ v, RelV v u ∧ Rp K H d v) us ds
  | [], _, _, h, r => by cases h; cases r; exact .nil
  | d :: ds, _, _, ⟨v, t, e, a, b⟩, r => by
    subst e
    cases r with
    | cons r1 r2 => exact .cons ⟨v, r1, a⟩ (rps_each b r2)
theorem each_rps {K : PySem.W.Frag} {H : Hp} : ∀ {ds : List PyData} {us : List Value}, EachIs (fun u d => ∃ v, RelV v u ∧ Rp K H d v) us ds → ∃ vs, Vals vs us ∧ Rps K H ds vs
  | _, _, .nil => ⟨[], .nil, rfl⟩
  | _, _, .cons ⟨v, r, p⟩ t => by
    obtain ⟨vs, rs, ps⟩ := each_rps t
    exact ⟨v :: vs, .cons r rs, v, vs, rfl, p, ps⟩
theorem sem_sorted (c : Ct X k) : CallSem X (.builtin "sorted") sortP := by
  intro ds xs H t d Q sh hs q
  unfold sortP at hs
  split at hs
  · rename_i ys
    split at hs
    · rename_i hc
      cases hs
      simp only [Bool.and_eq_true] at hc
      obtain ⟨⟨hal, hso⟩, hdp⟩ := hc
      obtain ⟨u, r, rfl, ⟨p, vs, rfl, r1, a1⟩, rfl⟩ := sh
      intro pins s σ us I rv
      obtain ⟨its, rvs, hl, hz⟩ := I.list r1
      rw [Vals.ref1 rv]
      have e : EachIs (fun u d => ∃ v, RelV v u ∧ Rp X.K H d v) its ys := rps_each a1 rvs
      have er : EachIs (fun v d => ∃ as, Reads s.heap v d as) its ys := e.mono fun u d ⟨v, r, p⟩ => Rp.reads I.hok I.kIn d p r
      have al : PySem.W.AllAlike ys := fun d hd d' hd' => List.all_eq_true.mp (List.all_eq_true.mp hal d hd) d' hd'
      have hu : ∀ d, d ∈ ys → X.A.units + 2 + d.depth < cLine := fun d hd => by
        have h1 : d.depth ≤ 60 := of_decide_eq_true (List.all_eq_true.mp hdp d hd)
        have h2 := c.room.un
        omega
      have fin : ∀ out : List Value, out.length = its.length → EachIs (fun u d => ∃ v, RelV v u ∧ Rp X.K H d v) out (srt ys) → EP X pins σ Q (.ref (s.heap.objs.size + 1)) { s with heap := sortedAll s.heap its out.toArray } := fun out hl' eo => by
        obtain ⟨ws, rw', pw⟩ := each_rps eo
        obtain ⟨ep, he⟩ := PyProof.Rows.sortedAll_at s.heap its out.toArray
        have hn : H (s.heap.objs.size + 1) = none := I.hok.fresh (Nat.le_succ _)
        have ex : Ext H (upd H (s.heap.objs.size + 1) (.lst ws)) := Ext.new hn
        have lw := rw'.length
        have lv := rvs.length
        have nw : ObjOk X.prog X.w (upd H (s.heap.objs.size + 1) (.lst ws)) (PyProof.Rows.sortedAll s.heap its out.toArray) (s.heap.objs.size + 1) (.lst ws) := ⟨by omega, out, ep, rw', he⟩
        refine ⟨.ref (s.heap.objs.size + 1), _, I.laid (t' := s.toks) (fun _ _ => PyProof.Rows.sortedAll_old) (Nat.le_succ _) nw, rfl, q _ _ ex ⟨_, rfl, ⟨ws, upd_same, pw.mono ex.fz⟩, hn⟩⟩
      have ed : ∀ ds : List PyData, ds.map (fun d : PyData => d) = ds := fun ds => List.map_id' ds
      have lz : ys.length ≤ sizeLine := by rw [← a1.len]; exact hz
      have lv := rvs.length
      unfold sortsOk at hso
      rw [Bool.or_eq_true, Bool.or_eq_true] at hso
      rcases hso with (h1 | h1) | h1
      · refine PySem.W.sorted_data (enc := fun d : PyData => d) hl.isList e er (by rw [ed]; exact al) (.inl ?_) lz hu fun out h1 h2 => fin out (by rw [h1, ← a1.len, lv]) h2
        intro d hd
        rw [ed] at hd
        have := List.all_eq_true.mp h1 d hd
        match d, this with
        | .tuple (x :: r), _ => exact ⟨x, r, rfl⟩
      · refine PySem.W.sorted_data (enc := fun d : PyData => d) hl.isList e er (by rw [ed]; exact al) (.inr ?_) lz hu fun out h1 h2 => fin out (by rw [h1, ← a1.len, lv]) h2
        intro d hd
        rw [ed] at hd
        have := List.all_eq_true.mp h1 d hd
        exact ⟨fun z => by (subst z; cases this), fun xs z => by (subst z; cases this)⟩
      · split at h1
        · rename_i r
          refine sorted_empty hl.isList e er al (fun d hd => ?_) (by omega) hu fun out h1 h2 => fin out h1 h2
          have := List.all_eq_true.mp h1 d hd
          match d, this with
          | .tuple xs, _ => exact ⟨xs, rfl⟩
        · cases h1
    · cases hs
  · cases hs
end
end PP
set_option Elab.async false
set_option linter.all false
set_option maxRecDepth 100000
set_option maxHeartbeats 4000000
namespace PP
open PySem L2 PySem.Spec PyProof.Rows
/-! ## a, b = x, y; chained comparisons -/
section
variable {X : Cx} {a b c : Expr} {fa fb fc : FE} {pos px py pt pt2 : Pos} {x y : Str} {i j k kt k2 : Nat}
theorem RV.putAt {K : PySem.W.Frag} {mg : Str → Option Value} {H0 H : Hp} {φ : List Addr} {σ : L2.St} {sl : Sl} {t t1 : Tg} {v v1 : Vl} {u u1 : V} {s : Slot} (r : RV K mg H0 H φ σ sl t v u) (hs : slotOf t1 v1 = some s) (r1 : RV K mg H0 H φ σ sl t1 v1 u1) (ne : t = .fresh → t1 = .fresh → u ≠ u1) (i : Nat) (hl : i < sl.length) (hl2 : i < σ.length) :
    RV K mg H0 H φ (σ.set i (some u1)) (sl.set i s) t v u := by
  cases t with
  | pure => exact r
  | mine =>
    cases v with
    | py d => exact r
    | _ => exact r.elim
  | fresh =>
    cases v with
    | py d =>
      obtain ⟨p, rfl, o, h0, n, z⟩ := r
      refine ⟨p, rfl, o, h0, n, fun j d' hj g => ?_⟩
      by_cases e : i = j
      · subst e
        rw [List.getElem?_set_self hl] at hj
        rw [List.getElem?_set_self hl2] at g
        cases hj
        cases g
        cases t1 with
        | pure => cases hs
        | mine => cases hs
        | fresh => exact ne rfl rfl rfl
      · rw [List.getElem?_set_ne e] at hj g
        exact z j d' hj g
    | _ => exact r.elim
def fPar (i j : Nat) (fa fb : FE) : FS := fun sl S => bindS (fa sl S) sl fun t1 v1 S1 => bindS (fb sl S1) sl fun t2 v2 S2 => match slotOf t1 v1, slotOf t2 v2 with
  | some s1, some s2 => if i < sl.length ∧ j < sl.length then some (.nx ((sl.set i s1).set j s2) S2) else none
  | _, _ => none
theorem denS_par (ct : Ct X k) (hi : X.N[i]? = some x) (hj : X.N[j]? = some y) (hij : i ≠ j) (hx : X.env.scope.names.lookup x = some .local) (hy : X.env.scope.names.lookup y = some .local) (ha : Den X a fa) (hb : Den X b fb)
    (h1 : starEach [a, b] X.env = (false, eval a X.env) :: starEach [b] X.env) (h2 : starEach [b] X.env = (false, eval b X.env) :: starEach [] X.env)
    (hw : swappedStores [.Tuple [.Name x px, .Name y py] kt pt] (.Tuple [a, b] k2 pt2) X.env = pure (some [x, y])) (hs : swapsWithSole [.Tuple [.Name x px, .Name y py] kt pt] (.Tuple [a, b] k2 pt2) pos.line X.env = pure false) :
    DenS1 X (.Assign [.Tuple [.Name x px, .Name y py] kt pt] (.Tuple [a, b] k2 pt2) pos) (fPar i j fa fb) := by
  refine .mk ?_; intro H0 φ0 φ σ H sl S r R hf D W tk post
  refine wS1.of (ps_par ct.calm ct.nd hi hj hij hx hy (pa_cons wE.pe (pa_cons wE.pe pa_nil h2) h1) hw hs) ?_
  refine den_thenS ha R tk hf post fun t1 v1 S1 u1 H1 φ1 hk R1 l1 rv1 fr1 => ?_
  refine den_thenS hb R1 tk hk (post.fz l1.fz) fun t2 v2 S2 u2 H2 φ2 hk2 R2 l2 rv2 fr2 => ?_
  split at hk2
  · rename_i s1 s2 e1 e2
    split at hk2
    · rename_i hl
      cases hk2
      have rv1' := rv1.le l2
      refine ⟨u1, u2, rfl, post _ H2 φ2 ((R2.put rv1' e1 i).put (rv2.putAt e1 rv1' (fun z2 z1 e => ?_) i hl.1 (by rw [R.len]; exact hl.1)) e2 j) (l1.fz.trans l2.fz)⟩
      subst z1 z2
      cases v2 with
      | py d2 =>
        obtain ⟨p2, e3, _⟩ := rv2
        have n2 := fr2 rfl p2 e3
        cases v1 with
        | py d1 =>
          obtain ⟨p1, e4, o1, _⟩ := rv1
          obtain ⟨o, eo, _⟩ := o1.mu
          rw [e3, e4] at e
          cases e
          rw [n2] at eo
          cases eo
        | _ => exact rv1.elim
      | _ => exact rv2.elim
    · cases hk2
  · cases hk2
/-- a o b o' c -/
def fChain (s1 s2 : PyData → PyData → Option (Tg × PyData)) (fa fb fc : FE) : FE := fun sl S => bindE (fa sl S) fun _ v1 S1 => bindE (fb sl S1) fun t2 v2 S2 =>
  match t2, cont S2 v1, cont S2 v2 with
  | .pure, some d1, some d2 => match s1 d1 d2 with
    | some (_, .bool true) => bindE (fc sl S2) fun _ v3 S3 => match cont S3 v2, cont S3 v3 with
      | some d2', some d3 => match s2 d2' d3 with
        | some (_, .bool e) => some (.val .pure (.py (.bool e)) S3)
        | _ => none
      | _, _ => none
    | some (_, .bool false) => some (.val .pure (.py (.bool false)) S2)
    | _ => none
  | _, _, _ => none
theorem RO.bl {K : PySem.W.Frag} {H H' : Hp} {t : Tg} {e : Bool} {u : V} (r : RO K H H' t (.bool e) u) : u = .bl e := by
  cases t with
  | pure => exact r
  | fresh => obtain ⟨_, _, o, _⟩ := r; exact o.elim
  | mine => exact r.elim
theorem chain_go {o1 o2 : Value → Value → Sem Value} {s1 s2 : PyData → PyData → Option (Tg × PyData)} (hop1 : BinSem X o1 s1) (hop2 : BinSem X o2 s2) (ha : Den X a fa) (hb : Den X b fb) (hc : Den X c fc)
    {H0 : Hp} {φ0 φ : List Addr} {σ : L2.St} {H : Hp} {sl : Sl} {S : SS} {r : ER} {Q : VK} {W : WX} (R : Rel X.K X.mg H0 φ0 φ σ H sl S) (tk : Takes X W) (hf : fChain s1 s2 fa fb fc sl S = some r) (post : Post X H0 φ0 φ σ H sl Q W r) :
    tChain (OpRun X o1) (OpRun X o2) (wE X a) (wE X b) (wE X c) σ H Q := by
  refine den_then ha R tk hf post fun t1 v1 S1 u1 H1 φ1 hk R1 l1 rv1 post1 => ?_
  refine den_then hb R1 tk hk post1 fun t2 v2 S2 u2 H2 φ2 hk2 R2 l2 rv2 post2 => ?_
  split at hk2
  · rename_i d1 d2 c1 c2
    split at hk2
    · rename_i tt e1
      refine hop1 d1 d2 u1 u2 H2 _ _ _ ((rv1.le l2).sh R2 c1) (rv2.sh R2 c2) e1 fun u H' ex ro => ?_
      have := ro.bl
      subst this
      refine ⟨true, rfl, ?_⟩
      have R3 := R2.ext ex
      rw [if_pos rfl]
      refine den_then hc R3 tk hk2 (Post.le ex.le R3 post2) fun t3 v3 S3 u3 H3 φ3 hk3 R4 l3 rv3 post3 => ?_
      split at hk3
      · rename_i d2' d3 c3 c4
        split at hk3
        · rename_i tt' e e2
          cases hk3
          have rv2' := (rv2.le ex.le).le l3
          exact hop2 d2' d3 u2 u3 H3 _ _ _ (rv2'.sh R4 c3) (rv3.sh R4 c4) e2 fun u' H'' ex' ro' => post3 u' H'' φ3 (R4.ext ex') ex'.le (by obtain rfl := ro'.bl; rfl) (fun z => nomatch z)
        · cases hk3
      · cases hk3
    · rename_i tt e1
      cases hk2
      refine hop1 d1 d2 u1 u2 H2 _ _ _ ((rv1.le l2).sh R2 c1) (rv2.sh R2 c2) e1 fun u H' ex ro => ?_
      have := ro.bl
      subst this
      refine ⟨false, rfl, ?_⟩
      rw [if_neg Bool.false_ne_true]
      exact post2 _ H' φ2 (R2.ext ex) ex.le rfl (fun z => nomatch z)
    · cases hk2
  · cases hk2
theorem den_chain {op op' : CmpOp} {s1 s2 : PyData → PyData → Option (Tg × PyData)} (hop1 : BinSem X (compareOp op) s1) (hop2 : BinSem X (compareOp op') s2) (ha : Den X a fa) (hb : Den X b fb) (hc : Den X c fc) (hm : lastMarks [op, op'] [b, c] = false) :
    Den X (.Compare a [op, op'] [b, c] pos) (fChain s1 s2 fa fb fc) := by
  refine .mk ?_; intro H0 φ0 φ σ H sl S r R hf Q W tk post
  exact wE.of (pe_chain OpRun.op OpRun.op wE.pe wE.pe wE.pe hm) (chain_go hop1 hop2 ha hb hc R tk hf post)
theorem denT_chain {op op' : CmpOp} {s1 s2 : PyData → PyData → Option (Tg × PyData)} (hop1 : BinSem X (compareOp op) s1) (hop2 : BinSem X (compareOp op') s2) (ha : Den X a fa) (hb : Den X b fb) (hc : Den X c fc) (hm : lastMarks [op, op'] [b, c] = false) :
    DenT X (.Compare a [op, op'] [b, c] pos) (fTb (fChain s1 s2 fa fb fc)) := by
  refine .mk ?_; intro H0 φ0 φ σ H sl S r R hf Q W tk post
  obtain ⟨r', h1, p⟩ := post_bool hf post
  exact wT.of (pt_chain OpRun.op OpRun.op wE.pe wE.pe wE.pe hm) (chain_go hop1 hop2 ha hb hc R tk h1 p)
end
end PP
set_option Elab.async false
set_option linter.all false
set_option maxRecDepth 100000
set_option maxHeartbeats 4000000
namespace PP
open PySem L2 PySem.Spec PyProof.Rows
/-! ## short forms for derivations that a program prints -/
section
variable {X : Cx} {x T : Str} {pos p p2 apos : Pos} {e f a : Expr} {es : List Expr} {fe ff : FE} {g : FA} {k n : Nat} {F : FF}
theorem den_gstr {s : Str} (hg : Gl X x) (h : ∃ t, X.mg x = some (.str s t)) (hd : (x == ("__debug__" : Str)) = false) : Den X (.Name x pos) (fC (.str s)) := by
  obtain ⟨t, h⟩ := h
  exact den_glob hg h (v := .str s) ⟨t, rfl⟩ (fun _ => rfl) hd
theorem den_gint {i : Int} (hg : Gl X x) (h : ∃ t, X.mg x = some (.int i t)) (hd : (x == ("__debug__" : Str)) = false) : Den X (.Name x pos) (fC (.int i)) := by
  obtain ⟨t, h⟩ := h
  exact den_glob hg h (v := .int i) ⟨t, rfl⟩ (fun _ => rfl) hd
abbrev TabAt (K : PySem.W.Frag) (w : World) (mg : Str → Option Value) (T : Str) (kvs : List (Str × PyData)) : Prop := ∃ p, mg T = some (.ref p) ∧ TabOk K w p kvs
theorem den_tIn {kvs : List (Str × PyData)} (hg : Gl X T) (h : TabAt X.K X.w X.mg T kvs) (he : Den X e fe) (hdb : (T == ("__debug__" : Str)) = false) (hmk : behindInMarks .In (.Name T p2) = false) : Den X (.Compare e [.In] [.Name T p2] pos) (fTabIn false kvs fe) :=
  let ⟨_, hm, tb⟩ := h; den_tabIn hg hm tb he hdb hmk
theorem denT_tIn {kvs : List (Str × PyData)} (hg : Gl X T) (h : TabAt X.K X.w X.mg T kvs) (he : Den X e fe) (hdb : (T == ("__debug__" : Str)) = false) (hmk : behindInMarks .In (.Name T p2) = false) : DenT X (.Compare e [.In] [.Name T p2] pos) (fTb (fTabIn false kvs fe)) :=
  let ⟨_, hm, tb⟩ := h; denT_tabIn hg hm tb he hdb hmk
def fTabNotIn (kvs : List (Str × PyData)) (f : FE) : FE := fTabIn true kvs f
theorem den_tNotIn {kvs : List (Str × PyData)} (hg : Gl X T) (h : TabAt X.K X.w X.mg T kvs) (he : Den X e fe) (hdb : (T == ("__debug__" : Str)) = false) (hmk : behindInMarks .NotIn (.Name T p2) = false) : Den X (.Compare e [.NotIn] [.Name T p2] pos) (fTabIn true kvs fe) :=
  let ⟨_, hm, tb⟩ := h; .mk fun H0 φ0 φ σ H sl S r R hf Q W tk post => wE.of (pe_cmpR OpRun.op wE.pe wE.pe hmk) (tabIn_go hg hm tb he hdb (fun es n kd => op_notInT kd) R tk hf post)
theorem denT_tNotIn {kvs : List (Str × PyData)} (hg : Gl X T) (h : TabAt X.K X.w X.mg T kvs) (he : Den X e fe) (hdb : (T == ("__debug__" : Str)) = false) (hmk : behindInMarks .NotIn (.Name T p2) = false) : DenT X (.Compare e [.NotIn] [.Name T p2] pos) (fTb (fTabIn true kvs fe)) :=
  let ⟨_, hm, tb⟩ := h; .mk fun H0 φ0 φ σ H sl S r R hf Q W tk post => by
    obtain ⟨r', h1, q⟩ := post_bool hf post
    exact wT.of (pt_cmpR OpRun.op wE.pe wE.pe hmk) (tabIn_go hg hm tb he hdb (fun es n kd => op_notInT kd) R tk h1 q)
theorem den_tIx {kvs : List (Str × PyData)} (hg : Gl X T) (h : TabAt X.K X.w X.mg T kvs) (he : Den X e fe) (hdb : (T == ("__debug__" : Str)) = false) (hs : PlainIx e) : Den X (.Subscript (.Name T p2) e pos) (fTabIx kvs fe) :=
  let ⟨_, hm, tb⟩ := h; den_tabIx hg hm tb he hdb hs
theorem den_tGet {kvs : List (Str × PyData)} (hg : Gl X T) (h : TabAt X.K X.w X.mg T kvs) (he : Den X e fe) (hff : Den X f ff) (hdb : (T == ("__debug__" : Str)) = false) (m : M2 X (.Name T p2) "get" apos e f pos) :
    Den X (.Call (.Attribute (.Name T p2) "get" apos) [e, f] [] pos) (fTabGet kvs fe ff) :=
  let ⟨_, hm, tb⟩ := h; den_tabGet hg hm tb he hff hdb m
/-- -e -/
def fNeg (f : FE) : FE := fun sl S => bindE (f sl S) fun _ v S1 => match v with
  | .py (.int i) => some (.val .pure (.py (.int (-i))) S1)
  | _ => none
theorem den_neg (he : Den X e fe) : Den X (.UnaryOp .USub e pos) (fNeg fe) := by
  refine .mk ?_; intro H0 φ0 φ σ H sl S r R hf Q W tk post
  refine wE.of (pe_un un_neg wE.pe) (den_then he R tk hf post fun t v S1 u H1 φ1 hk R1 l1 rv post1 => ?_)
  split at hk
  · rename_i i
    cases hk
    obtain rfl := rv.int
    exact ⟨i, rfl, post1 _ H1 φ1 R1 (Le.refl _ _) rfl (fun z => nomatch z)⟩
  · cases hk
/-- what is known of a def, at a level -/
def CK (P : Program) (w : World) (K : PySem.W.Frag) (mg : Str → Option Value) (base : Heap) (k : Nat) (f : Str) (n : Nat) (F : FF) : Prop :=
  ∃ (fa : Addr) (fd : FuncData) (ps : List Str), ps.length = n ∧ mg f = some (.ref fa) ∧ PySem.W.keepIn K (.ref fa) = true ∧ Binds K fd ps [] ∧ FnG P w K mg base k fa fd ps (spF K mg F ps.length)
theorem CK.ok (h : CK X.prog X.w X.K X.mg X.base k x n F) : CallOk X k x n F := ⟨h⟩
def CKK (P : Program) (w : World) (K : PySem.W.Frag) (mg : Str → Option Value) (base : Heap) (k : Nat) (f : Str) (ks : List Str) (perm : List Nat) (n : Nat) (F : FF) : Prop :=
  ∃ (fa : Addr) (fd : FuncData) (ps : List Str), ps.length = n ∧ mg f = some (.ref fa) ∧ PySem.W.keepIn K (.ref fa) = true ∧
    (∀ (s : Shared) (ws : List Value), ws.length = ks.length → (pick perm ws).length = n → BindsTo s fd ⟨[], ks.zip ws⟩ (ps.zip (pick perm ws))) ∧ FnG P w K mg base k fa fd ps (spF K mg F ps.length)
theorem CKK.ok {ks : List Str} {perm : List Nat} (h : CKK X.prog X.w X.K X.mg X.base k x ks perm n F) : CallKOk X k x ks perm n F := ⟨h⟩
/-- a context of the same def -/
theorem Ct.blk {scope : Scope} {s : Shared} {H : Hp} {C : Addr} {cl : List (Str × Addr)} {fp : List Addr} (c : Ct X k) : Ct (Bk X scope s H C cl fp) k := ⟨c.room, c.gd, c.calm, c.nd⟩
theorem Ct.tr {pn : List (Addr × Obj)} {xe : Value → Shared → Prop} (c : Ct X k) : Ct (X.tr pn xe) k := ⟨c.room, c.gd, c.calm, c.nd⟩
/-- what is known of the error classes -/
def ErrsOk (P : Program) (K : PySem.W.Frag) (mg : Str → Option Value) (R fI : Addr) (cs : List Str) : Prop :=
  ∀ c, cs.contains c = true → ∃ C, mg c = some (.ref C) ∧ ErrTxt P K C R fI ∧ ErrCls K C ∧ PySem.W.exmOne K (.ref C) (.ref R) = some true
theorem ErrsOk.at {R fI : Addr} {cs : List Str} {c : Str} (h : ErrsOk X.prog X.K X.mg R fI cs) (hc : cs.contains c = true) : ErrOk X R fI c := ⟨h c hc⟩
theorem den_fnE (hg : Gl X x) (h : ∃ a, X.mg x = some (.ref a)) (hd : (x == ("__debug__" : Str)) = false) : Den X (.Name x pos) (fFn x) :=
  let ⟨_, hm⟩ := h; den_fn hg hm hd
/-- isinstance(e, T), T an own error class, or a built-in one -/
abbrev IsiAt (K : PySem.W.Frag) (mg : Str → Option Value) (tab : List (Str × Bool)) (u : Value) : Prop :=
  (∀ c b, tab.lookup c = some b → ∃ C, mg c = some (.ref C) ∧ ErrCls K C ∧ PySem.W.kitOne K (.ref C) u = some b) ∧ PySem.W.kitOne K (.type "NoneType") u = some false
theorem den_isiG {q : Pos} {tab : List (Str × Bool)} (h : Den X e fe) (hi : Gl X "isinstance") (mi : X.mg "isinstance" = none) (hg : Gl X T) (hd : (T == ("__debug__" : Str)) = false) (hT : ∃ CT, X.mg T = some (.ref CT) ∧ IsiAt X.K X.mg tab (.ref CT))
    (h1 : starEach [e, .Name T q] X.env = (false, eval e X.env) :: starEach [.Name T q] X.env) (h2 : starEach [.Name T q] X.env = (false, eval (.Name T q) X.env) :: starEach [] X.env) (hpl : (backTo pos (starEach [.Name T q] X.env)).any (·.1) = false) :
    Den X (.Call (.Name "isinstance" p) [e, .Name T q] [] pos) (fIsiC tab fe) :=
  let ⟨CT, hm, t1, t2⟩ := hT; den_isiC h hi mi (pe_glob (v := .ref CT) hg hm rfl hd) (.own CT) t1 t2 h1 h2 hpl
theorem den_isiB {q : Pos} {tab : List (Str × Bool)} {n : String} (h : Den X e fe) (hi : Gl X "isinstance") (mi : X.mg "isinstance" = none) (hg : Gl X T) (hm : X.mg T = none) (hv : bootBuiltins T = some (.type n)) (hn : T ≠ "__name__") (hd : (T == ("__debug__" : Str)) = false) (hT : IsiAt X.K X.mg tab (.type n))
    (h1 : starEach [e, .Name T q] X.env = (false, eval e X.env) :: starEach [.Name T q] X.env) (h2 : starEach [.Name T q] X.env = (false, eval (.Name T q) X.env) :: starEach [] X.env) (hpl : (backTo pos (starEach [.Name T q] X.env)).any (·.1) = false) :
    Den X (.Call (.Name "isinstance" p) [e, .Name T q] [] pos) (fIsiC tab fe) :=
  den_isiC h hi mi (pe_bltn (v := .ty n) hg hm hv rfl hn hd) (.ty n) hT.1 hT.2 h1 h2 hpl
/-- (a, ..) = e -/
def fAsg (f : FE) (g : PyData → Sl → Option Sl) : FS := fun sl S => bindS (f sl S) sl fun t v S1 => match t, v with
  | .pure, .py d => match g d sl with
    | some sl' => some (.nx sl' S1)
    | none => none
  | _, _ => none
theorem denS_asg {tg : Expr} {is : List Nat} {gg : PyData → Sl → Option Sl} (h : Den X e fe) (hg : DenG X tg is gg) (hs : swapsWithSole [tg] e pos.line X.env = pure false) (hw : swappedStores [tg] e X.env = pure none)
    (h1 : (assignEach [tg] X.env).map (·.2) = [assign tg X.env]) : DenS1 X (.Assign [tg] e pos) (fAsg fe gg) := by
  refine .mk ?_; intro H0 φ0 φ σ H sl S r R hf D W tk post
  refine wS1.of (ps_asg wE.pe wG.pg hs hw h1) (den_thenS h R tk hf post fun t v S1 u H1 φ1 hk R1 l1 rv fr => ?_)
  split at hk
  · rename_i d
    split at hk
    · rename_i sl' e1
      cases hk
      exact hg H0 φ0 φ1 σ H1 sl sl' S1 d u R1 rv e1 _ fun σ' R' _ => post σ' H1 φ1 R' l1.fz
    · cases hk
  · cases hk
end
end PP
set_option Elab.async false
set_option linter.all false
set_option maxRecDepth 100000
set_option maxHeartbeats 4000000
namespace PP
open PySem L2 PySem.Spec PyProof.Rows
/-! ## written data -/
mutual
def litE : Nat → Expr → Option (Tg × PyData)
  | 0, _ => none
  | n + 1, e => match e with
    | .Constant c _ _ => match c with
      | .int i => some (.pure, .int i)
      | .bool b => some (.pure, .bool b)
      | .str s => some (.pure, .str s)
      | .none => some (.pure, .none)
      | _ => none
    | .UnaryOp op a _ => match op, litE n a with
      | .USub, some (.pure, .int i) => some (.pure, .int (-i))
      | _, _ => none
    | .Tuple es _ _ => match litEs n es with
      | some ds => if ds.length ≤ LIM then some (.pure, .tuple ds) else none
      | none => none
    | .List es _ => match litEs n es with
      | some ds => if ds.length ≤ LIM then some (.fresh, .list ds) else none
      | none => none
    | .Dict ks vs _ => match ks, vs with
      | [], [] => some (.fresh, .dict [])
      | _, _ => none
    | _ => none
def litEs : Nat → List Expr → Option (List PyData)
  | 0, _ => none
  | n + 1, es => match es with
    | [] => some []
    | e :: r => match litE n e, litEs n r with
      | some (_, d), some ds => some (d :: ds)
      | _, _ => none
end
def fLit (t : Tg) (d : PyData) : FE := fun _ S => some (.val t (.py d) S)
def faLit (ds : List PyData) : FA := fun _ S => some (.vals (ds.map fun d => (.pure, .py d)) S)
theorem pys_lit : ∀ ds : List PyData, pys (ds.map fun d => (Tg.pure, Vl.py d)) = some ds
  | [] => rfl
  | d :: ds => by
    show (match pys (ds.map fun d => (Tg.pure, Vl.py d)) with
      | some ds => some (d :: ds)
      | none => none) = some (d :: ds)
    rw [pys_lit ds]
theorem Den.same {X : Cx} {e : Expr} {f g : FE} (h : Den X e f) (q : ∀ sl S r, g sl S = some r → f sl S = some r) : Den X e g := .mk fun H0 φ0 φ σ H sl S r R hg => h H0 φ0 φ σ H sl S r R (q sl S r hg)
theorem DenA.same {X : Cx} {es : List Expr} {f g : FA} (h : DenA X es f) (q : ∀ sl S r, g sl S = some r → f sl S = some r) : DenA X es g := .mk fun H0 φ0 φ σ H sl S r R hg => h H0 φ0 φ σ H sl S r R (q sl S r hg)
theorem lit_star {n : Nat} {e : Expr} {es : List Expr} {env : Env} {t : Tg} {d : PyData} (h : litE n e = some (t, d)) : starEach (e :: es) env = (false, eval e env) :: starEach es env := by
  cases n with
  | zero => cases h
  | succ n => cases e <;> first | rfl | cases h
section
variable {X : Cx}
mutual
theorem den_lit : ∀ (n : Nat) {e : Expr} {t : Tg} {d : PyData}, litE n e = some (t, d) → Den X e (fLit t d)
  | 0, _, _, _, h => by cases h
  | n + 1, e, t, d, h => by
    unfold litE at h
    split at h
    · split at h
      · cases h; exact den_int
      · cases h; exact den_bl
      · cases h; exact den_str
      · cases h; exact den_non
      · cases h
    · split at h
      · rename_i a _ _ i e1
        cases h
        refine (den_neg (den_lit n e1)).same fun sl S r q => ?_
        exact q
      · cases h
    · split at h
      · rename_i ds e1
        split at h
        · rename_i hl
          cases h
          refine (den_tup (denA_lit n e1)).same fun sl S r q => ?_
          show (match pys (ds.map fun d => (Tg.pure, Vl.py d)) with
            | some ds => if ds.length ≤ LIM then some (.val .pure (.py (.tuple ds)) S) else none
            | none => none) = some r
          rw [pys_lit]
          dsimp only
          rw [if_pos hl]
          exact q
        · cases h
      · cases h
    · split at h
      · rename_i ds e1
        split at h
        · rename_i hl
          cases h
          refine (den_lst (denA_lit n e1)).same fun sl S r q => ?_
          show (match pys (ds.map fun d => (Tg.pure, Vl.py d)) with
            | some ds => if ds.length ≤ LIM then some (.val .fresh (.py (.list ds)) S) else none
            | none => none) = some r
          rw [pys_lit]
          dsimp only
          rw [if_pos hl]
          exact q
        · cases h
      · cases h
    · split at h
      · cases h
        exact den_dnew
      · cases h
    · cases h
theorem denA_lit : ∀ (n : Nat) {es : List Expr} {ds : List PyData}, litEs n es = some ds → DenA X es (faLit ds)
  | 0, _, _, h => by cases h
  | n + 1, es, ds, h => by
    unfold litEs at h
    split at h
    · cases h
      exact denA_nil
    · split at h
      · rename_i t d ds' e1 e2
        cases h
        refine (denA_cons (den_fz (den_lit n e1)) (denA_lit n e2) (lit_star e1)).same fun sl S r q => ?_
        cases t with
        | pure => exact q
        | fresh => exact q
        | mine =>
          exfalso
          clear q
          cases n with
          | zero => cases e1
          | succ m =>
            unfold litE at e1
            repeat (first | cases e1 | split at e1)
      · cases h
end
end
end PP
set_option Elab.async false
set_option linter.all false
set_option maxRecDepth 100000
set_option maxHeartbeats 4000000
namespace PP
open PySem L2 PySem.Spec PyProof.Rows He
/-! ## the head: what is known behind the top, read off by a hook -/
/-- the goal that the head leaves; what is known is told by a hook -/
theorem walk_ofGE {l : PySem.W.OpenLaw} {n k : Nat} {q : Program} {loose : List Str} {XP : (Str → Option Value) → Heap → Prop} {YP : World → Heap → Prop} {d : DefRec} {x : Str}
    (hn : l.most = some n) (hn2 : n ≤ sizeLine) (hdf : d.params.defaults = []) (hr : Room k callerA) (gd : callerA.guards = some [])
    (hF : ∀ (w : World) (mg : Str → Option Value) (fa : Addr) (h : Heap), YP w h → h.Ns mainGlobals mg → mg d.name = some (.ref fa) →
      ∃ (K : PySem.W.Frag) (fd : FuncData) (F : FF), K.In h ∧ (∀ (s : Shared) (u : Value), BindsTo s fd ⟨[u], []⟩ [(x, u)]) ∧ (∀ base : Heap, K.In base → base.Ns mainGlobals mg → FnG l.prog w K mg base k fa fd [x] (spF K mg F 1)) ∧
        ∀ ns : List Int, ns.length ≤ n → ∃ t S, F [.py (.list (ns.map PyData.int))] [] = some (.val t (.py (.bool true)) S)) :
    PySem.W.WalkO q loose XP YP l.row.toRowW d [] (fun f vs => PySem.call f vs) := by
  refine Att.attach_call hn hdf fun w s₀ s₁ mg mb fa o pm cd doc a vs ns G Y ho hd hcd hmg hobj hints hlen hg => ?_
  obtain ⟨K, fd, F, KX, hb, hG, hsp⟩ := hF w mg fa _ Y G.T.g hmg
  refine law_callG KX G.T.g G.T.b G.T.builtins G.T.nolimit hg hobj hints (Nat.le_trans hlen hn2) hr gd hG hb fun H fz => ?_
  obtain ⟨t, S, e⟩ := hsp ns hlen
  have rp : Rps K H (ns.map PyData.int) (ns.map V.int) := by
    clear fz hlen hints e
    induction ns with
    | nil => rfl
    | cons i ns ih => exact ⟨.int i, _, rfl, rfl, ih⟩
  refine ⟨[], [], [.py (.list (ns.map PyData.int))], _, rfl, ⟨.ref a, [], rfl, ⟨a, _, rfl, fz, rp⟩, rfl⟩, ⟨rfl, List.nodup_nil, fun k a d h => nomatch h⟩, e, fun u H' φ' l b rf => ?_⟩
  cases t with
  | pure => exact rf
  | fresh => obtain ⟨_, _, o, _⟩ := rf; exact o.elim
  | mine => obtain ⟨_, _, o, _⟩ := rf; exact o.elim
/-! ### a def -/
section
variable {P : Program} {w : World} {K : PySem.W.Frag} {mg : Str → Option Value} {base : Heap} {x qual : Str} {params : Arguments} {body : List Stmt} {scope : Scope} {f : Addr} {fd : FuncData} {N ps : List Str} {k : Nat} {fb : FS}
theorem fnG_D (F : FunD K x qual params body scope [] [] f fd) (S : FnScope N ps scope)
    (hbody : ∀ (cdv : Value) (A : Around) (outer : List Env) (s : Shared) (H : Hp) (E : XK), Room (k + 1) A → A.guards = some [] → DenS (BX P w K mg base N qual scope f cdv A outer s H E) body fb) :
    FnG P w K mg base (k + 1) f fd ps (spF K mg (funF N.length ps.length fb) ps.length) := by
  obtain ⟨oc, od, dV, kV, doc, pm, an, cdv, ct, osl, rfl, lk, hcd, hD, _⟩ := F.ex
  rcases hD with ⟨_, rfl⟩ | ⟨e, _⟩
  · exact fnG_of lk hcd S (hbody cdv)
  · exact absurd rfl e
theorem fnG_zero {sp : Sp} (h : ∀ vs H Q E, sp vs H Q E → False) : FnG P w K mg base 0 f fd ps sp := ⟨fun vs H Q E z => (h vs H Q E z).elim, fun A outer s H args us vs Q E _ _ _ _ _ z => (h vs H Q E z).elim⟩
theorem spF_none {n : Nat} (vs : List V) (H : Hp) (Q : VK) (E : XK) : spF K mg (fun _ _ => none) n vs H Q E → False := fun ⟨_, _, _, _, _, _, _, e, _⟩ => by cases e
theorem ck_of {F : FF} (D : FunD K x qual params body scope [] [] f fd) (hm : mg x = some (.ref f)) (hb : ∀ (kV doc pm : Value) (an : Option Addr) (cdv ct : Value) (us : List Value), us.length = ps.length → bindArgs (PySem.W.fnOf x qual params body scope .none kV doc pm an cdv ct) ⟨us, []⟩ = pure (ps.zip us))
    (G : FnG P w K mg base k f fd ps (spF K mg F ps.length)) : CK P w K mg base k x ps.length F := ⟨f, fd, ps, rfl, hm, D.kp, D.bindsN hb, G⟩
theorem ckk_of {F : FF} {ks : List Str} {perm : List Nat} (D : FunD K x qual params body scope [] [] f fd) (hm : mg x = some (.ref f))
    (hb : ∀ (kV doc pm : Value) (an : Option Addr) (cdv ct : Value) (us : List Value), us.length = ks.length → bindArgs (PySem.W.fnOf x qual params body scope .none kV doc pm an cdv ct) ⟨[], ks.zip us⟩ = pure (ps.zip (pick perm us)))
    (G : FnG P w K mg base k f fd ps (spF K mg F ps.length)) : CKK P w K mg base k x ks perm ps.length F := by
  have kp := D.kp
  obtain ⟨oc, od, dV, kV, doc, pm, an, cdv, ct, osl, rfl, lk, hcd, hD, _⟩ := D.ex
  rcases hD with ⟨_, rfl⟩ | ⟨e, _⟩
  · exact ⟨f, _, ps, rfl, hm, kp, fun s ws h _ => .of_eq (hb kV doc pm an cdv ct ws h), G⟩
  · exact absurd rfl e
end
/-! ### data that stand behind the top -/
mutual
def rpB (K : PySem.W.Frag) : PyData → Value → Bool
  | .none, .none => true
  | .bool b, .bool c => b == c
  | .int i, .int j _ => decide (i = j)
  | .str x, .str y _ => decide (x = y)
  | .tuple ds, .ref a => (match K.lookup a with
    | some ⟨.type c, _, .seq its _, _⟩ => decide (c = "tuple") && (decide (its.size ≤ sizeLine) && rpsB K ds its.toList)
    | _ => false)
  | .list ds, .ref a => (match K.lookup a with
    | some ⟨.type c, none, .seq its _, _⟩ => decide (c = "list") && (decide (its.size ≤ sizeLine) && rpsB K ds its.toList)
    | _ => false)
  | _, _ => false
def rpsB (K : PySem.W.Frag) : List PyData → List Value → Bool
  | [], [] => true
  | d :: ds, u :: us => rpB K d u && rpsB K ds us
  | _, _ => false
end
mutual
theorem rpB_ok {K : PySem.W.Frag} : ∀ {d : PyData} {u : Value}, rpB K d u = true → ∃ v, RelV v u ∧ ∀ H, Rp K H d v
  | .none, u, h => by
    cases u with
    | none => exact ⟨.non, rfl, fun _ => rfl⟩
    | _ => simp [rpB] at h
  | .bool b, u, h => by
    cases u with
    | bool c =>
      simp only [rpB, beq_iff_eq] at h
      subst h
      exact ⟨.bl b, rfl, fun _ => rfl⟩
    | _ => simp [rpB] at h
  | .int i, u, h => by
    cases u with
    | int j t =>
      simp only [rpB, decide_eq_true_eq] at h
      subst h
      exact ⟨.int i, ⟨t, rfl⟩, fun _ => rfl⟩
    | _ => simp [rpB] at h
  | .str x, u, h => by
    cases u with
    | str y t =>
      simp only [rpB, decide_eq_true_eq] at h
      subst h
      exact ⟨.str x, ⟨t, rfl⟩, fun _ => rfl⟩
    | _ => simp [rpB] at h
  | .dict kvs, u, h => by cases u <;> simp [rpB] at h
  | .tuple ds, u, h => by
    cases u with
    | ref a =>
      simp only [rpB] at h
      split at h
      · rename_i c dd its n sl lk
        obtain ⟨h1, h2⟩ := ba h
        obtain ⟨h3, h4⟩ := ba h2
        obtain ⟨vs, rv, rp⟩ := rpsB_ok h4
        exact ⟨.ref a, rfl, fun H => ⟨a, vs, rfl, .inr ⟨_, its, n, lk, congrArg Value.type (of_decide_eq_true h1), rfl, of_decide_eq_true h3, rv⟩, rp H⟩⟩
      · cases h
    | _ => simp [rpB] at h
  | .list ds, u, h => by
    cases u with
    | ref a =>
      simp only [rpB] at h
      split at h
      · rename_i c its n sl lk
        obtain ⟨h1, h2⟩ := ba h
        obtain ⟨h3, h4⟩ := ba h2
        obtain ⟨vs, rv, rp⟩ := rpsB_ok h4
        exact ⟨.ref a, rfl, fun H => ⟨a, vs, rfl, .inr ⟨_, its, n, lk, congrArg Value.type (of_decide_eq_true h1), rfl, rfl, of_decide_eq_true h3, rv⟩, rp H⟩⟩
      · cases h
    | _ => simp [rpB] at h
theorem rpsB_ok {K : PySem.W.Frag} : ∀ {ds : List PyData} {us : List Value}, rpsB K ds us = true → ∃ vs, Vals vs us ∧ ∀ H, Rps K H ds vs
  | [], us, h => by
    cases us with
    | nil => exact ⟨[], .nil, fun _ => rfl⟩
    | cons u us => simp [rpsB] at h
  | d :: ds, us, h => by
    cases us with
    | nil => simp [rpsB] at h
    | cons u us =>
      simp only [rpsB] at h
      obtain ⟨h1, h2⟩ := ba h
      obtain ⟨v, r1, p1⟩ := rpB_ok h1
      obtain ⟨vs, r2, p2⟩ := rpsB_ok h2
      exact ⟨v :: vs, .cons r1 r2, fun H => ⟨v, vs, rfl, p1 H, p2 H⟩⟩
end
def entB (K : PySem.W.Frag) : List DictEntry → List (Str × PyData) → Bool
  | [], [] => true
  | e :: es, (k, d) :: r => (match e.key with
    | .str x _ => decide (x = k)
    | _ => false) && (rpB K d e.val && entB K es r)
  | _, _ => false
def tabB (K : PySem.W.Frag) (x : Str) (kvs : List (Str × PyData)) : Bool := match K.lookup (ga K x) with
  | some ⟨_, _, .dict es _, _⟩ => entB K es.toList kvs
  | _ => false
theorem entB_ok {K : PySem.W.Frag} : ∀ {es : List DictEntry} {kvs : List (Str × PyData)}, entB K es kvs = true → (es.any (·.refKey)) = false ∧ ∀ z : Str,
    (es.find? (·.key.isStr z) = none ∧ kvs.lookup z = none) ∨ ∃ e d v, es.find? (·.key.isStr z) = some e ∧ kvs.lookup z = some d ∧ RelV v e.val ∧ ∀ H, Rp K H d v
  | [], [], _ => ⟨rfl, fun z => .inl ⟨rfl, rfl⟩⟩
  | [], _ :: _, h => by simp [entB] at h
  | _ :: _, [], h => by simp [entB] at h
  | e :: es, (k, d) :: r, h => by
    simp only [entB] at h
    obtain ⟨h1, h2⟩ := ba h
    obtain ⟨h3, h4⟩ := ba h2
    obtain ⟨ih1, ih2⟩ := entB_ok h4
    have hk : ∃ t, e.key = .str k t := by
      cases q : e.key with
      | str x t =>
        rw [q] at h1
        have : x = k := of_decide_eq_true h1
        exact ⟨t, by rw [this]⟩
      | _ => rw [q] at h1; cases h1
    obtain ⟨t, hk⟩ := hk
    refine ⟨?_, fun z => ?_⟩
    · rw [List.any_cons, ih1, Bool.or_false]
      unfold DictEntry.refKey
      rw [hk]
    · have e1 : e.key.isStr z = (z == k) := by
        rw [hk]
        by_cases hz : z = k
        · subst hz
          simp [Value.isStr]
        · have h1 : (z == k) = false := beq_false_of_ne hz
          have h2 : (k == z) = false := beq_false_of_ne (Ne.symm hz)
          rw [h1]
          simp [Value.isStr, h2, hz, Ne.symm hz]
      rw [List.find?_cons, List.lookup_cons, e1]
      cases q : (z == k) with
      | true =>
        obtain ⟨v, rv, rp⟩ := rpB_ok h3
        exact .inr ⟨e, d, v, rfl, rfl, rv, rp⟩
      | false => exact ih2 z
theorem tabB_ok {K : PySem.W.Frag} {w : World} {mg : Str → Option Value} {x : Str} {kvs : List (Str × PyData)} (hm : mg x = some (.ref (ga K x))) (kd : ∃ es n, KDict K w (ga K x) es n) (h : tabB K x kvs = true) : TabAt K w mg x kvs := by
  refine ⟨ga K x, hm, kd, fun z => ?_⟩
  obtain ⟨es, n, kd⟩ := kd
  have lk := kd.at_
  unfold tabB at h
  rw [lk] at h
  obtain ⟨h1, h2⟩ := entB_ok h
  unfold PySem.W.nsIn
  rw [lk]
  dsimp only
  rcases h2 z with ⟨a, b⟩ | ⟨e, d, v, a, b, rv, rp⟩
  · rw [a]
    dsimp only
    rw [h1]
    exact ⟨none, rfl, .inl ⟨b, rfl⟩⟩
  · rw [a]
    exact ⟨some e.val, rfl, .inr ⟨d, e.val, v, b, rfl, rv, rp⟩⟩
/-! ### the house's own errors -/
def clsB1 (C : Addr) : List Value → List (Option Value) → Bool
  | .ref C' :: bm, [_, _, _, _, some (.builtin n), _] => decide (C' = C) && (decide (n = "ValueError.__new__") && HandSPX.refsVE bm)
  | _, _ => false
theorem clsB1_ok {C : Addr} {mro : List Value} {sl : List (Option Value)} (h : clsB1 C mro sl = true) : ∃ bm k0 k1 k2 k3 k5, mro = .ref C :: bm ∧ sl = [k0, k1, k2, k3, some (.builtin "ValueError.__new__"), k5] ∧ HandSPX.refsVE bm = true := by
  unfold clsB1 at h
  split at h
  · rename_i C' bm k0 k1 k2 k3 n k5
    have h1 := (ba h).1
    have h2 := (ba (ba h).2).1
    have h3 := (ba (ba h).2).2
    have h1 := of_decide_eq_true h1
    have h2 := of_decide_eq_true h2
    subst h1 h2
    exact ⟨bm, k0, k1, k2, k3, k5, rfl, rfl, h3⟩
  · cases h
def clsB (K : PySem.W.Frag) (C : Addr) : Bool := match K.lookup C with
  | some ⟨.type t, _, .cls cd, sl⟩ => decide (t = "type") && (clsB1 C cd.mro sl.toList && (!cd.hasDel && cd.hasDict))
  | _ => false
theorem clsB_ok {K : PySem.W.Frag} {C : Addr} (h : clsB K C = true) : ∃ nm q N bs bm sn sub ab col dd k0 k1 k2 k3 k5, K.lookup C = some (excClassObj nm q C N bs bm true sn sub ab col dd k0 k1 k2 k3 k5 "ValueError.__new__") ∧ HandSPX.refsVE bm = true := by
  unfold clsB at h
  cases lk : K.lookup C with
  | none => rw [lk] at h; cases h
  | some o =>
    rw [lk] at h
    obtain ⟨oc, dd, dt, sl⟩ := o
    cases oc with
    | type t =>
      cases dt with
      | cls cd =>
        have h' : (decide (t = "type") && (clsB1 C cd.mro sl.toList && (!cd.hasDel && cd.hasDict))) = true := h
        clear h
        have ht := of_decide_eq_true (ba h').1
        obtain ⟨bm, k0, k1, k2, k3, k5, hm, hs, hv⟩ := clsB1_ok (ba (ba h').2).1
        have h3 := (ba (ba (ba h').2).2).1
        have h4 := (ba (ba (ba h').2).2).2
        clear h'
        subst ht
        obtain ⟨nm, bs, mro, ns, qn, hd, sn, sub, ab, col, del⟩ := cd
        dsimp only at hm h3 h4
        have h3 : del = false := by cases del <;> first | rfl | cases h3
        subst hm h3 h4
        have hsl : sl = #[k0, k1, k2, k3, some (.builtin "ValueError.__new__"), k5] := by
          obtain ⟨l⟩ := sl
          simp only at hs
          rw [hs]
        subst hsl
        exact ⟨nm, qn, ns, bs, bm, sn, sub, ab, col, dd, k0, k1, k2, k3, k5, rfl, hv⟩
      | _ => cases h
    | _ => cases dt <;> cases h
abbrev IniW : Type := Option (Str × Str × Arguments × FuncBody × Scope × Addr × List Str × Addr)
def iniW (K : PySem.W.Frag) (fI : Addr) : IniW := match K.lookup fI with
  | some ⟨_, _, .func fd, _⟩ => some (fd.name, fd.qualname, fd.params, fd.body, fd.scope, fd.globals, fd.closure.map (·.1), fd.builtins)
  | _ => none
def iniV (params : Arguments) (body : List Stmt) (scope : Scope) : IniW := some ("__init__", "ReasonError.__init__", params, .stmts body, scope, mainGlobals, ["__class__"], builtinsNs)
def codeB (P : Program) (K : PySem.W.Frag) : Value → Bool
  | .ref cda => PySem.W.codeIn K (.ref cda) "ReasonError.__init__" && (match K.lookup cda with
    | some ⟨_, _, .fields vs, _⟩ => (match (vs[2]? : Option Value) with
      | some (.str file _) => ((P.main.file : Str) == file)
      | _ => false)
    | _ => false)
  | _ => false
def cloB (K : PySem.W.Frag) (D : Addr) : List (Str × Addr) → Bool
  | [(_, cc)] => (match K.lookup cc with
    | some ⟨_, _, .cell (some (.ref D')), _⟩ => decide (D' = D)
    | _ => false)
  | _ => false
def fnB (P : Program) (K : PySem.W.Frag) (fI D : Addr) : Bool := match K.lookup fI with
  | some ⟨_, _, .func fd, _⟩ => decide (fd.defaults = .none) && (decide (fd.kwdefaults = .none) && (codeB P K fd.code && cloB K D fd.closure))
  | _ => false
structure IniOk (P : Program) (params : Arguments) (body : List Stmt) (scope : Scope) : Prop where
  txt : ∃ q1 q2 p1 p2 p3 p4 p5 p6 p7 p8 p9 p10 p11, params = iniArgs q1 q2 ∧ body = iniBody p1 p2 p3 p4 p5 p6 p7 p8 p9 p10 p11 ∧ ∃ pl : Sem Bool, ∀ env : Env, eval (iniCall p1 p2 p3 p4 p5) env = (do
        let ov ← attributeBase (.Call (.Name "super" p1) [] [] p2) "__init__" env (eval (.Call (.Name "super" p1) [] [] p2) env)
        standAt p3.atName
        let (f, first) ← holding [ov] (getMethod ov "__init__" pl)
        callWith p5 f first (backTo p5 (starEach [.Name "value" p4] env)) [])
  kind : scope.kind = .function
  co : scope.isCoroutine = false
  gen : scope.isGenerator = false
  su : scope.names.lookup ("super" : Str) = some .globalImplicit
  cl : scope.names.lookup ("__class__" : Str) = some .free
  se : scope.names.lookup ("self" : Str) = some .local
  va : scope.names.lookup ("value" : Str) = some .local
  nc : ∀ y ∈ scope.names, y.2 ≠ .cell
  top : (P.main.scope.names.lookup ("super" : Str)).isSome = false
def errB (P : Program) (K : PySem.W.Frag) (D fI C : Addr) : Bool :=
  clsB K C && (eqO (PySem.W.findIn K (.ref C) "__setattr__") (some (some (.builtin "object.__setattr__"))) && (eqO (PySem.W.findIn K (.ref C) "__getattribute__") (some (some (.builtin "BaseException.__getattribute__"))) &&
  (eqO (PySem.W.findIn K (.ref C) "__getattr__") (some none) && (eqO (PySem.W.findIn K (.ref C) "value") (some none) && (eqO (PySem.W.findIn K (.ref C) "__init__") (some (some (.ref fI))) && (decide (PySem.W.typeIn K (.ref fI) = some (.type "function")) &&
  (PySem.W.keepIn K (.ref C) && (decide (PySem.W.subIn K (.ref C) (.type "BaseException") = some true) && (decide (PySem.W.subIn K (.ref C) (.type "ValueError") = some true) && (decide (PySem.W.typeIn K (.ref C) = some (.type "type")) && (PySem.W.hasDictIn K C &&
  (PySem.W.excInitIn K C veBase "ValueError.__new__" && (eqO (PySem.W.ks_superIn K C D "__init__") (some (some (.builtin "ValueError.__init__"))) && (decide (PySem.W.mroIn K C (.ref D) = some true) && ((PySem.W.clsIn K D).isSome && (eqO (PySem.W.nsIn K cStatics "thirdparty.any") (some none) &&
  (eqO (PySem.W.nsIn K mainGlobals "super") (some none) && fnB P K fI D)))))))))))))))))
theorem errB_ok {P : Program} {K : PySem.W.Frag} {D fI C : Addr} {params : Arguments} {body : List Stmt} {scope : Scope} (I : IniOk P params body scope) (hw : iniW K fI = iniV params body scope) (h : errB P K D fI C = true) : ErrTxt P K C D fI := by
  unfold errB at h
  obtain ⟨c1, h⟩ := ba h
  obtain ⟨c2, h⟩ := ba h
  obtain ⟨c3, h⟩ := ba h
  obtain ⟨c4, h⟩ := ba h
  obtain ⟨c5, h⟩ := ba h
  obtain ⟨c6, h⟩ := ba h
  obtain ⟨c7, h⟩ := ba h
  obtain ⟨c8, h⟩ := ba h
  obtain ⟨c9, h⟩ := ba h
  obtain ⟨c10, h⟩ := ba h
  obtain ⟨c11, h⟩ := ba h
  obtain ⟨c12, h⟩ := ba h
  obtain ⟨c13, h⟩ := ba h
  obtain ⟨c14, h⟩ := ba h
  obtain ⟨c15, h⟩ := ba h
  obtain ⟨c16, h⟩ := ba h
  obtain ⟨c17, h⟩ := ba h
  obtain ⟨c18, c19⟩ := ba h
  refine ⟨clsB_ok c1, eqO_ok c2, eqO_ok c3, eqO_ok c4, eqO_ok c5, eqO_ok c6, of_decide_eq_true c7, c8, of_decide_eq_true c9, of_decide_eq_true c10, of_decide_eq_true c11, c12, c13, eqO_ok c14, of_decide_eq_true c15, c16, eqO_ok c17, eqO_ok c18, I.top, ?_⟩
  obtain ⟨q1, q2, p1, p2, p3, p4, p5, p6, p7, p8, p9, p10, p11, e1, e2, pl, hpl⟩ := I.txt
  subst e1 e2
  unfold fnB at c19
  unfold iniW iniV at hw
  split at c19
  · rename_i oc od fd osl lk
    rw [lk] at hw
    obtain ⟨n1, n2, n3, n4, n5, n6, n7, n8, n9, n10, n11, n12, n13, n14, n15⟩ := fd
    dsimp only at hw c19
    simp only [Option.some.injEq, Prod.mk.injEq] at hw
    obtain ⟨h1, h2, h3, h4, h5, h6, h7, h8⟩ := hw
    obtain ⟨d1, d⟩ := ba c19
    obtain ⟨d2, d⟩ := ba d
    obtain ⟨d3, d4⟩ := ba d
    have g1 : n8 = .none := of_decide_eq_true d1
    have g2 : n9 = .none := of_decide_eq_true d2
    subst h1 h2 h3 h4 h5 h6 h8 g1 g2
    cases n7 with
    | nil => cases d4
    | cons y r =>
      cases r with
      | cons _ _ => cases d4
      | nil =>
        obtain ⟨yn, cc⟩ := y
        simp only [List.map_cons, List.map_nil, List.cons.injEq, and_true] at h7
        subst h7
        clear d c19
        cases n13 with
        | ref cda =>
          obtain ⟨k1, k2⟩ := ba (show (PySem.W.codeIn K (.ref cda) "ReasonError.__init__" && (match K.lookup cda with
            | some ⟨_, _, .fields vs, _⟩ => (match (vs[2]? : Option Value) with
              | some (.str file _) => ((P.main.file : Str) == file)
              | _ => false)
            | _ => false)) = true from d3)
          split at k2
          · rename_i o1 dd1 vs sl1 lk1
            split at k2
            · rename_i file tf hv
              have d5 : (match K.lookup cc with
                | some ⟨_, _, .cell (some (.ref D')), _⟩ => decide (D' = D)
                | _ => false) = true := d4
              split at d5
              · rename_i o2 dd2 D' sl2 lk2
                have g4 : D' = D := of_decide_eq_true d5
                subst g4
                exact ⟨oc, _, _, _, od, _, osl, cda, cc, q1, q2, p1, p2, p3, p4, p5, p6, p7, p8, p9, p10, p11, _, vs, file, tf, o1, o2, dd1, dd2, sl1, sl2, lk, k1, lk1, hv, k2, lk2, I.kind, I.co, I.gen, I.su, I.cl, I.se, I.va, I.nc, pl, hpl⟩
              · cases d5
            · cases k2
          · cases k2
        | _ => cases d3
  · cases c19
def errClsB (K : PySem.W.Frag) (D : Addr) : Bool :=
  eqO (PySem.W.findIn K (.ref D) "__getattribute__") (some (some (.builtin "BaseException.__getattribute__"))) && (eqO (PySem.W.findIn K (.ref D) "__getattr__") (some none) && (decide (PySem.W.subIn K (.ref D) (.type "BaseException") = some true) && (PySem.W.hasDictIn K D &&
  (eqO (PySem.W.findIn K (.ref D) "__class__") (some (some (.builtin "object.__class__"))) && (eqO (PySem.W.specialIn K (.builtin "object.__class__") "__get__") (some (some (.builtin "getset_descriptor.__get__"))) && (decide (PySem.W.takesIn K (.builtin "object.__class__") = some true) && decide (PySem.W.mroIn K D (.type "object") = some true)))))))
theorem errClsB_ok {K : PySem.W.Frag} {D : Addr} (h : errClsB K D = true) : ErrCls K D := by
  unfold errClsB at h
  obtain ⟨c1, h⟩ := ba h
  obtain ⟨c2, h⟩ := ba h
  obtain ⟨c3, h⟩ := ba h
  obtain ⟨c4, h⟩ := ba h
  obtain ⟨c5, h⟩ := ba h
  obtain ⟨c6, h⟩ := ba h
  obtain ⟨c7, c8⟩ := ba h
  exact ⟨eqO_ok c1, eqO_ok c2, of_decide_eq_true c3, c4, eqO_ok c5, eqO_ok c6, of_decide_eq_true c7, of_decide_eq_true c8⟩
/-- one error class of the law's -/
def oneErrB (P : Program) (K : PySem.W.Frag) (D fI : Addr) (c : Str) : Bool := eqO (PySem.W.nsIn K mainGlobals c) (some (some (.ref (ga K c)))) && (errB P K D fI (ga K c) && (errClsB K (ga K c) && decide (PySem.W.exmOne K (.ref (ga K c)) (.ref D) = some true)))
def errsB (P : Program) (K : PySem.W.Frag) (cs : List Str) : Bool := cs.all fun c => oneErrB P K (ga K "ReasonError") (ma K (ga K "ReasonError") "__init__") c
theorem errsB_ok {P : Program} {K : PySem.W.Frag} {h : Heap} {mg : Str → Option Value} {cs : List Str} {params : Arguments} {body : List Stmt} {scope : Scope} (X : K.In h) (G : h.Ns mainGlobals mg) (I : IniOk P params body scope) (hw : iniW K (ma K (ga K "ReasonError") "__init__") = iniV params body scope) (q : errsB P K cs = true) :
    ErrsOk P K mg (ga K "ReasonError") (ma K (ga K "ReasonError") "__init__") cs := fun c hc => by
  have q1 := List.all_eq_true.mp q c (List.contains_iff_mem.mp hc)
  obtain ⟨c1, q2⟩ := ba q1
  obtain ⟨c2, q3⟩ := ba q2
  obtain ⟨c3, c4⟩ := ba q3
  exact ⟨ga K c, PySem.W.mg_of X G (eqO_ok c1), errB_ok I hw c2, errClsB_ok c3, of_decide_eq_true c4⟩
/-- isinstance against the class x (none: a built-in one of that name) -/
def isiB (K : PySem.W.Frag) (tab : List (Str × Bool)) (u : Value) : Bool := (tab.all fun q => eqO (PySem.W.nsIn K mainGlobals q.1) (some (some (.ref (ga K q.1)))) && (errClsB K (ga K q.1) && decide (PySem.W.kitOne K (.ref (ga K q.1)) u = some q.2))) && decide (PySem.W.kitOne K (.type "NoneType") u = some false)
theorem lookup_in {α : Type} {tab : List (Str × α)} {c : Str} {b : α} (h : tab.lookup c = some b) : (c, b) ∈ tab := by
  induction tab with
  | nil => cases h
  | cons y r ih =>
    obtain ⟨k, v⟩ := y
    rw [List.lookup_cons] at h
    cases e : (c == k) with
    | true =>
      rw [e] at h
      cases h
      rw [eq_of_beq e]
      exact List.mem_cons_self
    | false =>
      rw [e] at h
      exact List.mem_cons_of_mem _ (ih h)
theorem isiB_ok {K : PySem.W.Frag} {h : Heap} {mg : Str → Option Value} {tab : List (Str × Bool)} {u : Value} (X : K.In h) (G : h.Ns mainGlobals mg) (q : isiB K tab u = true) : IsiAt K mg tab u := by
  obtain ⟨q1, q2⟩ := ba q
  refine ⟨fun c b hb => ?_, of_decide_eq_true q2⟩
  have q3 := List.all_eq_true.mp q1 (c, b) (lookup_in hb)
  obtain ⟨c1, q4⟩ := ba q3
  obtain ⟨c2, c3⟩ := ba q4
  exact ⟨ga K c, PySem.W.mg_of X G (eqO_ok c1), errClsB_ok c2, of_decide_eq_true c3⟩
/-! ### the hook -/
abbrev AlP : Type := AlT × (Bool × IniW)
def obsP (P : Program) (fa : List Fa) (fn : List DefD) (ts : List Tab) (ex : PySem.W.Frag → Bool) (K : PySem.W.Frag) : AlP := (obsT fa fn ts K, (ex K, iniW K (ma K (ga K "ReasonError") "__init__")))
def valP (fn : List DefD) (ts : List Tab) (iv : IniW) (w : World) : AlP := (valT fn ts w, (true, iv))
def obsPG (P : Program) (n : Nat) (fa : List Fa) (fn : List DefD) (ts : List Tab) (ex : PySem.W.Frag → Bool) (g : Addr → Option Obj) : AlP := obsP P fa fn ts ex (frG g (cStatics :: asD g n))
structure SaysP (P : Program) (fa : List Fa) (fn : List DefD) (ts : List Tab) (ex : PySem.W.Frag → Bool) (iv : IniW) (w : World) (K : PySem.W.Frag) : Prop where
  t : SaysT fa fn ts w K
  more : ex K = true
  ini : iniW K (ma K (ga K "ReasonError") "__init__") = iv
theorem saysP_of {P : Program} {fa : List Fa} {fn : List DefD} {ts : List Tab} {ex : PySem.W.Frag → Bool} {iv : IniW} {w : World} {K : PySem.W.Frag} (e : obsP P fa fn ts ex K = valP fn ts iv w) : SaysP P fa fn ts ex iv w K :=
  ⟨congrArg (fun z : AlP => z.1) e, congrArg (fun z : AlP => z.2.1) e, congrArg (fun z : AlP => z.2.2) e⟩
def hookP (P : Program) (n : Nat) (fa : List Fa) (fn : List DefD) (ts : List Tab) (ex : PySem.W.Frag → Bool) (iv : IniW) : PySem.W.Hook where
  α := AlP
  obs := fun s => obsPG P n fa fn ts ex s.heap.get?
  val := fun w => valP fn ts iv w
  says := fun w h => ∃ K : PySem.W.Frag, K.In h ∧ SaysP P fa fn ts ex iv w K
  of := fun _ _ e => ⟨_, frG_in, saysP_of e⟩
  keeps := fun _ _ _ ⟨K, hK, c⟩ k => ⟨K, PySem.W.Frag.In.keeps hK k, c⟩
theorem obsPG_eq {P : Program} {n : Nat} {fa : List Fa} {fn : List DefD} {ts : List Tab} {ex : PySem.W.Frag → Bool} {iv : IniW} {g : Addr → Option Obj} {s : Shared} (h : ∀ a, g a = s.heap.get? a) : obsPG P n fa fn ts ex g = (hookP P n fa fn ts ex iv).obs s := by
  have e : g = s.heap.get? := funext h
  rw [e] <;> rfl
end PP
set_option Elab.async false
set_option linter.all false
set_option maxRecDepth 100000
set_option maxHeartbeats 4000000
namespace PP
open PySem L2 PySem.Spec PyProof.Rows
/-! ## reckoning with what the defs do: one equation a construct -/
theorem ofString_inj {a b : String} : Str.ofString a = Str.ofString b ↔ a = b := by
  constructor
  · intro h
    rw [Str.ofString_eq_toList, Str.ofString_eq_toList] at h
    have h2 : a.toList.map Char.toNat = b.toList.map Char.toNat := by
      have := congrArg (fun s : Str => s.cps.toList) h
      simpa using this
    have h3 : a.toList = b.toList := by
      have inj : ∀ (l m : List Char), l.map Char.toNat = m.map Char.toNat → l = m := by
        intro l
        induction l with
        | nil => intro m h; cases m with
          | nil => rfl
          | cons c m => cases h
        | cons c l ih => intro m h; cases m with
          | nil => cases h
          | cons d m =>
            simp only [List.map_cons, List.cons.injEq] at h
            rw [ih m h.2, Char.toNat_inj.mp h.1]
      exact inj _ _ h2
    exact String.toList_inj.mp h3
  · intro h; rw [h]
theorem ofString_beq {a b : String} : (Str.ofString a == Str.ofString b) = decide (a = b) := by
  by_cases h : a = b
  · subst h; simp
  · have : Str.ofString a ≠ Str.ofString b := fun e => h (ofString_inj.mp e)
    rw [decide_eq_false h]
    exact beq_false_of_ne this

/-! eliminators: what stands on a truth value goes on as an if -/
def kT {α : Type} (r : Option TR) (f g : SS → Option α) (e : Str → PyData → SS → Option α) : Option α := match r with
  | some (.tb b S) => if b = true then f S else g S
  | some (.exn c d S) => e c d S
  | none => none
def kB {α : Type} (v : Vl) (f g : Option α) : Option α := match v with
  | .py (.bool b) => if b = true then f else g
  | _ => none
def tE (r : Option ER) : Option TR := match r with
  | some (.val _ (.py (.bool b)) S') => some (.tb b S')
  | some (.exn c d S') => some (.exn c d S')
  | _ => none
def tN (r : Option TR) : Option TR := match r with
  | some (.tb b S') => some (.tb (!b) S')
  | some (.exn c d S') => some (.exn c d S')
  | none => none
def tAnd (r : Option TR) (k : SS → Option TR) : Option TR := match r with
  | some (.tb b S') => if b = true then k S' else some (.tb false S')
  | r => r
def tOr (r : Option TR) (k : SS → Option TR) : Option TR := match r with
  | some (.tb b S') => if b = true then some (.tb true S') else k S'
  | r => r
def sB (r : Option SR) (k : Sl → SS → Option SR) : Option SR := match r with
  | some (.nx sl' S') => k sl' S'
  | r => r
section
variable {α : Type} {c : Prop} [Decidable c]
@[simp] theorem kT_tb {b : Bool} {S : SS} {f g : SS → Option α} {e : Str → PyData → SS → Option α} : kT (some (.tb b S)) f g e = if b = true then f S else g S := rfl
@[simp] theorem kT_exn {x : Str} {d : PyData} {S : SS} {f g : SS → Option α} {e : Str → PyData → SS → Option α} : kT (some (.exn x d S)) f g e = e x d S := rfl
@[simp] theorem kT_none {f g : SS → Option α} {e : Str → PyData → SS → Option α} : kT none f g e = none := rfl
@[simp] theorem kT_ite {a b : Option TR} {f g : SS → Option α} {e : Str → PyData → SS → Option α} : kT (if c then a else b) f g e = if c then kT a f g e else kT b f g e := by split <;> rfl
@[simp] theorem kB_b {b : Bool} {f g : Option α} : kB (.py (.bool b)) f g = if b = true then f else g := rfl
@[simp] theorem tE_b {t : Tg} {b : Bool} {S : SS} : tE (some (.val t (.py (.bool b)) S)) = some (.tb b S) := rfl
@[simp] theorem tE_exn {x : Str} {d : PyData} {S : SS} : tE (some (.exn x d S)) = some (.exn x d S) := rfl
@[simp] theorem tE_none : tE none = none := rfl
@[simp] theorem tE_ite {a b : Option ER} : tE (if c then a else b) = if c then tE a else tE b := by split <;> rfl
@[simp] theorem tN_b {b : Bool} {S : SS} : tN (some (.tb b S)) = some (.tb (!b) S) := rfl
@[simp] theorem tN_exn {x : Str} {d : PyData} {S : SS} : tN (some (.exn x d S)) = some (.exn x d S) := rfl
@[simp] theorem tN_none : tN none = none := rfl
@[simp] theorem tN_ite {a b : Option TR} : tN (if c then a else b) = if c then tN a else tN b := by split <;> rfl
@[simp] theorem tAnd_b {b : Bool} {S : SS} {k : SS → Option TR} : tAnd (some (.tb b S)) k = if b = true then k S else some (.tb false S) := rfl
@[simp] theorem tAnd_exn {x : Str} {d : PyData} {S : SS} {k : SS → Option TR} : tAnd (some (.exn x d S)) k = some (.exn x d S) := rfl
@[simp] theorem tAnd_none {k : SS → Option TR} : tAnd none k = none := rfl
@[simp] theorem tAnd_ite {a b : Option TR} {k : SS → Option TR} : tAnd (if c then a else b) k = if c then tAnd a k else tAnd b k := by split <;> rfl
@[simp] theorem tOr_b {b : Bool} {S : SS} {k : SS → Option TR} : tOr (some (.tb b S)) k = if b = true then some (.tb true S) else k S := rfl
@[simp] theorem tOr_exn {x : Str} {d : PyData} {S : SS} {k : SS → Option TR} : tOr (some (.exn x d S)) k = some (.exn x d S) := rfl
@[simp] theorem tOr_none {k : SS → Option TR} : tOr none k = none := rfl
@[simp] theorem tOr_ite {a b : Option TR} {k : SS → Option TR} : tOr (if c then a else b) k = if c then tOr a k else tOr b k := by split <;> rfl
@[simp] theorem sB_nx {sl : Sl} {S : SS} {k : Sl → SS → Option SR} : sB (some (.nx sl S)) k = k sl S := rfl
@[simp] theorem sB_rt {t : Tg} {v : Vl} {S : SS} {k : Sl → SS → Option SR} : sB (some (.rt t v S)) k = some (.rt t v S) := rfl
@[simp] theorem sB_bk {sl : Sl} {S : SS} {k : Sl → SS → Option SR} : sB (some (.bk sl S)) k = some (.bk sl S) := rfl
@[simp] theorem sB_ct {sl : Sl} {S : SS} {k : Sl → SS → Option SR} : sB (some (.ct sl S)) k = some (.ct sl S) := rfl
@[simp] theorem sB_exn {x : Str} {d : PyData} {sl : Sl} {S : SS} {k : Sl → SS → Option SR} : sB (some (.exn x d sl S)) k = some (.exn x d sl S) := rfl
@[simp] theorem sB_none {k : Sl → SS → Option SR} : sB none k = none := rfl
@[simp] theorem sB_ite {a b : Option SR} {k : Sl → SS → Option SR} : sB (if c then a else b) k = if c then sB a k else sB b k := by split <;> rfl
@[simp] theorem bindE_ite {a b : Option ER} {K : Tg → Vl → SS → Option ER} : bindE (if c then a else b) K = if c then bindE a K else bindE b K := by split <;> rfl
@[simp] theorem bindS_ite {a b : Option ER} {sl : Sl} {K : Tg → Vl → SS → Option SR} : bindS (if c then a else b) sl K = if c then bindS a sl K else bindS b sl K := by split <;> rfl
/-! two truth values make one -/
@[simp] theorem and_val {b1 b2 : Bool} {S : SS} : (if b1 = true then some (ER.val .pure (.py (.bool b2)) S) else some (ER.val .pure (.py (.bool false)) S)) = some (ER.val .pure (.py (.bool (b1 && b2))) S) := by cases b1 <;> rfl
@[simp] theorem or_val {b1 b2 : Bool} {S : SS} : (if b1 = true then some (ER.val .pure (.py (.bool true)) S) else some (ER.val .pure (.py (.bool b2)) S)) = some (ER.val .pure (.py (.bool (b1 || b2))) S) := by cases b1 <;> rfl
@[simp] theorem and_tb {b1 b2 : Bool} {S : SS} : (if b1 = true then some (TR.tb b2 S) else some (TR.tb false S)) = some (TR.tb (b1 && b2) S) := by cases b1 <;> rfl
@[simp] theorem or_tb {b1 b2 : Bool} {S : SS} : (if b1 = true then some (TR.tb true S) else some (TR.tb b2 S)) = some (TR.tb (b1 || b2) S) := by cases b1 <;> rfl
end
def rgOk (j : Int) : Bool := decide (-(2 ^ 62) ≤ j ∧ j < 2 ^ 62)
theorem rg_ite {α : Type} {j : Int} {x y : α} : (if -(2 ^ 62) ≤ j ∧ j < 2 ^ 62 then x else y) = if rgOk j = true then x else y := by
  by_cases h : -(2 ^ 62) ≤ j ∧ j < 2 ^ 62
  · rw [if_pos h, if_pos (show rgOk j = true from decide_eq_true h)]
  · rw [if_neg h, if_neg (show ¬ rgOk j = true from fun e => h (of_decide_eq_true e))]
theorem rg_ite2 {α : Type} {i j : Int} {x y : α} : (if -(2 ^ 62) ≤ i ∧ i < 2 ^ 62 ∧ -(2 ^ 62) ≤ j ∧ j < 2 ^ 62 then x else y) = if rgOk i = true ∧ rgOk j = true then x else y := by
  have e : (-(2 ^ 62) ≤ i ∧ i < 2 ^ 62 ∧ -(2 ^ 62) ≤ j ∧ j < 2 ^ 62) ↔ (rgOk i = true ∧ rgOk j = true) := by
    unfold rgOk
    rw [decide_eq_true_iff, decide_eq_true_iff, and_assoc]
  by_cases h : rgOk i = true ∧ rgOk j = true
  · rw [if_pos h, if_pos (e.mpr h)]
  · rw [if_neg h, if_neg (fun z => h (e.mp z))]
theorem rgOk_of {j : Int} (h : -1000000 ≤ j) (g : j ≤ 1000000) : rgOk j = true := decide_eq_true (by
  have e : (2 : Int) ^ 62 = 4611686018427387904 := by decide
  rw [e]
  omega)
section
variable {sl sl' : Sl} {S S' : SS} {t : Tg} {v : Vl} {c : Str} {d : PyData} {i j k n m : Nat} {f g h : FE} {fs gs : FS} {ga : FA} {ft gt : FT} {fi : FI}
@[simp] theorem bindE_val {K : Tg → Vl → SS → Option ER} : bindE (some (.val t v S)) K = K t v S := rfl
@[simp] theorem bindE_exn {K : Tg → Vl → SS → Option ER} : bindE (some (.exn c d S)) K = some (.exn c d S) := rfl
@[simp] theorem bindE_none {K : Tg → Vl → SS → Option ER} : bindE none K = none := rfl
@[simp] theorem bindS_val {K : Tg → Vl → SS → Option SR} : bindS (some (.val t v S)) sl K = K t v S := rfl
@[simp] theorem bindS_exn {K : Tg → Vl → SS → Option SR} : bindS (some (.exn c d S)) sl K = some (.exn c d sl S) := rfl
@[simp] theorem bindS_none {K : Tg → Vl → SS → Option SR} : bindS none sl K = none := rfl
@[simp] theorem ap_C : fC d sl S = some (.val .pure (.py d) S) := rfl
@[simp] theorem ap_Lit : fLit t d sl S = some (.val t (.py d) S) := rfl
@[simp] theorem ap_Fn {x : Str} : fFn x sl S = some (.val .pure (.fn x) S) := rfl
theorem ap_Var : fVar i sl S = (match sl[i]? with
  | some (.p v) => some (.val .pure v S)
  | some (.own d) => some (.val .mine (.py d) S)
  | _ => none) := rfl
@[simp] theorem ap_Var0 {r : Sl} {x : Slot} : fVar 0 (x :: r) S = (match x with
  | .p v => some (.val .pure v S)
  | .own d => some (.val .mine (.py d) S)
  | _ => none) := by cases x <;> rfl
@[simp] theorem ap_VarS {r : Sl} {x : Slot} {i : Nat} : fVar (i + 1) (x :: r) S = fVar i r S := rfl
@[simp] theorem ap_Fz : fFz f sl S = bindE (f sl S) fun t v S1 => (match t with
  | .mine => none
  | _ => some (.val .pure v S1)) := rfl
@[simp] theorem ap_Bin {sem : PyData → PyData → Option (Tg × PyData)} : fBin sem f g sl S = bindE (f sl S) fun _ v1 S1 => bindE (g sl S1) fun _ v2 S2 =>
    (match cont S2 v1, cont S2 v2 with
    | some d1, some d2 => match sem d1 d2 with
      | some (t, d) => some (.val t (.py d) S2)
      | none => none
    | _, _ => none) := rfl
@[simp] theorem cont_py : cont S (.py d) = some d := rfl
@[simp] theorem cont_box : cont S (.box k) = S[k]? := rfl
@[simp] theorem ap_faNil : faNil sl S = some (.vals [] S) := rfl
@[simp] theorem ap_faCons : faCons f ga sl S = (match f sl S with
  | some (.val t v S1) => match ga sl S1 with
    | some (.vals xs S2) => some (.vals ((t, v) :: xs) S2)
    | some (.exn c d S2) => some (.exn c d S2)
    | none => none
  | some (.exn c d S1) => some (.exn c d S1)
  | none => none) := rfl
@[simp] theorem pys_nil : pys [] = some [] := rfl
@[simp] theorem pys_cons {r : List (Tg × Vl)} : pys ((.pure, .py d) :: r) = (match pys r with
    | some ds => some (d :: ds)
    | none => none) := rfl
@[simp] theorem ap_Seq {mk : List PyData → PyData} : fSeq mk t ga sl S = (match ga sl S with
  | some (.vals xs S1) => match pys xs with
    | some ds => if ds.length ≤ LIM then some (.val t (.py (mk ds)) S1) else none
    | none => none
  | some (.exn c d S1) => some (.exn c d S1)
  | none => none) := rfl
@[simp] theorem ap_Tb : fTb f sl S = tE (f sl S) := rfl
@[simp] theorem ap_NotT : fNotT ft sl S = tN (ft sl S) := rfl
@[simp] theorem ap_AndT : fAndT ft gt sl S = tAnd (ft sl S) fun S' => gt sl S' := by
  unfold fAndT tAnd; cases ft sl S with
  | none => rfl
  | some r => cases r with
    | exn c d S' => rfl
    | tb b S' => cases b <;> rfl
@[simp] theorem ap_OrT : fOrT ft gt sl S = tOr (ft sl S) fun S' => gt sl S' := by
  unfold fOrT tOr; cases ft sl S with
  | none => rfl
  | some r => cases r with
    | exn c d S' => rfl
    | tb b S' => cases b <;> rfl
@[simp] theorem ap_And : fAnd f g sl S = bindE (f sl S) fun _ v S1 => kB v (g sl S1) (some (.val .pure (.py (.bool false)) S1)) := by
  unfold fAnd; congr 1; funext _ v S1; unfold kB; cases v with
  | py d => cases d with
    | bool b => cases b <;> rfl
    | _ => rfl
  | _ => rfl
@[simp] theorem ap_Or : fOr f g sl S = bindE (f sl S) fun _ v S1 => kB v (some (.val .pure (.py (.bool true)) S1)) (g sl S1) := by
  unfold fOr; congr 1; funext _ v S1; unfold kB; cases v with
  | py d => cases d with
    | bool b => cases b <;> rfl
    | _ => rfl
  | _ => rfl
@[simp] theorem ap_Not : fNot f sl S = bindE (f sl S) fun _ v S1 => (match v with
  | .py (.bool k) => some (.val .pure (.py (.bool (!k))) S1)
  | _ => none) := rfl
@[simp] theorem ap_If : fIf ft f g sl S = kT (ft sl S) (fun S' => f sl S') (fun S' => g sl S') (fun c d S' => some (.exn c d S')) := by
  unfold fIf kT; cases ft sl S with
  | none => rfl
  | some r => cases r with
    | exn c d S' => rfl
    | tb b S' => cases b <;> rfl
@[simp] theorem ap_IsN {neg : Bool} : fIsN neg f sl S = bindE (f sl S) fun _ v S1 => some (.val .pure (.py (.bool (neg ^^ isNon v))) S1) := rfl
@[simp] theorem ap_Ix : fIx f g sl S = fBin (fun x y => (ixP x y).map fun d => (.pure, d)) f g sl S := rfl
@[simp] theorem ap_oNone : foNone sl S = some (none, S) := rfl
@[simp] theorem ap_oSome : foSome f sl S = (match f sl S with
  | some (.val _ (.py (.int i)) S') => some (some i, S')
  | _ => none) := rfl
@[simp] theorem ap_Sl {fl fh : FO} : fSl f fl fh sl S = bindE (f sl S) fun _ v S1 => (match fl sl S1 with
  | some (lo, S2) => match fh sl S2 with
    | some (hi, S3) => match cont S3 v with
      | some d => match slP d lo hi with
        | some (t, d') => some (.val t (.py d') S3)
        | none => none
      | none => none
    | none => none
  | none => none) := rfl
@[simp] theorem conts_nil : conts S [] = some [] := rfl
@[simp] theorem conts_cons {r : List (Tg × Vl)} : conts S ((t, v) :: r) = (match cont S v, conts S r with
    | some d, some ds => some (d :: ds)
    | _, _ => none) := rfl
@[simp] theorem ap_Call {sem : List PyData → Option (Tg × PyData)} : fCall sem ga sl S = (match ga sl S with
  | some (.vals xs S1) => match conts S1 xs with
    | some ds => match sem ds with
      | some (t, d) => some (.val t (.py d) S1)
      | none => none
    | none => none
  | some (.exn c d S1) => some (.exn c d S1)
  | none => none) := rfl
@[simp] theorem ap_Isi {t : Ty} : fIsi t f sl S = bindE (f sl S) fun _ v S1 => (match cont S1 v with
  | some d => some (.val .pure (.py (.bool (isTy t d))) S1)
  | none => none) := rfl
@[simp] theorem ap_Isi2 {t1 t2 : Ty} : fIsi2 t1 t2 f sl S = bindE (f sl S) fun _ v S1 => (match cont S1 v with
  | some d => some (.val .pure (.py (.bool (isTy t1 d || isTy t2 d))) S1)
  | none => none) := rfl
@[simp] theorem argsOf_nil : argsOf [] = some [] := rfl
@[simp] theorem argsOf_cons {r : List (Tg × Vl)} : argsOf ((.pure, v) :: r) = (match argsOf r with
    | some vs => some (v :: vs)
    | none => none) := rfl
/-- what a call hands on -/
def outE : Option ER → Option ER
  | some (.val .pure v S2) => some (.val .pure v S2)
  | some (.val _ v S2) => some (.val .fresh v S2)
  | some (.exn c d S2) => some (.exn c d S2)
  | none => none
@[simp] theorem outE_pure : outE (some (.val .pure v S)) = some (.val .pure v S) := rfl
@[simp] theorem outE_fresh : outE (some (.val .fresh v S)) = some (.val .fresh v S) := rfl
@[simp] theorem outE_mine : outE (some (.val .mine v S)) = some (.val .fresh v S) := rfl
@[simp] theorem outE_exn : outE (some (.exn c d S)) = some (.exn c d S) := rfl
@[simp] theorem outE_none : outE none = none := rfl
@[simp] theorem ap_CallF {F : FF} : fCallF n F ga sl S = (match ga sl S with
  | some (.vals xs S1) => match argsOf xs with
    | some as => if as.length = n then outE (F as S1) else none
    | none => none
  | some (.exn c d S1) => some (.exn c d S1)
  | none => none) := by
  unfold fCallF
  cases ga sl S with
  | none => rfl
  | some r =>
    cases r with
    | exn c d S1 => rfl
    | vals xs S1 =>
      dsimp only
      cases argsOf xs with
      | none => rfl
      | some as =>
        dsimp only
        split
        · cases F as S1 with
          | none => rfl
          | some r => cases r with
            | exn c d S2 => rfl
            | val t v S2 => cases t <;> rfl
        · rfl
theorem callRes_eq {F : FF} {xs : List (Tg × Vl)} : callRes n F xs S = (match argsOf xs with
    | some as => if as.length = n then outE (F as S) else none
    | none => none) := by
  unfold callRes
  cases argsOf xs with
  | none => rfl
  | some as =>
    dsimp only
    split
    · cases F as S with
      | none => rfl
      | some r => cases r with
        | exn c d S2 => rfl
        | val t v S2 => cases t <;> rfl
    · rfl
@[simp] theorem ap_CallK {F : FF} {perm : List Nat} : fCallK perm m n F ga sl S = (match ga sl S with
  | some (.vals xs S1) => if xs.length = m then (match argsOf (pick perm xs) with
    | some as => if as.length = n then outE (F as S1) else none
    | none => none) else none
  | some (.exn c d S1) => some (.exn c d S1)
  | none => none) := by
  unfold fCallK
  simp only [callRes_eq]
  all_goals rfl
@[simp] theorem ap_CallL {fs : List (Str × Nat × FF)} : fCallL i fs ga sl S = (match sl[i]? with
  | some (.p (.fn f)) => match fs.lookup f with
    | some (n, F) => match ga sl S with
      | some (.vals xs S1) => (match argsOf xs with
        | some as => if as.length = n then outE (F as S1) else none
        | none => none)
      | some (.exn c d S1) => some (.exn c d S1)
      | none => none
    | none => none
  | _ => none) := by
  unfold fCallL
  simp only [callRes_eq]
  all_goals rfl
@[simp] theorem ap_Nil : fNil sl S = some (.nx sl S) := rfl
@[simp] theorem ap_Then : fThen fs gs sl S = sB (fs sl S) fun sl' S' => gs sl' S' := rfl
@[simp] theorem ap_Drop : fDrop f sl S = bindS (f sl S) sl fun _ _ S1 => some (.nx sl S1) := rfl
@[simp] theorem slotOf_pure : slotOf .pure v = some (.p v) := rfl
@[simp] theorem slotOf_fresh : slotOf .fresh (.py d) = some (.own d) := rfl
@[simp] theorem ap_Set : fSet i f sl S = bindS (f sl S) sl fun t v S1 => (match slotOf t v with
  | some s => some (.nx (sl.set i s) S1)
  | none => none) := rfl
@[simp] theorem ap_Ret : fRet f sl S = bindS (f sl S) sl fun t v S1 => some (.rt t v S1) := rfl
@[simp] theorem ap_RetN : fRetN sl S = some (.rt .pure (.py .none) S) := rfl
@[simp] theorem ap_Break : fBreak sl S = some (.bk sl S) := rfl
@[simp] theorem ap_Cont : fCont sl S = some (.ct sl S) := rfl
@[simp] theorem ap_IfS : fIfS ft fs gs sl S = kT (ft sl S) (fun S' => fs sl S') (fun S' => gs sl S') (fun c d S' => some (.exn c d sl S')) := by
  unfold fIfS kT; cases ft sl S with
  | none => rfl
  | some r => cases r with
    | exn c d S' => rfl
    | tb b S' => cases b <;> rfl
@[simp] theorem ap_Nm : gNm i d sl = some (sl.set i (.p (.py d))) := rfl
@[simp] theorem ap_gsNil : gsNil [] sl = some sl := rfl
@[simp] theorem ap_gsCons {g1 : PyData → Sl → Option Sl} {g2 : List PyData → Sl → Option Sl} {ds : List PyData} : gsCons g1 g2 (d :: ds) sl = (match g1 d sl with
    | some sl' => g2 ds sl'
    | none => none) := rfl
@[simp] theorem ap_Tp {g2 : List PyData → Sl → Option Sl} {ds : List PyData} : gTp n g2 (.tuple ds) sl = if ds.length = n then g2 ds sl else none := rfl
@[simp] theorem ap_iSeq : fiSeq f sl S = (match f sl S with
  | some (.val .pure (.py (.list ds)) S') => some (ds, S')
  | some (.val .pure (.py (.tuple ds)) S') => some (ds, S')
  | some (.val .pure (.py (.str s)) S') => some (chars s, S')
  | some (.val .pure (.py (.dict kvs)) S') => some (kvs.map (·.1), S')
  | _ => none) := rfl
@[simp] theorem ap_iRg1 : fiRg1 ga sl S = (match ga sl S with
  | some (.vals [(_, .py (.int j))] S') => if rgOk j = true then some (rng 0 j.toNat, S') else none
  | _ => none) := by
  unfold fiRg1
  simp only [rg_ite]
  all_goals rfl
@[simp] theorem ap_iRg2 : fiRg2 ga sl S = (match ga sl S with
  | some (.vals [(_, .py (.int i)), (_, .py (.int j))] S') => if rgOk i = true ∧ rgOk j = true then some (rng i (j - i).toNat, S') else none
  | _ => none) := by
  unfold fiRg2
  simp only [rg_ite2]
  all_goals rfl
@[simp] theorem ap_iEn : fiEn ga sl S = (match ga sl S with
  | some (.vals [(.pure, .py (.list ds))] S') => some (enumD ds, S')
  | _ => none) := rfl
@[simp] theorem ap_iZip : fiZip ga sl S = (match ga sl S with
  | some (.vals [(.pure, .py (.list ds)), (.pure, .py (.list ds2))] S') => some (zipD ds ds2, S')
  | some (.vals [(.pure, .py (.tuple ds)), (.pure, .py (.tuple ds2))] S') => some (zipD ds ds2, S')
  | _ => none) := rfl
@[simp] theorem ap_For {g2 : PyData → Sl → Option Sl} : fFor fi g2 fs sl S = (match fi sl S with
  | some (ds, S1) => forLoop g2 fs ds sl S1
  | none => none) := rfl
@[simp] theorem for_nil {g2 : PyData → Sl → Option Sl} : forLoop g2 fs [] sl S = some (.nx sl S) := rfl
theorem for_cons {g2 : PyData → Sl → Option Sl} {ds : List PyData} : forLoop g2 fs (d :: ds) sl S = (match g2 d sl with
    | none => none
    | some sl1 => match fs sl1 S with
      | some (.nx sl2 S2) => forLoop g2 fs ds sl2 S2
      | some (.ct sl2 S2) => forLoop g2 fs ds sl2 S2
      | some (.bk sl2 S2) => some (.nx sl2 S2)
      | r => r) := rfl
@[simp] theorem lc_nil {g2 : PyData → Sl → Option Sl} {acc : List PyData} : lcLoop g2 ft f sl [] acc S = some (acc, S) := rfl
theorem lc_cons {g2 : PyData → Sl → Option Sl} {acc ds : List PyData} : lcLoop g2 ft f sl (d :: ds) acc S = (match g2 d sl with
    | none => none
    | some sl1 => match ft sl1 S with
      | some (.tb false S1) => lcLoop g2 ft f sl ds acc S1
      | some (.tb true S1) => match f sl1 S1 with
        | some (.val .pure (.py y) S2) => if acc.length < LIM then lcLoop g2 ft f sl ds (acc ++ [y]) S2 else none
        | _ => none
      | _ => none) := rfl
@[simp] theorem ap_Yes : fYes sl S = some (.tb true S) := rfl
@[simp] theorem ap_Lc {g2 : PyData → Sl → Option Sl} {vs : List Nat} : fLc fi g2 ft f vs sl S = (match fi sl S with
  | some (ds, S1) => match lcLoop g2 ft f (wipeSl sl vs) ds [] S1 with
    | some (acc, S2) => some (.val .fresh (.py (.list acc)) S2)
    | none => none
  | none => none) := rfl
@[simp] theorem ap_Lock : fLock i fs sl S = (match fs sl S with
  | some (.nx sl' S') => some (.nx (lockSl i sl') S')
  | r => r) := rfl
@[simp] theorem ap_Lend : fLend i ft sl S = (match ft (lockSl i sl) S with
  | some (.tb b S') => if boxInts S' = true then some (.tb b S') else none
  | _ => none) := rfl
@[simp] theorem ap_SetBox : fSetBox i f sl S = bindS (f sl S) sl fun t v S1 => (match t, v with
  | .fresh, .py d => some (.nx (sl.set i (.p (.box S1.length))) (S1 ++ [d]))
  | _, _ => none) := rfl
@[simp] theorem ap_BoxSet : fBoxSet i j f sl S = bindS (f sl S) sl fun t v S1 => (match t, v, sl[i]? with
  | .pure, .py y, some (.p (.box k)) => match S1[k]? with
    | some (.list ds) => if j < ds.length then some (.nx sl (S1.set k (.list (ds.set j y)))) else none
    | _ => none
  | _, _, _ => none) := rfl
@[simp] theorem ap_App : fApp i ga sl S = (match ga sl S with
  | some (.vals [(.pure, .py y)] S1) => match sl[i]? with
    | some (.own (.list ds)) => if ds.length < LIM then some (.nx (sl.set i (.own (.list (ds ++ [y])))) S1) else none
    | _ => none
  | _ => none) := rfl
@[simp] theorem ap_TabIn {neg : Bool} {kvs : List (Str × PyData)} : fTabIn neg kvs f sl S = bindE (f sl S) fun _ v S1 => (match v with
  | .py (.str z) => some (.val .pure (.py (.bool (neg ^^ (kvs.lookup z).isSome))) S1)
  | _ => none) := rfl
@[simp] theorem ap_TabIx {kvs : List (Str × PyData)} : fTabIx kvs f sl S = bindE (f sl S) fun _ v S1 => (match v with
  | .py (.str z) => match kvs.lookup z with
    | some d => some (.val .pure (.py d) S1)
    | none => none
  | _ => none) := rfl
@[simp] theorem ap_TabGet {kvs : List (Str × PyData)} : fTabGet kvs f g sl S = bindE (f sl S) fun _ v S1 => (match v with
  | .py (.str z) => bindE (g sl S1) fun t2 v2 S2 => match t2 with
    | .pure => match kvs.lookup z with
      | some d => some (.val .pure (.py d) S2)
      | none => some (.val .pure v2 S2)
    | _ => none
  | _ => none) := rfl
@[simp] theorem ap_Bits : fBits f sl S = bindE (f sl S) fun _ v S1 => (match v with
  | .py (.int i) => some (.val .pure (.py (.int ((Builtin.Int.intBits i : Nat) : Int))) S1)
  | _ => none) := rfl
@[simp] theorem ap_IsiC {tab : List (Str × Bool)} : fIsiC tab f sl S = bindE (f sl S) fun t v S1 => (match t, v with
  | .pure, .err c _ => match tab.lookup c with
    | some b => some (.val .pure (.py (.bool b)) S1)
    | none => none
  | .pure, .py .none => some (.val .pure (.py (.bool false)) S1)
  | _, _ => none) := rfl
@[simp] theorem ap_ErrVal {cs : List Str} : fErrVal cs f sl S = bindE (f sl S) fun t v S1 => (match t, v with
  | .pure, .err c d => if cs.contains c = true then some (.val .pure (.py d) S1) else none
  | _, _ => none) := rfl
@[simp] theorem ap_Raise : fRaise c ga sl S = (match ga sl S with
  | some (.vals [(.pure, .py d)] S1) => some (.exn c d sl S1)
  | some (.exn c' d S1) => some (.exn c' d sl S1)
  | _ => none) := rfl
@[simp] theorem ap_Keep {cs : List Str} : fKeep cs i j fs sl S = (match fs sl S with
  | some (.exn c d sl' S') => if cs.contains c then some (.nx ((sl'.set j (.p (.err c d))).set i .un) S') else none
  | r => r) := rfl
@[simp] theorem ap_Par : fPar i j f g sl S = bindS (f sl S) sl fun t1 v1 S1 => bindS (g sl S1) sl fun t2 v2 S2 => (match slotOf t1 v1, slotOf t2 v2 with
  | some s1, some s2 => if i < sl.length ∧ j < sl.length then some (.nx ((sl.set i s1).set j s2) S2) else none
  | _, _ => none) := rfl
@[simp] theorem ap_Chain {s1 s2 : PyData → PyData → Option (Tg × PyData)} : fChain s1 s2 f g h sl S = bindE (f sl S) fun _ v1 S1 => bindE (g sl S1) fun t2 v2 S2 =>
  (match t2, cont S2 v1, cont S2 v2 with
  | .pure, some d1, some d2 => match s1 d1 d2 with
    | some (_, .bool true) => bindE (h sl S2) fun _ v3 S3 => match cont S3 v2, cont S3 v3 with
      | some d2', some d3 => match s2 d2' d3 with
        | some (_, .bool e) => some (.val .pure (.py (.bool e)) S3)
        | _ => none
      | _, _ => none
    | some (_, .bool false) => some (.val .pure (.py (.bool false)) S2)
    | _ => none
  | _, _, _ => none) := rfl
@[simp] theorem ap_Neg : fNeg f sl S = bindE (f sl S) fun _ v S1 => (match v with
  | .py (.int i) => some (.val .pure (.py (.int (-i))) S1)
  | _ => none) := rfl
@[simp] theorem ap_Asg {g2 : PyData → Sl → Option Sl} : fAsg f g2 sl S = bindS (f sl S) sl fun t v S1 => (match t, v with
  | .pure, .py d => match g2 d sl with
    | some sl' => some (.nx sl' S1)
    | none => none
  | _, _ => none) := rfl
/-! a def's end -/
def outF : Option SR → Option ER
  | some (.rt t v S') => some (.val t v S')
  | some (.nx _ S') => some (.val .pure (.py .none) S')
  | some (.exn c d _ S') => some (.exn c d S')
  | _ => none
@[simp] theorem outF_rt : outF (some (.rt t v S)) = some (.val t v S) := rfl
@[simp] theorem outF_nx : outF (some (.nx sl S)) = some (.val .pure (.py .none) S) := rfl
@[simp] theorem outF_exn : outF (some (.exn c d sl S)) = some (.exn c d S) := rfl
@[simp] theorem outF_none : outF none = none := rfl
@[simp] theorem outF_ite {c : Prop} [Decidable c] {a b : Option SR} : outF (if c then a else b) = if c then outF a else outF b := by split <;> rfl
@[simp] theorem outE_ite {c : Prop} [Decidable c] {a b : Option ER} : outE (if c then a else b) = if c then outE a else outE b := by split <;> rfl
theorem funF1 {N : Nat} {a : Vl} : funF N 1 fs [a] S = outF (fs (.p a :: List.replicate (N - 1) .un) S) := by
  unfold funF; simp only [List.length_cons, List.length_nil, if_true, List.map_cons, List.map_nil, List.cons_append, List.nil_append]; unfold outF; split <;> simp_all
theorem funF2 {N : Nat} {a b : Vl} : funF N 2 fs [a, b] S = outF (fs (.p a :: .p b :: List.replicate (N - 2) .un) S) := by
  unfold funF; simp only [List.length_cons, List.length_nil, if_true, List.map_cons, List.map_nil, List.cons_append, List.nil_append]; unfold outF; split <;> simp_all
theorem funF3 {N : Nat} {a b c : Vl} : funF N 3 fs [a, b, c] S = outF (fs (.p a :: .p b :: .p c :: List.replicate (N - 3) .un) S) := by
  unfold funF; simp only [List.length_cons, List.length_nil, if_true, List.map_cons, List.map_nil, List.cons_append, List.nil_append]; unfold outF; split <;> simp_all
theorem funF4 {N : Nat} {a b c d : Vl} : funF N 4 fs [a, b, c, d] S = outF (fs (.p a :: .p b :: .p c :: .p d :: List.replicate (N - 4) .un) S) := by
  unfold funF; simp only [List.length_cons, List.length_nil, if_true, List.map_cons, List.map_nil, List.cons_append, List.nil_append]; unfold outF; split <;> simp_all
theorem funF0 {N : Nat} : funF N 0 fs [] S = outF (fs (List.replicate N .un) S) := by
  unfold funF; simp only [List.length_nil, if_true, List.map_nil, List.nil_append, Nat.sub_zero]; unfold outF; split <;> simp_all
end
/-! statement by statement -/
theorem then_nx {f g : FS} {sl sl' : Sl} {S S' : SS} {r : Option SR} (h : f sl S = some (.nx sl' S')) (q : g sl' S' = r) : fThen f g sl S = r := by
  unfold fThen
  rw [h]
  exact q
theorem then_rt {f g : FS} {sl : Sl} {S S' : SS} {t : Tg} {v : Vl} (h : f sl S = some (.rt t v S')) : fThen f g sl S = some (.rt t v S') := by
  unfold fThen
  rw [h]
theorem then_exn {f g : FS} {sl sl' : Sl} {S S' : SS} {c : Str} {d : PyData} (h : f sl S = some (.exn c d sl' S')) : fThen f g sl S = some (.exn c d sl' S') := by
  unfold fThen
  rw [h]
theorem for_nx {fi : FI} {g : PyData → Sl → Option Sl} {b : FS} {sl sl' : Sl} {S S1 S' : SS} {ds : List PyData} (h : fi sl S = some (ds, S1)) (q : forLoop g b ds sl S1 = some (.nx sl' S')) : fFor fi g b sl S = some (.nx sl' S') := by
  unfold fFor
  rw [h]
  exact q
/-! data -/
@[simp] theorem ixP_t0 {a : PyData} {r : List PyData} : ixP (.tuple (a :: r)) (.int 0) = some a := by
  unfold ixP atI ixN; simp
@[simp] theorem ixP_l0 {a : PyData} {r : List PyData} : ixP (.list (a :: r)) (.int 0) = some a := by
  unfold ixP atI ixN; simp
theorem atI_nat' {α : Type} {xs : List α} {i : Nat} : atI xs (i : Int) = xs[i]? := by
  unfold atI ixN
  by_cases h : i < xs.length
  · rw [if_pos (by omega), if_pos (by omega)]
    simp
  · by_cases h2 : (0 : Int) ≤ i
    · rw [if_pos h2, if_neg (by omega)]
      simp; omega
    · omega
theorem ixP_tn {xs : List PyData} {i : Nat} : ixP (.tuple xs) (.int (i : Int)) = xs[i]? := atI_nat'
theorem ixP_ln {xs : List PyData} {i : Nat} : ixP (.list xs) (.int (i : Int)) = xs[i]? := atI_nat'
@[simp] theorem ixP_t1 {a b : PyData} {r : List PyData} : ixP (.tuple (a :: b :: r)) (.int 1) = some b := ixP_tn (i := 1)
@[simp] theorem ixP_t2 {a b c : PyData} {r : List PyData} : ixP (.tuple (a :: b :: c :: r)) (.int 2) = some c := ixP_tn (i := 2)
@[simp] theorem ixP_t3 {a b c d : PyData} {r : List PyData} : ixP (.tuple (a :: b :: c :: d :: r)) (.int 3) = some d := ixP_tn (i := 3)
@[simp] theorem ixP_l1 {a b : PyData} {r : List PyData} : ixP (.list (a :: b :: r)) (.int 1) = some b := ixP_ln (i := 1)
@[simp] theorem ixP_l2 {a b c : PyData} {r : List PyData} : ixP (.list (a :: b :: c :: r)) (.int 2) = some c := ixP_ln (i := 2)
@[simp] theorem ixP_l3 {a b c d : PyData} {r : List PyData} : ixP (.list (a :: b :: c :: d :: r)) (.int 3) = some d := ixP_ln (i := 3)
@[simp] theorem eqP_str {a b : String} : eqP (.str (Str.ofString a)) (.str (Str.ofString b)) = some (.pure, .bool (decide (a = b))) := by
  unfold eqP; rw [if_pos (by unfold eqOk; simp [PyData.plain, PyData.depth, DEEP])]; simp [PyData.eqv, ofString_beq]
@[simp] theorem neP_str {a b : String} : neP (.str (Str.ofString a)) (.str (Str.ofString b)) = some (.pure, .bool (!decide (a = b))) := by
  unfold neP; rw [if_pos (by unfold eqOk; simp [PyData.plain, PyData.depth, DEEP])]; simp [PyData.eqv, ofString_beq]
@[simp] theorem eqP_int {a b : Int} : eqP (.int a) (.int b) = some (.pure, .bool (decide (a = b))) := by
  unfold eqP; rw [if_pos (by unfold eqOk; simp [PyData.plain, PyData.depth, DEEP])]; simp [PyData.eqv]; rfl
@[simp] theorem neP_int {a b : Int} : neP (.int a) (.int b) = some (.pure, .bool (!decide (a = b))) := by
  unfold neP; rw [if_pos (by unfold eqOk; simp [PyData.plain, PyData.depth, DEEP])]; simp [PyData.eqv]; rfl
@[simp] theorem eqP_bool {a b : Bool} : eqP (.bool a) (.bool b) = some (.pure, .bool (a == b)) := by
  unfold eqP; rw [if_pos (by unfold eqOk; simp [PyData.plain, PyData.depth, DEEP])]; simp [PyData.eqv]
@[simp] theorem neP_bool {a b : Bool} : neP (.bool a) (.bool b) = some (.pure, .bool (!(a == b))) := by
  unfold neP; rw [if_pos (by unfold eqOk; simp [PyData.plain, PyData.depth, DEEP])]; simp [PyData.eqv]
theorem eqP_of {a b : PyData} (h : eqOk a b = true) : eqP a b = some (.pure, .bool (PyData.eqv a b)) := if_pos h
theorem neP_of {a b : PyData} (h : eqOk a b = true) : neP a b = some (.pure, .bool (!PyData.eqv a b)) := if_pos h
@[simp] theorem ltP_int {g : Int → Int → Bool} {a b : Int} : ltP g (.int a) (.int b) = some (.pure, .bool (g a b)) := rfl
@[simp] theorem isNon_none : isNon (.py .none) = true := rfl
@[simp] theorem isNon_bool {b : Bool} : isNon (.py (.bool b)) = false := rfl
@[simp] theorem isNon_int {b : Int} : isNon (.py (.int b)) = false := rfl
@[simp] theorem isNon_str {b : Str} : isNon (.py (.str b)) = false := rfl
@[simp] theorem isNon_list {b : List PyData} : isNon (.py (.list b)) = false := rfl
@[simp] theorem isNon_tuple {b : List PyData} : isNon (.py (.tuple b)) = false := rfl
@[simp] theorem isNon_err {c : Str} {d : PyData} : isNon (.err c d) = false := rfl
@[simp] theorem addP_int {a b : Int} : addP (.int a) (.int b) = some (.pure, .int (a + b)) := rfl
@[simp] theorem subP_int {a b : Int} : subP (.int a) (.int b) = some (.pure, .int (a - b)) := rfl
@[simp] theorem intP_int {a : Int} : intP [.int a] = some (.pure, .int a) := rfl
@[simp] theorem lenP_list {xs : List PyData} : lenP [.list xs] = some (.pure, .int xs.length) := rfl
@[simp] theorem lenP_tuple {xs : List PyData} : lenP [.tuple xs] = some (.pure, .int xs.length) := rfl
end PP
set_option Elab.async false
set_option linter.all false
set_option maxRecDepth 100000
set_option maxHeartbeats 4000000
namespace PP
open PySem L2 PySem.Spec PyProof.Rows
/-! ## loops -/
@[simp] theorem LIM_eq : LIM = 100000 := rfl
theorem for_inv {g : PyData → Sl → Option Sl} {body : FS} (P : Nat → Sl → SS → Prop) : ∀ (ds : List PyData) (k : Nat) (sl : Sl) (S : SS), P k sl S →
    (∀ i d sl S, ds[i]? = some d → P (k + i) sl S → ∃ sl1 sl2 S2, g d sl = some sl1 ∧ (body sl1 S = some (.nx sl2 S2) ∨ body sl1 S = some (.ct sl2 S2)) ∧ P (k + i + 1) sl2 S2) →
    ∃ sl' S', forLoop g body ds sl S = some (.nx sl' S') ∧ P (k + ds.length) sl' S'
  | [], k, sl, S, h, _ => ⟨sl, S, rfl, h⟩
  | d :: ds, k, sl, S, h, st => by
    obtain ⟨sl1, sl2, S2, e1, e2, h2⟩ := st 0 d sl S rfl h
    obtain ⟨sl', S', e3, h3⟩ := for_inv P ds (k + 1) sl2 S2 h2 (fun i d' sl S e q => by
      have := st (i + 1) d' sl S (by simpa using e) (by rw [show k + (i + 1) = k + 1 + i by omega]; exact q)
      rw [show k + (i + 1) + 1 = k + 1 + i + 1 by omega] at this
      exact this)
    refine ⟨sl', S', ?_, by rw [show k + (d :: ds).length = k + 1 + ds.length by simp; omega]; exact h3⟩
    rw [for_cons, e1]
    rcases e2 with e2 | e2 <;> (dsimp only; rw [e2]; exact e3)
/-- a comprehension that draws nothing -/
theorem lc_pure {g : PyData → Sl → Option Sl} {t : FT} {f : FE} {sl : Sl} {S : SS} (p : PyData → Bool) (y : PyData → PyData) : ∀ (ds acc : List PyData),
    (∀ d ∈ ds, ∃ sl1, g d sl = some sl1 ∧ t sl1 S = some (.tb (p d) S) ∧ (p d = true → f sl1 S = some (.val .pure (.py (y d)) S))) → acc.length + ds.length ≤ LIM →
    lcLoop g t f sl ds acc S = some (acc ++ (ds.filter p).map y, S)
  | [], acc, _, _ => by simp
  | d :: ds, acc, h, hl => by
    obtain ⟨sl1, e1, e2, e3⟩ := h d (List.mem_cons_self ..)
    have hl' : acc.length + ds.length + 1 ≤ LIM := by simpa [Nat.add_assoc] using hl
    rw [lc_cons, e1]
    dsimp only
    rw [e2]
    cases q : p d with
    | false =>
      dsimp only
      rw [lc_pure p y ds acc (fun d hd => h d (List.mem_cons_of_mem _ hd)) (by omega), List.filter_cons, q]
      rfl
    | true =>
      dsimp only
      rw [e3 q]
      dsimp only
      rw [if_pos (by omega), lc_pure p y ds _ (fun d hd => h d (List.mem_cons_of_mem _ hd)) (by rw [List.length_append]; simp only [List.length_singleton]; omega), List.filter_cons, q]
      simp
theorem lc_map {g : PyData → Sl → Option Sl} {f : FE} {sl : Sl} {S : SS} (y : PyData → PyData) (ds : List PyData)
    (h : ∀ d ∈ ds, ∃ sl1, g d sl = some sl1 ∧ f sl1 S = some (.val .pure (.py (y d)) S)) (hl : ds.length ≤ LIM) :
    lcLoop g fYes f sl ds [] S = some (ds.map y, S) := by
  rw [lc_pure (fun _ => true) y ds [] (fun d hd => let ⟨sl1, e1, e2⟩ := h d hd; ⟨sl1, e1, rfl, fun _ => e2⟩) (by simpa using hl), List.filter_eq_self.mpr (fun _ _ => rfl), List.nil_append]
/-- a comprehension that draws -/
theorem lc_inv {g : PyData → Sl → Option Sl} {t : FT} {f : FE} {sl : Sl} (P : Nat → List PyData → SS → Prop) : ∀ (ds : List PyData) (k : Nat) (acc : List PyData) (S : SS), P k acc S → acc.length + ds.length ≤ LIM →
    (∀ i d acc S, ds[i]? = some d → P (k + i) acc S → ∃ sl1, g d sl = some sl1 ∧ ((∃ S1, t sl1 S = some (.tb false S1) ∧ P (k + i + 1) acc S1) ∨ ∃ S1 y S2, t sl1 S = some (.tb true S1) ∧ f sl1 S1 = some (.val .pure (.py y) S2) ∧ P (k + i + 1) (acc ++ [y]) S2)) →
    ∃ acc' S', lcLoop g t f sl ds acc S = some (acc', S') ∧ P (k + ds.length) acc' S' ∧ acc'.length ≤ acc.length + ds.length
  | [], k, acc, S, h, _, _ => ⟨acc, S, rfl, h, Nat.le_refl _⟩
  | d :: ds, k, acc, S, h, hl, st => by
    have hl' : acc.length + ds.length + 1 ≤ LIM := by simpa [Nat.add_assoc] using hl
    have st' : ∀ i d' acc S, ds[i]? = some d' → P (k + 1 + i) acc S → ∃ sl1, g d' sl = some sl1 ∧ ((∃ S1, t sl1 S = some (.tb false S1) ∧ P (k + 1 + i + 1) acc S1) ∨ ∃ S1 y S2, t sl1 S = some (.tb true S1) ∧ f sl1 S1 = some (.val .pure (.py y) S2) ∧ P (k + 1 + i + 1) (acc ++ [y]) S2) := fun i d' acc S e q => by
      have := st (i + 1) d' acc S (by simpa using e) (by rw [show k + (i + 1) = k + 1 + i by omega]; exact q)
      rw [show k + (i + 1) + 1 = k + 1 + i + 1 by omega] at this
      exact this
    obtain ⟨sl1, e1, e2⟩ := st 0 d acc S rfl h
    rw [lc_cons, e1]
    dsimp only
    rcases e2 with ⟨S1, e2, h2⟩ | ⟨S1, y, S2, e2, e3, h2⟩
    · rw [e2]
      dsimp only
      obtain ⟨acc', S', e4, h4, hl4⟩ := lc_inv P ds (k + 1) acc S1 h2 (by omega) st'
      exact ⟨acc', S', e4, by rw [show k + (d :: ds).length = k + 1 + ds.length by simp; omega]; exact h4, by simp only [List.length_cons]; omega⟩
    · rw [e2]
      dsimp only
      rw [e3]
      dsimp only
      rw [if_pos (by omega)]
      obtain ⟨acc', S', e4, h4, hl4⟩ := lc_inv P ds (k + 1) (acc ++ [y]) S2 h2 (by rw [List.length_append]; simp only [List.length_singleton]; omega) st'
      rw [List.length_append] at hl4
      simp only [List.length_singleton] at hl4
      exact ⟨acc', S', e4, by rw [show k + (d :: ds).length = k + 1 + ds.length by simp; omega]; exact h4, by simp only [List.length_cons]; omega⟩
/-! ## sizes of numbers -/
def LG (k : Nat) (i : Int) : Prop := i.natAbs.log2 ≤ k
theorem LG.of_lt {k : Nat} {i : Int} (h : i.natAbs < 2 ^ (k + 1)) : LG k i := by
  unfold LG
  by_cases z : i.natAbs = 0
  · rw [z]; simp
  · have := (Nat.log2_lt z).mpr h
    omega
theorem LG.lt {k : Nat} {i : Int} (h : LG k i) : i.natAbs < 2 ^ (k + 1) := by
  by_cases z : i.natAbs = 0
  · rw [z]; exact Nat.two_pow_pos _
  · exact (Nat.log2_lt z).mp (Nat.lt_succ_of_le h)
theorem LG.mono {k m : Nat} {i : Int} (h : LG k i) (l : k ≤ m) : LG m i := Nat.le_trans h l
theorem LG.mul {k m : Nat} {i j : Int} (h : LG k i) (g : LG m j) : LG (k + m + 1) (i * j) := by
  refine .of_lt ?_
  rw [Int.natAbs_mul, show k + m + 1 + 1 = (k + 1) + (m + 1) by omega, Nat.pow_add]
  exact Nat.mul_lt_mul'' h.lt g.lt
theorem LG.add {k m : Nat} {i j : Int} (h : LG k i) (g : LG m j) : LG (max k m + 1) (i + j) := by
  refine .of_lt ?_
  have a := (h.mono (Nat.le_max_left k m)).lt
  have b := (g.mono (Nat.le_max_right k m)).lt
  have c := Int.natAbs_add_le i j
  rw [Nat.pow_succ]
  omega
theorem mulP_ok {k m : Nat} {i j : Int} (h : LG k i) (g : LG m j) (l : k + m < 1000000) : mulP (.int i) (.int j) = some (.pure, .int (i * j)) := if_pos (by unfold LG at h g; omega)
theorem fdivP_ok {k : Nat} {i j : Int} (h : 0 < j) (g : LG k j) (l : k < 9000) : fdivP (.int i) (.int j) = some (.pure, .int (i / j)) := if_pos ⟨h, by unfold LG at g; omega⟩
theorem modP_ok {i j : Int} (h : 0 < j) : modP (.int i) (.int j) = some (.pure, .int (i % j)) := if_pos h
/-! ## the laws' own helpers, alike in every law -/
def g_hash : FS :=
    (fThen (fSet 2 (fBin modP (fCall intP (faCons (fBin addP (fBin addP (fBin addP (fBin mulP (fVar 0) (fC (.int (1140671)))) (fBin mulP (fBin mulP (fC (.int (27644437))) (fVar 1)) (fVar 1))) (fBin mulP (fC (.int (131))) (fVar 1))) (fC (.int (19)))) faNil)) (fC (.int (2147483629)))))
    (fThen (fSet 2 (fBin modP (fCall intP (faCons (fBin addP (fBin addP (fBin mulP (fVar 2) (fVar 2)) (fBin mulP (fC (.int (62089))) (fVar 1))) (fC (.int (32416187)))) faNil)) (fC (.int (2147483587)))))
    (fThen (fRet (fBin modP (fCall intP (faCons (fBin mulP (fVar 2) (fC (.int (48271)))) faNil)) (fC (.int (2147483647)))))
    fNil)))
def g_random (H : FF) : FS :=
    (fThen (fIfS (fTb (fBin (ltP fun i j => decide (j < i)) (fIx (fVar 0) (fC (.int (0)))) (fC (.int (0))))) (fThen (fSet 2 (fBin modP (fCall intP (faCons (fIx (fVar 0) (fC (.int (0)))) faNil)) (fVar 1)))
    (fThen (fBoxSet 0 0 (fBin fdivP (fIx (fVar 0) (fC (.int (0)))) (fVar 1)))
    (fThen (fRet (fVar 2))
    fNil))) fNil)
    (fThen (fSet 2 (fC (.int (0))))
    (fThen (fFor (fiRg1 (faCons (fFz (fBin addP (fC (.int (1))) (fBin fdivP (fBits (fVar 1)) (fC (.int (30)))))) faNil)) (gNm 3) (fThen (fBoxSet 0 2 (fFz (fBin addP (fIx (fVar 0) (fC (.int (2)))) (fC (.int (1))))))
    (fThen (fSet 2 (fFz (fBin addP (fBin mulP (fVar 2) (fC (.int (2147483587)))) (fCallF 2 H (faCons (fIx (fVar 0) (fC (.int (1)))) (faCons (fIx (fVar 0) (fC (.int (2)))) faNil))))))
    fNil)))
    (fThen (fRet (fBin modP (fCall intP (faCons (fVar 2) faNil)) (fVar 1)))
    fNil))))
def g_cell : FS :=
    (fThen (fIfS (fTb (fBin (ltP fun i j => decide (i < j)) (fVar 1) (fCall lenP (faCons (fVar 0) faNil)))) (fThen (fRet (fIx (fVar 0) (fVar 1)))
    fNil) fNil)
    (fThen (fRet (fBin modP (fCall sumP (faCons (fSl (fVar 0) foNone (foSome (fC (.int (1))))) faNil)) (fC (.int (1000003)))))
    fNil))
def g_generator (C : FF) : FS :=
    (fThen (fSet 2 (fCallF 2 C (faCons (fVar 0) (faCons (fVar 1) faNil))))
    (fThen (fRet (fSeq .list .fresh (faCons (fBin modP (fCall intP (faCons (fCall maxP (faCons (fBin subP (fVar 2) (fBin powP (fC (.int (10))) (fC (.int (18))))) (faCons (fC (.int (0))) faNil))) faNil)) (fBin powP (fBin powP (fC (.int (10))) (fC (.int (60)))) (fC (.int (10))))) (faCons (fBin modP (fCall intP (faCons (fVar 2) faNil)) (fC (.int (2147483647)))) (faCons (fBin mulP (fC (.int (1000))) (fVar 1)) faNil)))))
    fNil))
def g_pick (R : FF) : FS :=
    (fThen (fRet (fIx (fVar 1) (fCallF 2 R (faCons (fVar 0) (faCons (fCall lenP (faCons (fVar 1) faNil)) faNil)))))
    fNil)
def g_same (F : FF) : FS :=
    (fThen (fIfS (fTb (fIsi2 .list .tuple (fVar 1))) (fThen (fIfS (fOrT (fTb (fBin neP (fIsi .list (fVar 0)) (fIsi .list (fVar 1)))) (fTb (fBin neP (fIsi .tuple (fVar 0)) (fIsi .tuple (fVar 1))))) (fThen (fRet (fC (.bool false)))
    fNil) fNil)
    (fThen (fRet (fAnd (fBin eqP (fCall lenP (faCons (fVar 0) faNil)) (fCall lenP (faCons (fVar 1) faNil))) (fCall allP (faCons (fLc (fiZip (faCons (fVar 0) (faCons (fVar 1) faNil))) (gTp 2 (gsCons (gNm 2) (gsCons (gNm 3) gsNil))) fYes (fCallF 2 F (faCons (fVar 2) (faCons (fVar 3) faNil))) [2, 3]) faNil))))
    fNil)) fNil)
    (fThen (fIfS (fTb (fIsi .dict (fVar 1))) (fThen (fIfS (fOrT (fNotT (fTb (fIsi .dict (fVar 0)))) (fTb (fBin neP (fCall lenP (faCons (fVar 0) faNil)) (fCall lenP (faCons (fVar 1) faNil))))) (fThen (fRet (fC (.bool false)))
    fNil) fNil)
    (fThen (fRet (fCall allP (faCons (fLc (fiSeq (fVar 1)) (gNm 4) fYes (fAnd (fBin (inP false) (fVar 4) (fVar 0)) (fCallF 2 F (faCons (fIx (fVar 0) (fVar 4)) (faCons (fIx (fVar 1) (fVar 4)) faNil)))) [4]) faNil)))
    fNil)) fNil)
    (fThen (fIfS (fTb (fIsi .str (fVar 1))) (fThen (fRet (fAnd (fIsi .str (fVar 0)) (fBin eqP (fVar 0) (fVar 1))))
    fNil) fNil)
    (fThen (fIfS (fTb (fIsN false (fVar 1))) (fThen (fRet (fIsN false (fVar 0)))
    fNil) fNil)
    (fThen (fRet (fAnd (fIsi .int (fVar 0)) (fAnd (fBin eqP (fIsi .bool (fVar 0)) (fIsi .bool (fVar 1))) (fBin eqP (fVar 0) (fVar 1)))))
    fNil)))))
theorem hash_ok {b c : Int} (hb : LG 3000 b) (hc : LG 3000 c) (S : SS) : ∃ r, funF 3 2 g_hash [.py (.int b), .py (.int c)] S = some (.val .pure (.py (.int r)) S) ∧ 0 ≤ r ∧ r < 2147483647 := by
  have l1 : LG 40 1140671 := .of_lt (by decide)
  have l2 : LG 40 27644437 := .of_lt (by decide)
  have l3 : LG 40 131 := .of_lt (by decide)
  have l4 : LG 40 62089 := .of_lt (by decide)
  have l5 : LG 40 48271 := .of_lt (by decide)
  have e1 := mulP_ok hb l1 (by decide)
  have e2 := mulP_ok l2 hc (by decide)
  have e3 := mulP_ok (l2.mul hc) hc (by decide)
  have e4 := mulP_ok l3 hc (by decide)
  rw [funF2]
  let m1 := (b * 1140671 + 27644437 * c * c + 131 * c + 19) % 2147483629
  have b1 : 0 ≤ m1 := Int.emod_nonneg _ (by decide)
  have b2 : m1 < 2147483629 := Int.emod_lt_of_pos _ (by decide)
  have lm1 : LG 40 m1 := .of_lt (by omega)
  have e5 := mulP_ok lm1 lm1 (by decide)
  have e6 := mulP_ok l4 hc (by decide)
  let m2 := (m1 * m1 + 62089 * c + 32416187) % 2147483587
  have b3 : 0 ≤ m2 := Int.emod_nonneg _ (by decide)
  have b4 : m2 < 2147483587 := Int.emod_lt_of_pos _ (by decide)
  have lm2 : LG 40 m2 := .of_lt (by omega)
  have e7 := mulP_ok lm2 l5 (by decide)
  refine ⟨(m2 * 48271) % 2147483647, ?_, Int.emod_nonneg _ (by decide), Int.emod_lt_of_pos _ (by decide)⟩
  have f1 : modP (.int (b * 1140671 + 27644437 * c * c + 131 * c + 19)) (.int 2147483629) = some (.pure, .int m1) := modP_ok (by decide)
  have f2 : modP (.int (m1 * m1 + 62089 * c + 32416187)) (.int 2147483587) = some (.pure, .int m2) := modP_ok (by decide)
  have f3 : modP (.int (m2 * 48271)) (.int 2147483647) = some (.pure, .int (m2 * 48271 % 2147483647)) := modP_ok (by decide)
  clear_value m1 m2
  simp [g_hash, e1, e2, e3, e4, e5, e6, e7, f1, f2, f3]

/-! ### the numbers' generator -/
def bigN : Nat := 2 ^ 2000
def topN : Nat := 10 ^ 600
@[irreducible] def BIG : Int := (bigN : Nat)
@[irreducible] def TOP : Int := (topN : Nat)
theorem bigN_lt : bigN < 2 ^ 3001 := Nat.pow_lt_pow_right (by decide) (by decide)
theorem bigN_ge : 2 ^ 201 ≤ bigN := Nat.pow_le_pow_right (by decide) (by decide)
theorem LG_big {c : Int} (h : 0 ≤ c) (g : c ≤ BIG) : LG 3000 c := .of_lt (by
  unfold BIG at g
  have h7 := bigN_lt
  generalize bigN = x at *
  generalize (2 : Nat) ^ (3000 + 1) = y at *
  omega)
/-- a generator from which B more may be drawn -/
def GOk (B : Nat) (d : PyData) : Prop := ∃ a b c : Int, d = .list [.int a, .int b, .int c] ∧ 0 ≤ a ∧ a < TOP ∧ 0 ≤ b ∧ b < 2147483647 ∧ 0 ≤ c ∧ c + B ≤ BIG
theorem GOk.mono {B B' : Nat} {d : PyData} (h : GOk B d) (l : B' ≤ B) : GOk B' d := by
  obtain ⟨a, b, c, e, h1, h2, h3, h4, h5, h6⟩ := h
  exact ⟨a, b, c, e, h1, h2, h3, h4, h5, by omega⟩
/-- box k holds a generator, all else stands -/
def Gs (k B : Nat) (S S' : SS) : Prop := ∃ d, S' = S.set k d ∧ k < S.length ∧ GOk B d
theorem Gs.trans {k B B' : Nat} {S S1 S2 : SS} (h : Gs k B S S1) (g : Gs k B' S1 S2) : Gs k B' S S2 := by
  obtain ⟨d, rfl, h2, h3⟩ := h
  obtain ⟨d', rfl, g2, g3⟩ := g
  exact ⟨d', by rw [List.set_set], h2, g3⟩
theorem Gs.mono {k B B' : Nat} {S S1 : SS} (h : Gs k B S S1) (l : B' ≤ B) : Gs k B' S S1 := by
  obtain ⟨d, rfl, h2, h3⟩ := h
  exact ⟨d, rfl, h2, h3.mono l⟩
theorem Gs.at {k B : Nat} {S S1 : SS} (h : Gs k B S S1) : ∃ d, S1[k]? = some d ∧ GOk B d := by
  obtain ⟨d, rfl, h2, h3⟩ := h
  exact ⟨d, by rw [List.getElem?_set_self h2], h3⟩
theorem Gs.refl {k B : Nat} {S : SS} {d : PyData} (h : S[k]? = some d) (g : GOk B d) : Gs k B S S := by
  obtain ⟨hl, hd⟩ := List.getElem?_eq_some_iff.mp h
  exact ⟨d, by rw [← hd, List.set_getElem_self], hl, g⟩
def HashOk (H : FF) : Prop := ∀ (b c : Int) (S : SS), LG 3000 b → LG 3000 c → ∃ r, H [.py (.int b), .py (.int c)] S = some (.val .pure (.py (.int r)) S) ∧ 0 ≤ r ∧ r < 2147483647
def RandOk (R : FF) : Prop := ∀ (k B : Nat) (m : Int) (S S0 : SS), Gs k (B + 20) S0 S → 0 < m → m < 2 ^ 200 → ∃ r S', R [.box k, .py (.int m)] S = some (.val .pure (.py (.int r)) S') ∧ 0 ≤ r ∧ r < m ∧ Gs k B S0 S'
theorem bits_le {m : Int} (h0 : 0 < m) (h : m < 2 ^ 200) : 0 ≤ ((Builtin.Int.intBits m : Nat) : Int) / 30 ∧ ((Builtin.Int.intBits m : Nat) : Int) / 30 ≤ 6 := by
  have : Builtin.Int.intBits m ≤ 200 := by
    unfold Builtin.Int.intBits
    split
    · decide
    · have : m.natAbs ≠ 0 := by omega
      have := (Nat.log2_lt this (k := 200)).mpr (by omega)
      omega
  omega
def rBody (H : FF) : FS := (fThen (fBoxSet 0 2 (fFz (fBin addP (fIx (fVar 0) (fC (.int (2)))) (fC (.int (1))))))
      (fThen (fSet 2 (fFz (fBin addP (fBin mulP (fVar 2) (fC (.int (2147483587)))) (fCallF 2 H (faCons (fIx (fVar 0) (fC (.int (1)))) (faCons (fIx (fVar 0) (fC (.int (2)))) faNil))))))
      fNil))
theorem rBody_ok {H : FF} (hH : HashOk H) {k j : Nat} {m a b c dr : Int} {x : Slot} {S0 : SS} (hk : k < S0.length) (h3 : 0 ≤ b) (h4 : b < 2147483647) (h5 : 0 ≤ c) (h6 : c + 1 ≤ BIG) (ld : LG j dr) (hj : j < 1000) :
    ∃ r, rBody H [.p (.box k), .p (.py (.int m)), .p (.py (.int dr)), x] (S0.set k (.list [.int a, .int b, .int c])) = some (.nx [.p (.box k), .p (.py (.int m)), .p (.py (.int r)), x] (S0.set k (.list [.int a, .int b, .int (c + 1)]))) ∧ LG (j + 50) r := by
  have lM : LG 40 2147483587 := .of_lt (by decide)
  have lb : LG 3000 b := LG.mono (LG.of_lt (k := 32) (by omega)) (by decide)
  have hs1 : (S0.set k (PyData.list [PyData.int a, .int b, .int c]))[k]? = some (PyData.list [PyData.int a, .int b, .int c]) := List.getElem?_set_self hk
  have hs2 : (S0.set k (PyData.list [PyData.int a, .int b, .int (c + 1)]))[k]? = some (PyData.list [PyData.int a, .int b, .int (c + 1)]) := List.getElem?_set_self hk
  obtain ⟨r, eh, r0, r1⟩ := hH b (c + 1) (S0.set k (.list [.int a, .int b, .int (c + 1)])) lb (LG_big (by omega) h6)
  have em := mulP_ok ld lM (by omega)
  refine ⟨dr * 2147483587 + r, ?_, ?_⟩
  · simp [rBody, hs1, hs2, em, eh, hk]
  · exact ((ld.mul lM).add (LG.of_lt (k := 40) (i := r) (by omega))).mono (by omega)
theorem rLoop_ok {H : FF} (hH : HashOk H) {k B : Nat} {m a b c : Int} {S0 : SS} {ds : List PyData} (hk : k < S0.length) (h3 : 0 ≤ b) (h4 : b < 2147483647) (h5 : 0 ≤ c) (h6 : c + 10 ≤ BIG) (hr : ds.length ≤ 7) :
    ∃ r x, forLoop (gNm 3) (rBody H) ds [.p (.box k), .p (.py (.int m)), .p (.py (.int 0)), .un] (S0.set k (.list [.int a, .int b, .int c])) = some (.nx [.p (.box k), .p (.py (.int m)), .p (.py (.int r)), x] (S0.set k (.list [.int a, .int b, .int (c + (ds.length : Nat))]))) := by
  obtain ⟨sl', S', e, x, dr, rfl, rfl, _⟩ := for_inv (g := gNm 3) (body := rBody H) (fun i sl S' => ∃ x dr, sl = [.p (.box k), .p (.py (.int m)), .p (.py (.int dr)), x] ∧ S' = S0.set k (.list [.int a, .int b, .int (c + (i : Nat))]) ∧ LG (50 * (i + 1)) dr) ds 0
    [.p (.box k), .p (.py (.int m)), .p (.py (.int 0)), .un] (S0.set k (.list [.int a, .int b, .int c])) ⟨.un, 0, rfl, by simp, Nat.zero_le _⟩ (by
      rintro i d sl S ed ⟨x, dr, rfl, rfl, ld⟩
      have hi : i < 7 := Nat.lt_of_lt_of_le (List.getElem?_eq_some_iff.mp ed).1 hr
      rw [Nat.zero_add] at ld
      obtain ⟨r, e, lr⟩ := rBody_ok hH (m := m) (a := a) (x := .p (.py d)) hk h3 h4 (c := c + ((i : Nat) : Int)) (by omega) (by omega) ld (by omega)
      rw [Nat.zero_add]
      exact ⟨_, _, _, rfl, .inl e, _, r, rfl, by rw [show c + ((i + 1 : Nat) : Int) = c + (i : Int) + 1 by omega], lr.mono (by omega)⟩)
  rw [Nat.zero_add] at e
  exact ⟨dr, x, e⟩
theorem rand_ok {H : FF} (hH : HashOk H) : RandOk (funF 4 2 (g_random H)) := by
  intro k B m S S0 hg h0 hm
  obtain ⟨d, rfl, hk, a, b, c, rfl, h1, h2, h3, h4, h5, h6⟩ := hg
  have lm : LG 300 m := LG.mono (LG.of_lt (k := 200) (by omega)) (by decide)
  have e0 : (S0.set k (.list [.int a, .int b, .int c]))[k]? = some (.list [.int a, .int b, .int c]) := List.getElem?_set_self hk
  rw [funF2]
  by_cases ha : 0 < a
  · refine ⟨a % m, S0.set k (.list [.int (a / m), .int b, .int c]), ?_, Int.emod_nonneg _ (by omega), Int.emod_lt_of_pos _ h0, _, rfl, hk, a / m, b, c, rfl, Int.ediv_nonneg h1 (by omega), ?_, h3, h4, h5, by omega⟩
    · have e1 := modP_ok (i := a) h0
      have e2 := fdivP_ok (i := a) h0 lm (by decide)
      simp [g_random, e0, ha, e1, e2, hk]
    · exact Int.lt_of_le_of_lt (Int.ediv_le_self _ h1) h2
  · obtain ⟨q0, q1⟩ := bits_le h0 hm
    have e2 := fdivP_ok (i := ((Builtin.Int.intBits m : Nat) : Int)) (j := 30) (by decide) (LG.of_lt (k := 40) (by decide)) (by decide)
    generalize hq : ((Builtin.Int.intBits m : Nat) : Int) / 30 = q at q0 q1 e2
    have hr : (rng 0 (1 + q).toNat).length ≤ 7 := by
      unfold rng
      rw [List.length_map, List.length_range]
      omega
    have hb : rgOk (1 + q) = true := rgOk_of (by omega) (by omega)
    obtain ⟨dr, x, e3⟩ := rLoop_ok hH (B := B) (m := m) (a := a) hk h3 h4 h5 (by omega) hr
    refine ⟨dr % m, _, ?_, Int.emod_nonneg _ (by omega), Int.emod_lt_of_pos _ h0, _, rfl, hk, a, b, c + ((rng 0 (1 + q).toNat).length : Nat), rfl, h1, h2, h3, h4, by omega, by omega⟩
    have e4 := modP_ok (i := dr) h0
    unfold rBody at e3
    unfold g_random
    have x1 : ∀ r, outF (some (.rt .pure (.py (.int (dr % m))) (S0.set k (.list [.int a, .int b, .int (c + ((rng 0 (1 + q).toNat).length : Nat))])))) = r → outF (some (.rt .pure (.py (.int (dr % m))) (S0.set k (.list [.int a, .int b, .int (c + ((rng 0 (1 + q).toNat).length : Nat))])))) = r := fun r h => h
    refine (congrArg outF (then_nx (sl' := [.p (.box k), .p (.py (.int m)), .un, .un]) (S' := S0.set k (.list [.int a, .int b, .int c])) ?_ (then_nx (sl' := [.p (.box k), .p (.py (.int m)), .p (.py (.int 0)), .un]) (S' := S0.set k (.list [.int a, .int b, .int c])) ?_ (then_nx (for_nx (ds := rng 0 (1 + q).toNat) (S1 := S0.set k (.list [.int a, .int b, .int c])) ?_ e3) (then_rt (t := .pure) (v := .py (.int (dr % m))) (S' := S0.set k (.list [.int a, .int b, .int (c + ((rng 0 (1 + q).toNat).length : Nat))])) ?_))))).trans rfl
    · simp [e0, ha]
    · simp
    · simp [e2, hb]
    · simp [e4]

theorem hashOk : HashOk (funF 3 2 g_hash) := fun b c S hb hc => hash_ok hb hc S
/-! ### a cell of the script, a new generator, a thing out of a list -/
theorem atI_some {α : Type} {xs : List α} {i : Int} (h0 : 0 ≤ i) (h : i < xs.length) : ∃ x, atI xs i = some x ∧ x ∈ xs ∧ xs[i.toNat]? = some x := by
  obtain ⟨n, rfl⟩ := Int.eq_ofNat_of_zero_le h0
  have hn : n < xs.length := by omega
  refine ⟨xs[n], ?_, List.getElem_mem _, ?_⟩
  · rw [atI_nat', List.getElem?_eq_getElem hn]
  · simp [hn]
theorem intsOf_map (ns : List Int) : intsOf (ns.map PyData.int) = some ns := by
  induction ns with
  | nil => rfl
  | cons i r ih => simp [intsOf, ih]
def CellOk (C : FF) : Prop := ∀ (ns : List Int) (i : Int) (S : SS), 0 ≤ i → ∃ r, C [.py (.list (ns.map PyData.int)), .py (.int i)] S = some (.val .pure (.py (.int r)) S)
theorem cell_ok : CellOk (funF 2 2 g_cell) := by
  intro ns i S h0
  rw [funF2]
  by_cases h : i < ns.length
  · obtain ⟨x, e, hx, _⟩ := atI_some (xs := ns.map PyData.int) h0 (by simpa using h)
    obtain ⟨v, _, rfl⟩ := List.mem_map.mp hx
    have e' : ixP (.list (ns.map PyData.int)) (.int i) = some (.int v) := e
    exact ⟨v, by simp [g_cell, h, e']⟩
  · have ec : cutD (ns.map PyData.int) none (some 1) = (ns.take 1).map PyData.int := by
      unfold cutD
      rw [show HT.sIx (ns.map PyData.int).length 0 none = 0 from rfl, show (some (1 : Int)) = some ((1 : Nat) : Int) from rfl, HT.sIx_nat, List.drop_zero, Nat.sub_zero, List.map_take]
      cases ns with
      | nil => rfl
      | cons a r => simp
    have es : sumP [.list ((ns.take 1).map PyData.int)] = some (.pure, .int (ns.take 1).sum) := by
      show (match intsOf ((ns.take 1).map PyData.int) with
        | some ns => some (Tg.pure, PyData.int ns.sum)
        | none => none) = _
      rw [intsOf_map]
    have em := modP_ok (i := (ns.take 1).sum) (j := 1000003) (by decide)
    exact ⟨(ns.take 1).sum % 1000003, by simp [g_cell, h, slP, ec, es, em, ← List.map_take]⟩

def GenOk (G : FF) : Prop := ∀ (ns : List Int) (i : Int) (B : Nat) (S : SS), 0 ≤ i → i ≤ 1000 → (B : Int) ≤ 2 ^ 200 → ∃ d, G [.py (.list (ns.map PyData.int)), .py (.int i)] S = some (.val .fresh (.py d) S) ∧ GOk B d
theorem gen_ok {C : FF} (hC : CellOk C) : GenOk (funF 3 2 (g_generator C)) := by
  intro ns i B S h0 h1 hB
  obtain ⟨r, e⟩ := hC ns i S h0
  rw [funF2]
  have p1 : powP (.int 10) (.int 18) = some (.pure, .int (10 ^ 18)) := rfl
  have p2 : powP (.int 10) (.int 60) = some (.pure, .int (10 ^ 60)) := rfl
  have p3 : powP (.int (10 ^ 60)) (.int 10) = some (.pure, .int TOP) := by
    have e : ((10 : Int) ^ 60) ^ (Int.toNat 10) = TOP := by
      unfold TOP topN
      decide +kernel
    have h : 0 ≤ (10 : Int) ∧ (10 : Int) ≤ 1000 ∧ Builtin.Int.intBits (10 ^ 60) ≤ 10000 := by decide +kernel
    show (if 0 ≤ (10 : Int) ∧ (10 : Int) ≤ 1000 ∧ Builtin.Int.intBits (10 ^ 60) ≤ 10000 then some (Tg.pure, PyData.int ((10 ^ 60) ^ (Int.toNat 10))) else none) = _
    rw [if_pos h, e]
  have m1 : maxP [.int (r - 10 ^ 18), .int 0] = some (.pure, .int (max (r - 10 ^ 18) 0)) := by
    show some (Tg.pure, PyData.int (if 0 > r - 10 ^ 18 then 0 else r - 10 ^ 18)) = _
    rw [show (if 0 > r - 10 ^ 18 then 0 else r - 10 ^ 18) = max (r - 10 ^ 18) 0 by split <;> omega]
  have ht : 0 < TOP := by unfold TOP topN; decide +kernel
  have m2 := modP_ok (i := max (r - 10 ^ 18) 0) ht
  have m3 := modP_ok (i := r) (j := 2147483647) (by decide)
  have m4 := mulP_ok (i := 1000) (j := i) (k := 40) (m := 40) (.of_lt (by decide)) (.of_lt (by omega)) (by decide)
  have hbig : (1000 : Int) * i + B ≤ BIG := by
    have h2 := bigN_ge
    unfold BIG
    generalize bigN = x at *
    omega
  refine ⟨.list [.int (max (r - 10 ^ 18) 0 % TOP), .int (r % 2147483647), .int (1000 * i)], ?_, _, _, _, rfl, Int.emod_nonneg _ (by omega), Int.emod_lt_of_pos _ ht, Int.emod_nonneg _ (by decide), Int.emod_lt_of_pos _ (by decide), by omega, hbig⟩
  simp only [Int.reducePow] at *
  simp [g_generator, e, p1, p2, p3, m1, m2, m3, m4]
end PP
set_option Elab.async false
set_option linter.all false
set_option maxRecDepth 100000
set_option maxHeartbeats 4000000
namespace PP
open PySem L2 PySem.Spec PyProof.Rows
/-! ## data without dicts, of bounded depth and size -/
inductive Fine : Nat → PyData → Prop
  | none {k : Nat} : Fine k .none
  | bool {k : Nat} {b : Bool} : Fine k (.bool b)
  | int {k : Nat} {i : Int} : Fine k (.int i)
  | str {k : Nat} {s : Str} : Fine k (.str s)
  | list {k : Nat} {ds : List PyData} : ds.length ≤ LIM → (∀ d ∈ ds, Fine k d) → Fine (k + 1) (.list ds)
  | tuple {k : Nat} {ds : List PyData} : ds.length ≤ LIM → (∀ d ∈ ds, Fine k d) → Fine (k + 1) (.tuple ds)
theorem Fine.mono {k m : Nat} {d : PyData} (h : Fine k d) (l : k ≤ m) : Fine m d := by
  induction h generalizing m with
  | none => exact .none
  | bool => exact .bool
  | int => exact .int
  | str => exact .str
  | @list k ds hl _ ih =>
    obtain ⟨m, rfl⟩ : ∃ j, m = j + 1 := ⟨m - 1, by omega⟩
    exact .list hl fun d hd => ih d hd (by omega)
  | @tuple k ds hl _ ih =>
    obtain ⟨m, rfl⟩ : ∃ j, m = j + 1 := ⟨m - 1, by omega⟩
    exact .tuple hl fun d hd => ih d hd (by omega)
theorem plainAll_of {ds : List PyData} (h : ∀ d ∈ ds, d.plain = true) : PyData.plainAll ds = true := by
  induction ds with
  | nil => rfl
  | cons d r ih =>
    simp only [PyData.plainAll, Bool.and_eq_true]
    exact ⟨h d (List.mem_cons_self ..), ih fun x hx => h x (List.mem_cons_of_mem _ hx)⟩
theorem depthAll_of {k : Nat} {ds : List PyData} (h : ∀ d ∈ ds, d.depth ≤ k) : PyData.depthAll ds ≤ k := by
  induction ds with
  | nil => exact Nat.zero_le _
  | cons d r ih =>
    simp only [PyData.depthAll]
    exact Nat.max_le.mpr ⟨h d (List.mem_cons_self ..), ih fun x hx => h x (List.mem_cons_of_mem _ hx)⟩
theorem Fine.plain {k : Nat} {d : PyData} (h : Fine k d) : d.plain = true := by
  induction h with
  | list _ _ ih => simp only [PyData.plain]; exact plainAll_of ih
  | tuple _ _ ih => simp only [PyData.plain]; exact plainAll_of ih
  | _ => rfl
theorem Fine.depth {k : Nat} {d : PyData} (h : Fine k d) : d.depth ≤ k := by
  induction h with
  | list _ _ ih => simp only [PyData.depth]; exact Nat.succ_le_succ (depthAll_of ih)
  | tuple _ _ ih => simp only [PyData.depth]; exact Nat.succ_le_succ (depthAll_of ih)
  | _ => exact Nat.zero_le _
theorem eqOk_fine {k m : Nat} {a b : PyData} (h : Fine k a) (g : Fine m b) (l : min k m ≤ 60) : eqOk a b = true := by
  unfold eqOk
  rw [h.plain, g.plain, Bool.true_and, Bool.true_and]
  have := h.depth
  have := g.depth
  exact decide_eq_true (by simp only [DEEP]; omega)
theorem eqv_refl {k : Nat} {a : PyData} (h : Fine k a) : PyData.eqv a a = true := PySem.SeqAt.eqv_refl_plain a h.plain
theorem eqP_refl {k : Nat} {a : PyData} (h : Fine k a) (l : k ≤ 60) : eqP a a = some (.pure, .bool true) := by
  rw [eqP_of (eqOk_fine h h (by omega)), eqv_refl h]
theorem neP_refl {k : Nat} {a : PyData} (h : Fine k a) (l : k ≤ 60) : neP a a = some (.pure, .bool false) := by
  rw [neP_of (eqOk_fine h h (by omega)), eqv_refl h]
  rfl
theorem inP_list {neg : Bool} {x : PyData} {xs : List PyData} (h : inOk x xs = true) : inP neg x (.list xs) = some (.pure, .bool (neg ^^ xs.any fun y => PyData.eqv y x)) := by
  cases x <;> exact if_pos h
theorem inP_tuple {neg : Bool} {x : PyData} {xs : List PyData} (h : inOk x xs = true) : inP neg x (.tuple xs) = some (.pure, .bool (neg ^^ xs.any fun y => PyData.eqv y x)) := by
  cases x <;> exact if_pos h
theorem allP_of {xs : List PyData} (h : xs.all isB = true) : allP [.list xs] = some (.pure, .bool (xs.all PyData.truthy)) := if_pos h
/-! ### _law_same of a thing and itself -/
theorem same_fine {F : Nat → FF} (hF : ∀ n, F (n + 1) = funF 5 2 (g_same (F n))) {k : Nat} {d : PyData} (h : Fine k d) : k ≤ 60 → ∀ (n : Nat) (S : SS), k + 1 ≤ n → F n [.py d, .py d] S = some (.val .pure (.py (.bool true)) S) := by
  have seq : ∀ (ds : List PyData) (S : SS) (n : Nat), ds.length ≤ LIM → (∀ d ∈ ds, F n [.py d, .py d] S = some (.val .pure (.py (.bool true)) S)) → ∀ (sl : Sl), 4 ≤ sl.length →
      lcLoop (gTp 2 (gsCons (gNm 2) (gsCons (gNm 3) gsNil))) fYes (fCallF 2 (F n) (faCons (fVar 2) (faCons (fVar 3) faNil))) sl (zipD ds ds) [] S = some ((zipD ds ds).map (fun _ => .bool true), S) := by
    intro ds S n hl hds sl h4
    have hz : (zipD ds ds).length = ds.length := by simp [zipD]
    refine lc_map (fun _ => .bool true) _ (fun p hp => ?_) (by rw [hz]; exact hl)
    unfold zipD at hp
    obtain ⟨⟨a, b⟩, hab, rfl⟩ := List.mem_map.mp hp
    have e : a = b ∧ a ∈ ds := by
      clear hp hl hz hds
      induction ds with
      | nil => cases hab
      | cons x r ih =>
        rw [List.zip_cons_cons] at hab
        rcases List.mem_cons.mp hab with q | q
        · cases q; exact ⟨rfl, List.mem_cons_self ..⟩
        · obtain ⟨e1, e2⟩ := ih q; exact ⟨e1, List.mem_cons_of_mem _ e2⟩
    obtain ⟨rfl, ha⟩ := e
    obtain ⟨x0, x1, x2, x3, r, rfl⟩ : ∃ x0 x1 x2 x3 r, sl = x0 :: x1 :: x2 :: x3 :: r := match sl, h4 with
      | x0 :: x1 :: x2 :: x3 :: r, _ => ⟨x0, x1, x2, x3, r, rfl⟩
    refine ⟨x0 :: x1 :: .p (.py a) :: .p (.py a) :: r, by simp, ?_⟩
    simp [hds a ha]
  have allT : ∀ ds : List PyData, allP [.list ((zipD ds ds).map fun _ => PyData.bool true)] = some (.pure, .bool true) := by
    intro ds
    rw [allP_of (by simp [isB])]
    simp [PyData.truthy]
  induction h with
  | none =>
    intro _ n S hn
    obtain ⟨n, rfl⟩ : ∃ j, n = j + 1 := ⟨n - 1, by omega⟩
    rw [hF, funF2]
    simp [g_same, isTy]
  | bool =>
    intro _ n S hn
    obtain ⟨n, rfl⟩ : ∃ j, n = j + 1 := ⟨n - 1, by omega⟩
    rw [hF, funF2]
    simp [g_same, isTy]
  | int =>
    intro _ n S hn
    obtain ⟨n, rfl⟩ : ∃ j, n = j + 1 := ⟨n - 1, by omega⟩
    rw [hF, funF2]
    simp [g_same, isTy]
  | @str k s =>
    intro _ n S hn
    obtain ⟨n, rfl⟩ : ∃ j, n = j + 1 := ⟨n - 1, by omega⟩
    rw [hF, funF2]
    have := eqP_refl (k := 0) (a := .str s) .str (by omega)
    simp [g_same, isTy, this]
  | @list k ds hl _ ih =>
    intro hk n S hn
    obtain ⟨n, rfl⟩ : ∃ j, n = j + 1 := ⟨n - 1, by omega⟩
    rw [hF, funF2]
    have q := seq ds S n hl fun d hd => ih d hd (by omega) n S (by omega)
    have q2 := allT ds
    simp [g_same, isTy, q, q2, wipeSl]
  | @tuple k ds hl _ ih =>
    intro hk n S hn
    obtain ⟨n, rfl⟩ : ∃ j, n = j + 1 := ⟨n - 1, by omega⟩
    rw [hF, funF2]
    have q := seq ds S n hl fun d hd => ih d hd (by omega) n S (by omega)
    have q2 := allT ds
    simp [g_same, isTy, q, q2, wipeSl]
/-! ### a thing out of a list -/
def PickOk (P : FF) : Prop := ∀ (k B : Nat) (xs : List PyData) (S S0 : SS), Gs k (B + 20) S0 S → xs ≠ [] → xs.length ≤ 1000000 → ∃ x S', P [.box k, .py (.list xs)] S = some (.val .pure (.py x) S') ∧ x ∈ xs ∧ Gs k B S0 S'
theorem pick_ok {R : FF} (hR : RandOk R) : PickOk (funF 2 2 (g_pick R)) := by
  intro k B xs S S0 hg hn hl
  have hl0 : 0 < xs.length := List.length_pos_iff.mpr hn
  obtain ⟨r, S', e, r0, r1, g⟩ := hR k B (xs.length : Int) S S0 hg (by omega) (by omega)
  obtain ⟨x, ex, hx, _⟩ := atI_some (xs := xs) r0 r1
  have ex' : ixP (.list xs) (.int r) = some x := ex
  refine ⟨x, S', ?_, hx, g⟩
  rw [funF2]
  simp [g_pick, e, ex']
theorem atI_last' {α : Type} {xs : List α} (h : xs ≠ []) : atI xs (-1) = some (xs.getLast h) := by
  have hl : 0 < xs.length := List.length_pos_iff.mpr h
  unfold atI ixN
  rw [if_neg (by omega)]
  simp only [List.getLast_eq_getElem]
  have : ((-1 : Int) + xs.length).toNat = xs.length - 1 := by omega
  split
  · rw [this]
    show xs[xs.length - 1]? = _
    simp [hl]
  · omega
theorem ixP_tlast {xs : List PyData} (h : xs ≠ []) : ixP (.tuple xs) (.int (-1)) = some (xs.getLast h) := atI_last' h
theorem ixP_llast {xs : List PyData} (h : xs ≠ []) : ixP (.list xs) (.int (-1)) = some (xs.getLast h) := atI_last' h
theorem cut_init {xs : List PyData} : cutD xs none (some (-1)) = xs.dropLast := by
  unfold cutD HT.sIx
  simp only [List.drop_zero, Nat.sub_zero]
  rw [List.dropLast_eq_take]
  congr 1
  split <;> omega
end PP
set_option Elab.async false
set_option linter.all false
set_option maxRecDepth 100000
set_option maxHeartbeats 4000000
namespace K30
open PySem L2 PySem.Spec PyProof.Rows PP
def tp (i : Nat) : Stmt := PySem.Challenge.pw_reasonhouse_k30_whole_signs_handed_on.main.body.getD i (.Pass ⟨0, 0, 0, 0⟩)
def t_TERMS : List (Str × PyData) := [("var", .tuple [.str "name"]), ("any", .tuple [.str "name"]), ("none", .tuple [.str "name"]), ("whole", .tuple [.str "number"]), ("of", .tuple [.str "name", .str "terms"]), ("add", .tuple [.str "term", .str "term"]), ("times", .tuple [.str "number", .str "term"]), ("count", .tuple [.str "term"]), ("only", .tuple [.str "term"]), ("both", .tuple [.str "term", .str "term"]), ("either", .tuple [.str "term", .str "term"]), ("less", .tuple [.str "term", .str "term"]), ("witness", .tuple [.str "saying"])]
def t_SAYINGS : List (Str × PyData) := [("yes", .tuple []), ("no", .tuple []), ("is", .tuple [.str "name", .str "terms"]), ("same", .tuple [.str "term", .str "term"]), ("upto", .tuple [.str "term", .str "term"]), ("in", .tuple [.str "term", .str "term"]), ("within", .tuple [.str "term", .str "term"]), ("ahead", .tuple [.str "name", .str "term", .str "term"]), ("not", .tuple [.str "saying"]), ("and", .tuple [.str "saying", .str "saying"]), ("or", .tuple [.str "saying", .str "saying"]), ("then", .tuple [.str "saying", .str "saying"]), ("alike", .tuple [.str "saying", .str "saying"]), ("each", .tuple [.str "name", .str "name", .str "saying"]), ("some", .tuple [.str "name", .str "name", .str "saying"])]
def t_SAYING_PLACES : List (Str × PyData) := [("not", .tuple [.int (1)]), ("and", .tuple [.int (1), .int (2)]), ("or", .tuple [.int (1), .int (2)]), ("then", .tuple [.int (1), .int (2)]), ("alike", .tuple [.int (1), .int (2)]), ("each", .tuple [.int (3)]), ("some", .tuple [.int (3)])]
def errCs : List Str := ["InvalidSaying", "InvalidLiterals", "InvalidList"]
def isi_InvalidSaying : List (Str × Bool) := [("InvalidSaying", true), ("InvalidLiterals", false), ("InvalidList", false)]
def isi_InvalidLiterals : List (Str × Bool) := [("InvalidSaying", false), ("InvalidLiterals", true), ("InvalidList", false)]
def isi_InvalidList : List (Str × Bool) := [("InvalidSaying", false), ("InvalidLiterals", false), ("InvalidList", true)]
def isi_ValueError : List (Str × Bool) := [("InvalidSaying", true), ("InvalidLiterals", true), ("InvalidList", true)]
def fs__law_caught (L : Nat → FF) : List (Str × Nat × FF) := [("signs_of", 2, L 11), ("part_at", 2, L 13)]
def b_is_whole (L : Nat → FF) : FS :=
    (fThen (fRet (fAnd (fIsi .int (fVar 0)) (fNot (fIsi .bool (fVar 0)))))
    fNil)
def b_is_signs (L : Nat → FF) : FS :=
    (fThen (fRet (fAnd (fIsi .str (fVar 0)) (fBin eqP (fLc (fiSeq (fVar 0)) (gNm 2) (fTb (fBin (inP true) (fVar 2) (fVar 1))) (fVar 2) [2]) (fLit .fresh (.list [])))))
    fNil)
def b_is_name (L : Nat → FF) : FS :=
    (fThen (fRet (fAnd (fCallF 2 (L 1) (faCons (fVar 0) (faCons (fFz (fBin addP (fC (.str "abcdefghijklmnopqrstuvwxyz")) (fC (.str "0123456789")))) faNil))) (fAnd (fChain (ltP fun i j => decide (i < j)) (ltP fun i j => decide (i ≤ j)) (fC (.int (0))) (fCall lenP (faCons (fVar 0) faNil)) (fC (.int (12)))) (fBin (inP false) (fIx (fVar 0) (fC (.int (0)))) (fC (.str "abcdefghijklmnopqrstuvwxyz"))))))
    fNil)
def b_head_of (L : Nat → FF) : FS :=
    (fThen (fRet (fIf (fAndT (fTb (fIsi .tuple (fVar 0))) (fAndT (fTb (fBin neP (fVar 0) (fLit .pure (.tuple [])))) (fTb (fIsi .str (fIx (fVar 0) (fC (.int (0)))))))) (fIx (fVar 0) (fC (.int (0)))) (fC (.str ""))))
    fNil)
def b_fits (L : Nat → FF) : FS :=
    (fThen (fIfS (fTb (fBin eqP (fVar 1) (fC (.str "name")))) (fThen (fRet (fCallF 1 (L 2) (faCons (fVar 0) faNil)))
    fNil) fNil)
    (fThen (fIfS (fTb (fBin eqP (fVar 1) (fC (.str "number")))) (fThen (fRet (fCallF 1 (L 0) (faCons (fVar 0) faNil)))
    fNil) fNil)
    (fThen (fIfS (fTb (fBin eqP (fVar 1) (fC (.str "terms")))) (fThen (fRet (fAnd (fIsi .tuple (fVar 0)) (fCall allP (faCons (fLc (fiSeq (fVar 0)) (gNm 2) fYes (fCallF 1 (L 6) (faCons (fVar 2) faNil)) [2]) faNil))))
    fNil) fNil)
    (fThen (fRet (fIf (fTb (fBin eqP (fVar 1) (fC (.str "term")))) (fCallF 1 (L 6) (faCons (fVar 0) faNil)) (fCallF 1 (L 7) (faCons (fVar 0) faNil))))
    fNil))))
def b_has_parts (L : Nat → FF) : FS :=
    (fThen (fRet (fAnd (fBin eqP (fCall lenP (faCons (fVar 0) faNil)) (fBin addP (fCall lenP (faCons (fVar 1) faNil)) (fC (.int (1))))) (fCall allP (faCons (fLc (fiZip (faCons (fFz (fSl (fVar 0) (foSome (fC (.int (1)))) foNone)) (faCons (fVar 1) faNil))) (gTp 2 (gsCons (gNm 2) (gsCons (gNm 3) gsNil))) fYes (fCallF 2 (L 4) (faCons (fVar 2) (faCons (fVar 3) faNil))) [2, 3]) faNil))))
    fNil)
def b_is_term_shape (L : Nat → FF) : FS :=
    (fThen (fSet 1 (fCallF 1 (L 3) (faCons (fVar 0) faNil)))
    (fThen (fRet (fAnd (fTabIn false t_TERMS (fVar 1)) (fCallF 2 (L 5) (faCons (fVar 0) (faCons (fTabIx t_TERMS (fVar 1)) faNil)))))
    fNil))
def b_is_saying_shape (L : Nat → FF) : FS :=
    (fThen (fSet 1 (fCallF 1 (L 3) (faCons (fVar 0) faNil)))
    (fThen (fRet (fAnd (fTabIn false t_SAYINGS (fVar 1)) (fCallF 2 (L 5) (faCons (fVar 0) (faCons (fTabIx t_SAYINGS (fVar 1)) faNil)))))
    fNil))
def b_sign_handed_on (L : Nat → FF) : FS :=
    (fThen (fIfS (fOrT (fTb (fIsN false (fVar 2))) (fTb (fBin eqP (fIx (fVar 0) (fC (.int (0)))) (fC (.str "alike"))))) (fThen (fRet (fC .none))
    fNil) fNil)
    (fThen (fRet (fIf (fOrT (fTb (fBin eqP (fIx (fVar 0) (fC (.int (0)))) (fC (.str "not")))) (fAndT (fTb (fBin eqP (fIx (fVar 0) (fC (.int (0)))) (fC (.str "then")))) (fTb (fBin eqP (fVar 1) (fC (.int (1))))))) (fNot (fVar 2)) (fVar 2)))
    fNil))
def b_signs_within (L : Nat → FF) : FS :=
    (fThen (fSet 3 (fSeq .list .fresh (faCons (fSeq .tuple .pure (faCons (fVar 2) (faCons (fVar 1) faNil))) faNil)))
    (fThen (fFor (fiSeq (fTabGet t_SAYING_PLACES (fIx (fVar 0) (fC (.int (0)))) (fLit .pure (.tuple [])))) (gNm 4) (fThen (fSet 3 (fBin addP (fVar 3) (fCallF 3 (L 9) (faCons (fIx (fVar 0) (fVar 4)) (faCons (fCallF 3 (L 8) (faCons (fVar 0) (faCons (fVar 4) (faCons (fVar 1) faNil)))) (faCons (fFz (fBin addP (fVar 2) (fSeq .tuple .pure (faCons (fVar 4) faNil)))) faNil))))))
    fNil))
    (fThen (fRet (fVar 3))
    fNil)))
def b_check_saying_shape (L : Nat → FF) : FS :=
    (fThen (fIfS (fNotT (fTb (fCallF 1 (L 7) (faCons (fVar 0) faNil)))) (fThen (fRaise "InvalidSaying" (faCons (fVar 0) faNil))
    fNil) fNil)
    fNil)
def b_signs_of (L : Nat → FF) : FS :=
    (fThen (fDrop (fCallF 1 (L 10) (faCons (fVar 0) faNil)))
    (fThen (fIfS (fNotT (fTb (fIsi .bool (fVar 1)))) (fThen (fRaise "InvalidLiterals" (faCons (fVar 1) faNil))
    fNil) fNil)
    (fThen (fRet (fCallF 3 (L 9) (faCons (fVar 0) (faCons (fVar 1) (faCons (fLit .pure (.tuple [])) faNil)))))
    fNil)))
def b_is_place_in (L : Nat → FF) : FS :=
    (fThen (fIfS (fNotT (fTb (fIsi .tuple (fVar 1)))) (fThen (fRet (fC (.bool false)))
    fNil) fNil)
    (fThen (fSet 2 (fVar 0))
    (fThen (fFor (fiSeq (fVar 1)) (gNm 3) (fThen (fIfS (fOrT (fTb (fIsi .bool (fVar 3))) (fOrT (fNotT (fTb (fIsi .int (fVar 3)))) (fTb (fBin (inP true) (fVar 3) (fTabGet t_SAYING_PLACES (fIx (fVar 2) (fC (.int (0)))) (fLit .pure (.tuple []))))))) (fThen (fRet (fC (.bool false)))
    fNil) fNil)
    (fThen (fSet 2 (fIx (fVar 2) (fVar 3)))
    fNil)))
    (fThen (fRet (fC (.bool true)))
    fNil))))
def b_part_at (L : Nat → FF) : FS :=
    (fThen (fDrop (fCallF 1 (L 10) (faCons (fVar 0) faNil)))
    (fThen (fIfS (fNotT (fTb (fCallF 2 (L 12) (faCons (fVar 0) (faCons (fVar 1) faNil))))) (fThen (fRaise "InvalidList" (faCons (fVar 1) faNil))
    fNil) fNil)
    (fThen (fSet 2 (fVar 0))
    (fThen (fFor (fiSeq (fVar 1)) (gNm 3) (fThen (fSet 2 (fIx (fVar 2) (fVar 3)))
    fNil))
    (fThen (fRet (fVar 2))
    fNil)))))
def b__law_hash (L : Nat → FF) : FS :=
    (fThen (fSet 2 (fBin modP (fCall intP (faCons (fBin addP (fBin addP (fBin addP (fBin mulP (fVar 0) (fC (.int (1140671)))) (fBin mulP (fBin mulP (fC (.int (27644437))) (fVar 1)) (fVar 1))) (fBin mulP (fC (.int (131))) (fVar 1))) (fC (.int (19)))) faNil)) (fC (.int (2147483629)))))
    (fThen (fSet 2 (fBin modP (fCall intP (faCons (fBin addP (fBin addP (fBin mulP (fVar 2) (fVar 2)) (fBin mulP (fC (.int (62089))) (fVar 1))) (fC (.int (32416187)))) faNil)) (fC (.int (2147483587)))))
    (fThen (fRet (fBin modP (fCall intP (faCons (fBin mulP (fVar 2) (fC (.int (48271)))) faNil)) (fC (.int (2147483647)))))
    fNil)))
def b__law_random (L : Nat → FF) : FS :=
    (fThen (fIfS (fTb (fBin (ltP fun i j => decide (j < i)) (fIx (fVar 0) (fC (.int (0)))) (fC (.int (0))))) (fThen (fSet 2 (fBin modP (fCall intP (faCons (fIx (fVar 0) (fC (.int (0)))) faNil)) (fVar 1)))
    (fThen (fBoxSet 0 0 (fBin fdivP (fIx (fVar 0) (fC (.int (0)))) (fVar 1)))
    (fThen (fRet (fVar 2))
    fNil))) fNil)
    (fThen (fSet 2 (fC (.int (0))))
    (fThen (fFor (fiRg1 (faCons (fFz (fBin addP (fC (.int (1))) (fBin fdivP (fBits (fVar 1)) (fC (.int (30)))))) faNil)) (gNm 3) (fThen (fBoxSet 0 2 (fFz (fBin addP (fIx (fVar 0) (fC (.int (2)))) (fC (.int (1))))))
    (fThen (fSet 2 (fFz (fBin addP (fBin mulP (fVar 2) (fC (.int (2147483587)))) (fCallF 2 (L 14) (faCons (fIx (fVar 0) (fC (.int (1)))) (faCons (fIx (fVar 0) (fC (.int (2)))) faNil))))))
    fNil)))
    (fThen (fRet (fBin modP (fCall intP (faCons (fVar 2) faNil)) (fVar 1)))
    fNil))))
def b__law_cell (L : Nat → FF) : FS :=
    (fThen (fIfS (fTb (fBin (ltP fun i j => decide (i < j)) (fVar 1) (fCall lenP (faCons (fVar 0) faNil)))) (fThen (fRet (fIx (fVar 0) (fVar 1)))
    fNil) fNil)
    (fThen (fRet (fBin modP (fCall sumP (faCons (fSl (fVar 0) foNone (foSome (fC (.int (1))))) faNil)) (fC (.int (1000003)))))
    fNil))
def b__law_generator (L : Nat → FF) : FS :=
    (fThen (fSet 2 (fCallF 2 (L 16) (faCons (fVar 0) (faCons (fVar 1) faNil))))
    (fThen (fRet (fSeq .list .fresh (faCons (fBin modP (fCall intP (faCons (fCall maxP (faCons (fBin subP (fVar 2) (fBin powP (fC (.int (10))) (fC (.int (18))))) (faCons (fC (.int (0))) faNil))) faNil)) (fBin powP (fBin powP (fC (.int (10))) (fC (.int (60)))) (fC (.int (10))))) (faCons (fBin modP (fCall intP (faCons (fVar 2) faNil)) (fC (.int (2147483647)))) (faCons (fBin mulP (fC (.int (1000))) (fVar 1)) faNil)))))
    fNil))
def b__law_pick (L : Nat → FF) : FS :=
    (fThen (fRet (fIx (fVar 1) (fCallF 2 (L 15) (faCons (fVar 0) (faCons (fCall lenP (faCons (fVar 1) faNil)) faNil)))))
    fNil)
def b__law_same (L : Nat → FF) : FS :=
    (fThen (fIfS (fTb (fIsi2 .list .tuple (fVar 1))) (fThen (fIfS (fOrT (fTb (fBin neP (fIsi .list (fVar 0)) (fIsi .list (fVar 1)))) (fTb (fBin neP (fIsi .tuple (fVar 0)) (fIsi .tuple (fVar 1))))) (fThen (fRet (fC (.bool false)))
    fNil) fNil)
    (fThen (fRet (fAnd (fBin eqP (fCall lenP (faCons (fVar 0) faNil)) (fCall lenP (faCons (fVar 1) faNil))) (fCall allP (faCons (fLc (fiZip (faCons (fVar 0) (faCons (fVar 1) faNil))) (gTp 2 (gsCons (gNm 2) (gsCons (gNm 3) gsNil))) fYes (fCallF 2 (L 19) (faCons (fVar 2) (faCons (fVar 3) faNil))) [2, 3]) faNil))))
    fNil)) fNil)
    (fThen (fIfS (fTb (fIsi .dict (fVar 1))) (fThen (fIfS (fOrT (fNotT (fTb (fIsi .dict (fVar 0)))) (fTb (fBin neP (fCall lenP (faCons (fVar 0) faNil)) (fCall lenP (faCons (fVar 1) faNil))))) (fThen (fRet (fC (.bool false)))
    fNil) fNil)
    (fThen (fRet (fCall allP (faCons (fLc (fiSeq (fVar 1)) (gNm 4) fYes (fAnd (fBin (inP false) (fVar 4) (fVar 0)) (fCallF 2 (L 19) (faCons (fIx (fVar 0) (fVar 4)) (faCons (fIx (fVar 1) (fVar 4)) faNil)))) [4]) faNil)))
    fNil)) fNil)
    (fThen (fIfS (fTb (fIsi .str (fVar 1))) (fThen (fRet (fAnd (fIsi .str (fVar 0)) (fBin eqP (fVar 0) (fVar 1))))
    fNil) fNil)
    (fThen (fIfS (fTb (fIsN false (fVar 1))) (fThen (fRet (fIsN false (fVar 0)))
    fNil) fNil)
    (fThen (fRet (fAnd (fIsi .int (fVar 0)) (fAnd (fBin eqP (fIsi .bool (fVar 0)) (fIsi .bool (fVar 1))) (fBin eqP (fVar 0) (fVar 1)))))
    fNil)))))
def b__law_named_thing (L : Nat → FF) : FS :=
    (fThen (fLock 3 (fSet 3 (fLc (fiSeq (fVar 1)) (gTp 2 (gsCons (gNm 4) (gsCons (gNm 5) gsNil))) (fTb (fBin eqP (fVar 5) (fVar 2))) (fSeq .tuple .pure (faCons (fC (.str "var")) (faCons (fVar 4) faNil))) [4, 5])))
    (fThen (fIfS (fAndT (fTb (fBin neP (fVar 3) (fLit .fresh (.list [])))) (fTb (fBin (ltP fun i j => decide (j < i)) (fCallF 2 (L 15) (faCons (fVar 0) (faCons (fC (.int (3))) faNil))) (fC (.int (0)))))) (fThen (fRet (fCallF 2 (L 18) (faCons (fVar 0) (faCons (fVar 3) faNil))))
    fNil) fNil)
    (fThen (fIfS (fTb (fBin eqP (fVar 2) (fC (.str "p")))) (fThen (fRet (fIf (fTb (fBin eqP (fCallF 2 (L 15) (faCons (fVar 0) (faCons (fC (.int (2))) faNil))) (fC (.int (0))))) (fLit .pure (.tuple [.str "of", .str "a", .tuple []])) (fSeq .tuple .pure (faCons (fC (.str "of")) (faCons (fC (.str "f")) (faCons (fSeq .tuple .pure (faCons (fIf (fTb (fBin eqP (fVar 3) (fLit .fresh (.list [])))) (fLit .pure (.tuple [.str "of", .str "b", .tuple []])) (fIx (fVar 3) (fC (.int (0))))) faNil)) faNil))))))
    fNil) fNil)
    (fThen (fRet (fIf (fTb (fBin eqP (fCallF 2 (L 15) (faCons (fVar 0) (faCons (fC (.int (2))) faNil))) (fC (.int (0))))) (fLit .pure (.tuple [.str "of", .str "d", .tuple []])) (fSeq .tuple .pure (faCons (fC (.str "of")) (faCons (fC (.str "h")) (faCons (fSeq .tuple .pure (faCons (fCallF 3 (L 20) (faCons (fVar 0) (faCons (fVar 1) (faCons (fC (.str "p")) faNil)))) faNil)) faNil))))))
    fNil))))
def b__law_leaf_saying (L : Nat → FF) : FS :=
    (fThen (fSet 2 (fCallF 2 (L 15) (faCons (fVar 0) (faCons (fC (.int (8))) faNil))))
    (fThen (fPar 3 4 (fCallF 3 (L 20) (faCons (fVar 0) (faCons (fVar 1) (faCons (fC (.str "p")) faNil)))) (fCallF 3 (L 20) (faCons (fVar 0) (faCons (fVar 1) (faCons (fC (.str "p")) faNil)))))
    (fThen (fIfS (fTb (fBin (ltP fun i j => decide (i < j)) (fVar 2) (fC (.int (2))))) (fThen (fRet (fIf (fTb (fBin eqP (fVar 2) (fC (.int (0))))) (fSeq .tuple .pure (faCons (fC (.str "is")) (faCons (fC (.str "r")) (faCons (fSeq .tuple .pure (faCons (fVar 3) faNil)) faNil)))) (fSeq .tuple .pure (faCons (fC (.str "is")) (faCons (fC (.str "likes")) (faCons (fSeq .tuple .pure (faCons (fVar 3) (faCons (fCallF 3 (L 20) (faCons (fVar 0) (faCons (fVar 1) (faCons (fC (.str "q")) faNil)))) faNil))) faNil))))))
    fNil) fNil)
    (fThen (fIfS (fTb (fBin (ltP fun i j => decide (i < j)) (fVar 2) (fC (.int (4))))) (fThen (fRet (fIf (fTb (fBin eqP (fVar 2) (fC (.int (2))))) (fSeq .tuple .pure (faCons (fC (.str "same")) (faCons (fVar 3) (faCons (fVar 4) faNil)))) (fSeq .tuple .pure (faCons (fC (.str "ahead")) (faCons (fC (.str "older")) (faCons (fVar 3) (faCons (fVar 4) faNil)))))))
    fNil) fNil)
    (fThen (fIfS (fTb (fBin (ltP fun i j => decide (i < j)) (fVar 2) (fC (.int (6))))) (fThen (fRet (fIf (fTb (fBin eqP (fVar 2) (fC (.int (4))))) (fSeq .tuple .pure (faCons (fC (.str "in")) (faCons (fVar 3) (faCons (fSeq .tuple .pure (faCons (fC (.str "of")) (faCons (fC (.str "s")) (faCons (fSeq .tuple .pure (faCons (fVar 4) faNil)) faNil)))) faNil)))) (fSeq .tuple .pure (faCons (fC (.str "within")) (faCons (fSeq .tuple .pure (faCons (fC (.str "of")) (faCons (fC (.str "s")) (faCons (fSeq .tuple .pure (faCons (fVar 3) faNil)) faNil)))) (faCons (fSeq .tuple .pure (faCons (fC (.str "only")) (faCons (fVar 4) faNil))) faNil))))))
    fNil) fNil)
    (fThen (fRet (fIf (fTb (fBin eqP (fVar 2) (fC (.int (6))))) (fSeq .tuple .pure (faCons (fC (.str "upto")) (faCons (fSeq .tuple .pure (faCons (fC (.str "of")) (faCons (fC (.str "n")) (faCons (fSeq .tuple .pure (faCons (fVar 3) faNil)) faNil)))) (faCons (fSeq .tuple .pure (faCons (fC (.str "whole")) (faCons (fCallF 2 (L 15) (faCons (fVar 0) (faCons (fC (.int (5))) faNil))) faNil))) faNil)))) (fCallF 2 (L 18) (faCons (fVar 0) (faCons (fFz (fLit .fresh (.list [.tuple [.str "yes"], .tuple [.str "no"]]))) faNil)))))
    fNil))))))
def b__law_saying (L : Nat → FF) : FS :=
    (fThen (fSet 3 (fCallF 2 (L 15) (faCons (fVar 0) (faCons (fC (.int (8))) faNil))))
    (fThen (fIfS (fOrT (fTb (fBin eqP (fVar 1) (fC (.int (0))))) (fTb (fBin eqP (fVar 3) (fC (.int (0)))))) (fThen (fRet (fCallF 2 (L 21) (faCons (fVar 0) (faCons (fVar 2) faNil))))
    fNil) fNil)
    (fThen (fIfS (fTb (fBin eqP (fVar 3) (fC (.int (1))))) (fThen (fRet (fSeq .tuple .pure (faCons (fC (.str "not")) (faCons (fCallF 3 (L 22) (faCons (fVar 0) (faCons (fBin subP (fVar 1) (fC (.int (1)))) (faCons (fVar 2) faNil)))) faNil))))
    fNil) fNil)
    (fThen (fIfS (fTb (fBin (ltP fun i j => decide (i < j)) (fVar 3) (fC (.int (5))))) (fThen (fRet (fSeq .tuple .pure (faCons (fCallF 2 (L 18) (faCons (fVar 0) (faCons (fFz (fLit .fresh (.list [.str "and", .str "or", .str "then", .str "alike", .str "then"]))) faNil))) (faCons (fCallF 3 (L 22) (faCons (fVar 0) (faCons (fBin subP (fVar 1) (fC (.int (1)))) (faCons (fVar 2) faNil)))) (faCons (fCallF 3 (L 22) (faCons (fVar 0) (faCons (fBin subP (fVar 1) (fC (.int (1)))) (faCons (fVar 2) faNil)))) faNil)))))
    fNil) fNil)
    (fThen (fPar 4 5 (fFz (fBin addP (fC (.str "x")) (fCall strP (faCons (fCall lenP (faCons (fVar 2) faNil)) faNil)))) (fCallF 2 (L 18) (faCons (fVar 0) (faCons (fFz (fLit .fresh (.list [.str "p", .str "p", .str "q", .str "col"]))) faNil))))
    (fThen (fRet (fSeq .tuple .pure (faCons (fCallF 2 (L 18) (faCons (fVar 0) (faCons (fFz (fLit .fresh (.list [.str "each", .str "some"]))) faNil))) (faCons (fVar 4) (faCons (fVar 5) (faCons (fCallF 3 (L 22) (faCons (fVar 0) (faCons (fBin subP (fVar 1) (fC (.int (1)))) (faCons (fFz (fBin addP (fVar 2) (fSeq .list .fresh (faCons (fSeq .tuple .pure (faCons (fVar 4) (faCons (fVar 5) faNil))) faNil)))) faNil)))) faNil))))))
    fNil))))))
def b__law_signs (L : Nat → FF) : FS :=
    (fThen (fPar 3 4 (fFz (fSeq .list .fresh (faCons (fSeq .tuple .pure (faCons (fVar 2) (faCons (fVar 1) faNil))) faNil))) (fIx (fVar 0) (fC (.int (0)))))
    (fThen (fSet 5 (fIf (fTb (fIsN false (fVar 1))) (fC .none) (fNot (fVar 1))))
    (fThen (fIfS (fTb (fBin eqP (fVar 4) (fC (.str "not")))) (fThen (fRet (fFz (fBin addP (fVar 3) (fCallF 3 (L 23) (faCons (fIx (fVar 0) (fC (.int (1)))) (faCons (fVar 5) (faCons (fFz (fBin addP (fVar 2) (fLit .pure (.tuple [.int (1)])))) faNil)))))))
    fNil) fNil)
    (fThen (fIfS (fTb (fBin (inP false) (fVar 4) (fLit .fresh (.list [.str "and", .str "or"])))) (fThen (fRet (fFz (fBin addP (fBin addP (fVar 3) (fCallF 3 (L 23) (faCons (fIx (fVar 0) (fC (.int (1)))) (faCons (fVar 1) (faCons (fFz (fBin addP (fVar 2) (fLit .pure (.tuple [.int (1)])))) faNil))))) (fCallF 3 (L 23) (faCons (fIx (fVar 0) (fC (.int (2)))) (faCons (fVar 1) (faCons (fFz (fBin addP (fVar 2) (fLit .pure (.tuple [.int (2)])))) faNil)))))))
    fNil) fNil)
    (fThen (fIfS (fTb (fBin eqP (fVar 4) (fC (.str "then")))) (fThen (fRet (fFz (fBin addP (fBin addP (fVar 3) (fCallF 3 (L 23) (faCons (fIx (fVar 0) (fC (.int (1)))) (faCons (fVar 5) (faCons (fFz (fBin addP (fVar 2) (fLit .pure (.tuple [.int (1)])))) faNil))))) (fCallF 3 (L 23) (faCons (fIx (fVar 0) (fC (.int (2)))) (faCons (fVar 1) (faCons (fFz (fBin addP (fVar 2) (fLit .pure (.tuple [.int (2)])))) faNil)))))))
    fNil) fNil)
    (fThen (fIfS (fTb (fBin eqP (fVar 4) (fC (.str "alike")))) (fThen (fRet (fFz (fBin addP (fBin addP (fVar 3) (fCallF 3 (L 23) (faCons (fIx (fVar 0) (fC (.int (1)))) (faCons (fC .none) (faCons (fFz (fBin addP (fVar 2) (fLit .pure (.tuple [.int (1)])))) faNil))))) (fCallF 3 (L 23) (faCons (fIx (fVar 0) (fC (.int (2)))) (faCons (fC .none) (faCons (fFz (fBin addP (fVar 2) (fLit .pure (.tuple [.int (2)])))) faNil)))))))
    fNil) fNil)
    (fThen (fRet (fFz (fIf (fTb (fBin (inP false) (fVar 4) (fLit .fresh (.list [.str "each", .str "some"])))) (fBin addP (fVar 3) (fCallF 3 (L 23) (faCons (fIx (fVar 0) (fC (.int (3)))) (faCons (fVar 1) (faCons (fFz (fBin addP (fVar 2) (fLit .pure (.tuple [.int (3)])))) faNil))))) (fVar 3))))
    fNil)))))))
def b__law_part (L : Nat → FF) : FS :=
    (fThen (fSet 2 (fVar 0))
    (fThen (fFor (fiSeq (fVar 1)) (gNm 3) (fThen (fSet 2 (fIx (fVar 2) (fVar 3)))
    fNil))
    (fThen (fRet (fVar 2))
    fNil)))
def b__law_caught (L : Nat → FF) : FS :=
    (fThen (fSet 2 (fC .none))
    (fThen (fKeep errCs 3 2 (fThen (fDrop (fCallL 0 (fs__law_caught L) (faCons (fIx (fVar 1) (fC (.int (0)))) (faCons (fIx (fVar 1) (fC (.int (1)))) faNil))))
    fNil))
    (fThen (fIfS (fTb (fIsN false (fVar 2))) (fThen (fRet (fFz (fLit .fresh (.list [.str "none"]))))
    fNil) fNil)
    (fThen (fSet 4 (fFz (fSeq .list .fresh (faCons (fIsiC (isi_InvalidSaying) (fVar 2)) (faCons (fIsiC (isi_InvalidLiterals) (fVar 2)) (faCons (fIsiC (isi_InvalidList) (fVar 2)) faNil))))))
    (fThen (fRet (fFz (fSeq .list .fresh (faCons (fFz (fLc (fiEn (faCons (fVar 4) faNil)) (gTp 2 (gsCons (gNm 5) (gsCons (gNm 6) gsNil))) (fTb (fVar 6)) (fVar 5) [5, 6])) (faCons (fIsiC (isi_ValueError) (fVar 2)) (faCons (fCall reprP (faCons (fErrVal errCs (fVar 2)) faNil)) faNil))))))
    fNil)))))
def b__law_right (L : Nat → FF) : FS :=
    (fThen (fFor (fiSeq (fFz (fLit .fresh (.list [.bool true, .bool false])))) (gNm 2) (fThen (fSet 3 (fCallF 3 (L 23) (faCons (fVar 1) (faCons (fVar 2) (faCons (fLit .pure (.tuple [])) faNil)))))
    (fThen (fSet 4 (fCallF 2 (L 11) (faCons (fVar 1) (faCons (fVar 2) faNil))))
    (fThen (fIfS (fLend 4 (fOrT (fNotT (fTb (fCallF 2 (L 19) (faCons (fFz (fSeq .list .fresh (faCons (fVar 4) (faCons (fFz (fCallK [1, 0] 2 2 (L 11) (faCons (fVar 2) (faCons (fVar 1) faNil)))) faNil)))) (faCons (fFz (fSeq .list .fresh (faCons (fVar 3) (faCons (fVar 3) faNil)))) faNil))))) (fTb (fBin neP (fLc (fiSeq (fVar 4)) (gTp 2 (gsCons (gNm 6) (gsCons (gNm 11) gsNil))) fYes (fVar 6) [6, 11]) (fCall sortP (faCons (fLc (fiSeq (fVar 4)) (gTp 2 (gsCons (gNm 6) (gsCons (gNm 11) gsNil))) fYes (fVar 6) [6, 11]) faNil)))))) (fThen (fRet (fC (.bool false)))
    fNil) fNil)
    (fThen (fIfS (fTb (fBin neP (fSl (fLc (fiSeq (fFz (fCallF 2 (L 11) (faCons (fSeq .tuple .pure (faCons (fC (.str "not")) (faCons (fVar 1) faNil))) (faCons (fVar 2) faNil))))) (gTp 2 (gsCons (gNm 6) (gsCons (gNm 11) gsNil))) fYes (fVar 11) [6, 11]) (foSome (fC (.int (1)))) foNone) (fLc (fiSeq (fFz (fCallF 2 (L 11) (faCons (fVar 1) (faCons (fNot (fVar 2)) faNil))))) (gTp 2 (gsCons (gNm 6) (gsCons (gNm 11) gsNil))) fYes (fVar 11) [6, 11]))) (fThen (fRet (fC (.bool false)))
    fNil) fNil)
    (fThen (fApp 4 (faCons (fC .none) faNil))
    fNil))))))
    (fThen (fLock 5 (fSet 5 (fLc (fiSeq (fCallF 3 (L 23) (faCons (fVar 1) (faCons (fC (.bool true)) (faCons (fLit .pure (.tuple [])) faNil))))) (gTp 2 (gsCons (gNm 6) (gsCons (gNm 11) gsNil))) fYes (fVar 6) [6, 11])))
    (fThen (fFor (fiSeq (fVar 5)) (gNm 6) (fThen (fSet 7 (fCallF 2 (L 24) (faCons (fVar 1) (faCons (fVar 6) faNil))))
    (fThen (fIfS (fNotT (fTb (fCallF 2 (L 19) (faCons (fFz (fSeq .list .fresh (faCons (fCallF 2 (L 13) (faCons (fVar 1) (faCons (fVar 6) faNil))) (faCons (fCallK [1, 0] 2 2 (L 13) (faCons (fVar 6) (faCons (fVar 1) faNil))) faNil)))) (faCons (fFz (fSeq .list .fresh (faCons (fVar 7) (faCons (fVar 7) faNil)))) faNil))))) (fThen (fRet (fC (.bool false)))
    fNil) fNil)
    fNil)))
    (fThen (fSet 8 (fIx (fVar 5) (fLit .pure (.int (-1)))))
    (fThen (fSet 9 (fFz (fSeq .list .fresh (faCons (fC .none) (faCons (fC (.int (1))) (faCons (fC (.str "1")) (faCons (fFz (fLit .fresh (.list []))) (faCons (fFz (fLit .fresh (.list [.int (1)]))) (faCons (fFz (fun _ S => some (.val .fresh (.py (.dict [])) S))) (faCons (fLit .pure (.tuple [.int (0)])) (faCons (fLit .pure (.tuple [.int (7)])) (faCons (fLit .pure (.tuple [.int (-1)])) (faCons (fLit .pure (.tuple [.none])) (faCons (fLit .pure (.tuple [.str "1"])) (faCons (fLit .pure (.tuple [.tuple [.int (1)]])) (faCons (fFz (fBin addP (fVar 8) (fLit .pure (.tuple [.int (0)])))) (faCons (fFz (fBin addP (fVar 8) (fLit .pure (.tuple [.int (1)])))) (faCons (fFz (fBin addP (fVar 8) (fLit .pure (.tuple [.int (3)])))) (faCons (fFz (fBin addP (fIx (fVar 5) (fC (.int (0)))) (fLit .pure (.tuple [.int (4)])))) faNil)))))))))))))))))))
    (fThen (fFor (fiSeq (fFz (fBin addP (fBin addP (fVar 9) (fIf (fTb (fBin (inP false) (fLit .pure (.tuple [.int (1)])) (fVar 5))) (fLit .fresh (.list [.tuple [.bool true]])) (fLit .fresh (.list [])))) (fLc (fiSeq (fFz (fSl (fVar 5) (foSome (fC (.int (1)))) foNone))) (gNm 6) fYes (fFz (fBin addP (fSl (fVar 6) foNone (foSome (fLit .pure (.int (-1))))) (fSeq .tuple .pure (faCons (fFz (fBin addP (fIx (fVar 6) (fLit .pure (.int (-1)))) (fC (.int (9))))) faNil)))) [6])))) (gNm 10) (fThen (fIfS (fAndT (fOrT (fNotT (fTb (fIsi .tuple (fVar 10)))) (fTb (fBin (inP true) (fCall reprP (faCons (fVar 10) faNil)) (fLc (fiSeq (fVar 5)) (gNm 6) fYes (fCall reprP (faCons (fVar 6) faNil)) [6])))) (fTb (fBin neP (fCallF 2 (L 25) (faCons (fFn "part_at") (faCons (fFz (fSeq .list .fresh (faCons (fVar 1) (faCons (fVar 10) faNil)))) faNil))) (fSeq .list .fresh (faCons (fFz (fLit .fresh (.list [.int (2)]))) (faCons (fC (.bool true)) (faCons (fCall reprP (faCons (fVar 10) faNil)) faNil))))))) (fThen (fRet (fC (.bool false)))
    fNil) fNil)
    fNil))
    (fThen (fRet (fBin eqP (fLc (fiSeq (fFz (fLit .fresh (.list [.none, .int (0), .int (1), .str "True", .list [], .tuple []])))) (gNm 12) (fTb (fBin neP (fCallF 2 (L 25) (faCons (fFn "signs_of") (faCons (fFz (fSeq .list .fresh (faCons (fVar 1) (faCons (fVar 12) faNil)))) faNil))) (fSeq .list .fresh (faCons (fFz (fLit .fresh (.list [.int (1)]))) (faCons (fC (.bool true)) (faCons (fCall reprP (faCons (fVar 12) faNil)) faNil)))))) (fVar 12) [12]) (fLit .fresh (.list []))))
    fNil)))))))
def b_law (L : Nat → FF) : FS :=
    (fThen (fFor (fiRg1 (faCons (fC (.int (4))) faNil)) (gNm 1) (fThen (fSetBox 2 (fCallF 2 (L 17) (faCons (fVar 0) (faCons (fVar 1) faNil))))
    (fThen (fIfS (fNotT (fTb (fCallF 2 (L 26) (faCons (fVar 2) (faCons (fCallF 3 (L 22) (faCons (fVar 2) (faCons (fFz (fBin addP (fC (.int (2))) (fCallF 2 (L 15) (faCons (fVar 2) (faCons (fC (.int (5))) faNil))))) (faCons (fFz (fLit .fresh (.list []))) faNil)))) faNil))))) (fThen (fRet (fC (.bool false)))
    fNil) fNil)
    fNil)))
    (fThen (fSet 3 (fFz (fLit .fresh (.list [.none, .tuple [], .list [], .dict [], .str "yes", .int (7), .bool true, .list [.str "yes"], .tuple [.str "yes", .int (1)], .tuple [.str "not"], .tuple [.str "not", .tuple [.str "var", .str "x"]], .tuple [.str "and", .tuple [.str "yes"]], .tuple [.str "and", .tuple [.str "yes"], .tuple [.str "no"], .tuple [.str "no"]], .tuple [.str "maybe", .tuple [.str "yes"]]]))))
    (fThen (fSet 3 (fFz (fBin addP (fVar 3) (fLit .fresh (.list [.tuple [.str "each", .str "x", .str "p"], .tuple [.str "each", .str "x", .str "p", .none], .tuple [.str "or", .tuple [.str "yes"], .str "no"], .tuple [.str "then", .tuple [.str "yes"], .list [.str "no"]], .tuple [.str "alike", .none, .tuple [.str "yes"]], .tuple [.str "not", .tuple [.str "not", .tuple [.str "not", .none]]], .tuple [.str "var", .str "x"]])))))
    (fThen (fFor (fiSeq (fVar 3)) (gNm 4) (fThen (fIfS (fOrT (fTb (fBin neP (fCallF 2 (L 25) (faCons (fFn "signs_of") (faCons (fFz (fSeq .list .fresh (faCons (fVar 4) (faCons (fC .none) faNil)))) faNil))) (fSeq .list .fresh (faCons (fFz (fLit .fresh (.list [.int (0)]))) (faCons (fC (.bool true)) (faCons (fCall reprP (faCons (fVar 4) faNil)) faNil)))))) (fTb (fBin neP (fCallF 2 (L 25) (faCons (fFn "part_at") (faCons (fFz (fSeq .list .fresh (faCons (fVar 4) (faCons (fC .none) faNil)))) faNil))) (fSeq .list .fresh (faCons (fFz (fLit .fresh (.list [.int (0)]))) (faCons (fC (.bool true)) (faCons (fCall reprP (faCons (fVar 4) faNil)) faNil))))))) (fThen (fRet (fC (.bool false)))
    fNil) fNil)
    fNil))
    (fThen (fSet 5 (fLit .pure (.tuple [.str "then", .tuple [.str "not", .tuple [.str "each", .str "x", .str "p", .tuple [.str "alike", .tuple [.str "is", .str "r", .tuple [.tuple [.str "var", .str "x"]]], .tuple [.str "yes"]]]], .tuple [.str "no"]])))
    (fThen (fSet 6 (fFz (fLit .fresh (.list [.tuple [.tuple [], .bool false], .tuple [.tuple [.int (1)], .bool true], .tuple [.tuple [.int (1), .int (1)], .bool false], .tuple [.tuple [.int (1), .int (1), .int (3)], .bool false], .tuple [.tuple [.int (1), .int (1), .int (3), .int (1)], .none], .tuple [.tuple [.int (1), .int (1), .int (3), .int (2)], .none], .tuple [.tuple [.int (2)], .bool false]]))))
    (fThen (fRet (fAnd (fCallF 2 (L 19) (faCons (fFz (fCallF 2 (L 11) (faCons (fVar 5) (faCons (fC (.bool false)) faNil)))) (faCons (fVar 6) faNil))) (fBin eqP (fCallF 2 (L 13) (faCons (fVar 5) (faCons (fLit .pure (.tuple [.int (1), .int (1), .int (3), .int (1)])) faNil))) (fLit .pure (.tuple [.str "is", .str "r", .tuple [.tuple [.str "var", .str "x"]]])))))
    fNil)))))))
/-- what each def does, by the depth of calls -/
def sem : Nat → Nat → FF
  | 0, _ => fun _ _ => none
  | n + 1, 0 => funF 1 1 (b_is_whole (sem n))
  | n + 1, 1 => funF 3 2 (b_is_signs (sem n))
  | n + 1, 2 => funF 1 1 (b_is_name (sem n))
  | n + 1, 3 => funF 1 1 (b_head_of (sem n))
  | n + 1, 4 => funF 3 2 (b_fits (sem n))
  | n + 1, 5 => funF 4 2 (b_has_parts (sem n))
  | n + 1, 6 => funF 2 1 (b_is_term_shape (sem n))
  | n + 1, 7 => funF 2 1 (b_is_saying_shape (sem n))
  | n + 1, 8 => funF 3 3 (b_sign_handed_on (sem n))
  | n + 1, 9 => funF 5 3 (b_signs_within (sem n))
  | n + 1, 10 => funF 1 1 (b_check_saying_shape (sem n))
  | n + 1, 11 => funF 2 2 (b_signs_of (sem n))
  | n + 1, 12 => funF 4 2 (b_is_place_in (sem n))
  | n + 1, 13 => funF 4 2 (b_part_at (sem n))
  | n + 1, 14 => funF 3 2 (b__law_hash (sem n))
  | n + 1, 15 => funF 4 2 (b__law_random (sem n))
  | n + 1, 16 => funF 2 2 (b__law_cell (sem n))
  | n + 1, 17 => funF 3 2 (b__law_generator (sem n))
  | n + 1, 18 => funF 2 2 (b__law_pick (sem n))
  | n + 1, 19 => funF 5 2 (b__law_same (sem n))
  | n + 1, 20 => funF 6 3 (b__law_named_thing (sem n))
  | n + 1, 21 => funF 5 2 (b__law_leaf_saying (sem n))
  | n + 1, 22 => funF 6 3 (b__law_saying (sem n))
  | n + 1, 23 => funF 6 3 (b__law_signs (sem n))
  | n + 1, 24 => funF 4 2 (b__law_part (sem n))
  | n + 1, 25 => funF 7 2 (b__law_caught (sem n))
  | n + 1, 26 => funF 13 2 (b__law_right (sem n))
  | n + 1, 27 => funF 7 1 (b_law (sem n))
  | _ + 1, _ => fun _ _ => none
theorem sem_is_whole (n : Nat) : sem (n + 1) 0 = funF 1 1 (b_is_whole (sem n)) := rfl
theorem sem_is_signs (n : Nat) : sem (n + 1) 1 = funF 3 2 (b_is_signs (sem n)) := rfl
theorem sem_is_name (n : Nat) : sem (n + 1) 2 = funF 1 1 (b_is_name (sem n)) := rfl
theorem sem_head_of (n : Nat) : sem (n + 1) 3 = funF 1 1 (b_head_of (sem n)) := rfl
theorem sem_fits (n : Nat) : sem (n + 1) 4 = funF 3 2 (b_fits (sem n)) := rfl
theorem sem_has_parts (n : Nat) : sem (n + 1) 5 = funF 4 2 (b_has_parts (sem n)) := rfl
theorem sem_is_term_shape (n : Nat) : sem (n + 1) 6 = funF 2 1 (b_is_term_shape (sem n)) := rfl
theorem sem_is_saying_shape (n : Nat) : sem (n + 1) 7 = funF 2 1 (b_is_saying_shape (sem n)) := rfl
theorem sem_sign_handed_on (n : Nat) : sem (n + 1) 8 = funF 3 3 (b_sign_handed_on (sem n)) := rfl
theorem sem_signs_within (n : Nat) : sem (n + 1) 9 = funF 5 3 (b_signs_within (sem n)) := rfl
theorem sem_check_saying_shape (n : Nat) : sem (n + 1) 10 = funF 1 1 (b_check_saying_shape (sem n)) := rfl
theorem sem_signs_of (n : Nat) : sem (n + 1) 11 = funF 2 2 (b_signs_of (sem n)) := rfl
theorem sem_is_place_in (n : Nat) : sem (n + 1) 12 = funF 4 2 (b_is_place_in (sem n)) := rfl
theorem sem_part_at (n : Nat) : sem (n + 1) 13 = funF 4 2 (b_part_at (sem n)) := rfl
theorem sem__law_hash (n : Nat) : sem (n + 1) 14 = funF 3 2 (b__law_hash (sem n)) := rfl
theorem sem__law_random (n : Nat) : sem (n + 1) 15 = funF 4 2 (b__law_random (sem n)) := rfl
theorem sem__law_cell (n : Nat) : sem (n + 1) 16 = funF 2 2 (b__law_cell (sem n)) := rfl
theorem sem__law_generator (n : Nat) : sem (n + 1) 17 = funF 3 2 (b__law_generator (sem n)) := rfl
theorem sem__law_pick (n : Nat) : sem (n + 1) 18 = funF 2 2 (b__law_pick (sem n)) := rfl
theorem sem__law_same (n : Nat) : sem (n + 1) 19 = funF 5 2 (b__law_same (sem n)) := rfl
theorem sem__law_named_thing (n : Nat) : sem (n + 1) 20 = funF 6 3 (b__law_named_thing (sem n)) := rfl
theorem sem__law_leaf_saying (n : Nat) : sem (n + 1) 21 = funF 5 2 (b__law_leaf_saying (sem n)) := rfl
theorem sem__law_saying (n : Nat) : sem (n + 1) 22 = funF 6 3 (b__law_saying (sem n)) := rfl
theorem sem__law_signs (n : Nat) : sem (n + 1) 23 = funF 6 3 (b__law_signs (sem n)) := rfl
theorem sem__law_part (n : Nat) : sem (n + 1) 24 = funF 4 2 (b__law_part (sem n)) := rfl
theorem sem__law_caught (n : Nat) : sem (n + 1) 25 = funF 7 2 (b__law_caught (sem n)) := rfl
theorem sem__law_right (n : Nat) : sem (n + 1) 26 = funF 13 2 (b__law_right (sem n)) := rfl
theorem sem_law (n : Nat) : sem (n + 1) 27 = funF 7 1 (b_law (sem n)) := rfl
/-- what the written part says -/
structure MF (P : Program) (w : World) (K : PySem.W.Frag) (mg : Str → Option Value) (R0 fI : Addr) : Prop where
  f_ValueError : mg "ValueError" = none
  f_all : mg "all" = none
  f_bool : mg "bool" = none
  f_dict : mg "dict" = none
  f_enumerate : mg "enumerate" = none
  f_int : mg "int" = none
  f_isinstance : mg "isinstance" = none
  f_len : mg "len" = none
  f_list : mg "list" = none
  f_max : mg "max" = none
  f_range : mg "range" = none
  f_repr : mg "repr" = none
  f_sorted : mg "sorted" = none
  f_str : mg "str" = none
  f_sum : mg "sum" = none
  f_tuple : mg "tuple" = none
  f_zip : mg "zip" = none
  c_SMALL : ∃ t, mg "SMALL" = some (.str "abcdefghijklmnopqrstuvwxyz" t)
  c_FIGURES : ∃ t, mg "FIGURES" = some (.str "0123456789" t)
  c_MOST_NAME : ∃ t, mg "MOST_NAME" = some (.int 12 t)
  t_TERMS : TabAt K w mg "TERMS" t_TERMS
  t_SAYINGS : TabAt K w mg "SAYINGS" t_SAYINGS
  t_SAYING_PLACES : TabAt K w mg "SAYING_PLACES" t_SAYING_PLACES
  g_signs_of : ∃ a, mg "signs_of" = some (.ref a)
  g_part_at : ∃ a, mg "part_at" = some (.ref a)
  g_ReasonError : mg "ReasonError" = some (.ref R0)
  errs : ErrsOk P K mg R0 fI errCs
  isi_InvalidSaying : ∃ CT, mg "InvalidSaying" = some (.ref CT) ∧ IsiAt K mg isi_InvalidSaying (.ref CT)
  isi_InvalidLiterals : ∃ CT, mg "InvalidLiterals" = some (.ref CT) ∧ IsiAt K mg isi_InvalidLiterals (.ref CT)
  isi_InvalidList : ∃ CT, mg "InvalidList" = some (.ref CT) ∧ IsiAt K mg isi_InvalidList (.ref CT)
  isi_ValueError : IsiAt K mg isi_ValueError (.type "ValueError")
/-- what the defs do, at a level -/
structure Oks (P : Program) (w : World) (K : PySem.W.Frag) (mg : Str → Option Value) (base : Heap) (n : Nat) (L : Nat → FF) : Prop where
  o_is_whole : CK P w K mg base n "is_whole" 1 (L 0)
  o_is_signs : CK P w K mg base n "is_signs" 2 (L 1)
  o_is_name : CK P w K mg base n "is_name" 1 (L 2)
  o_head_of : CK P w K mg base n "head_of" 1 (L 3)
  o_fits : CK P w K mg base n "fits" 2 (L 4)
  o_has_parts : CK P w K mg base n "has_parts" 2 (L 5)
  o_is_term_shape : CK P w K mg base n "is_term_shape" 1 (L 6)
  o_is_saying_shape : CK P w K mg base n "is_saying_shape" 1 (L 7)
  o_sign_handed_on : CK P w K mg base n "sign_handed_on" 3 (L 8)
  o_signs_within : CK P w K mg base n "signs_within" 3 (L 9)
  o_check_saying_shape : CK P w K mg base n "check_saying_shape" 1 (L 10)
  o_signs_of : CK P w K mg base n "signs_of" 2 (L 11)
  o_is_place_in : CK P w K mg base n "is_place_in" 2 (L 12)
  o_part_at : CK P w K mg base n "part_at" 2 (L 13)
  o__law_hash : CK P w K mg base n "_law_hash" 2 (L 14)
  o__law_random : CK P w K mg base n "_law_random" 2 (L 15)
  o__law_cell : CK P w K mg base n "_law_cell" 2 (L 16)
  o__law_generator : CK P w K mg base n "_law_generator" 2 (L 17)
  o__law_pick : CK P w K mg base n "_law_pick" 2 (L 18)
  o__law_same : CK P w K mg base n "_law_same" 2 (L 19)
  o__law_named_thing : CK P w K mg base n "_law_named_thing" 3 (L 20)
  o__law_leaf_saying : CK P w K mg base n "_law_leaf_saying" 2 (L 21)
  o__law_saying : CK P w K mg base n "_law_saying" 3 (L 22)
  o__law_signs : CK P w K mg base n "_law_signs" 3 (L 23)
  o__law_part : CK P w K mg base n "_law_part" 2 (L 24)
  o__law_caught : CK P w K mg base n "_law_caught" 2 (L 25)
  o__law_right : CK P w K mg base n "_law_right" 2 (L 26)
  k_part_at_place_saying : CKK P w K mg base n "part_at" ["place", "saying"] [1, 0] 2 (L 13)
  k_signs_of_sign_saying : CKK P w K mg base n "signs_of" ["sign", "saying"] [1, 0] 2 (L 11)
theorem fs__law_caught_ok {X : Cx} {n : Nat} {L : Nat → FF} (O : Oks X.prog X.w X.K X.mg X.base n L) : ∀ f m F, (fs__law_caught L).lookup f = some (m, F) → CallOk X n f m F := by
  intro f m F h
  unfold fs__law_caught at h
  rw [List.lookup_cons] at h
  cases e : (f == ("signs_of" : Str)) with
  | true =>
    rw [e] at h
    cases h
    obtain rfl : f = "signs_of" := by simpa using e
    exact ⟨O.o_signs_of⟩
  | false =>
  rw [e] at h
  rw [List.lookup_cons] at h
  cases e : (f == ("part_at" : Str)) with
  | true =>
    rw [e] at h
    cases h
    obtain rfl : f = "part_at" := by simpa using e
    exact ⟨O.o_part_at⟩
  | false =>
  rw [e] at h
  cases h
theorem d_is_whole {P : Program} {w : World} {K : PySem.W.Frag} {mg : Str → Option Value} {base : Heap} {R0 fI : Addr} {n : Nat} {L : Nat → FF} (M : MF P w K mg R0 fI) (O : Oks P w K mg base n L) {f : Addr} {cdv : Value} {A : Around} {outer : List Env} {s : Shared} {H : Hp} {E : XK}
    (ct : Ct (BX P w K mg base ["value"] "is_whole" (defScope (tp 9)) f cdv A outer s H E) n) : DenS (BX P w K mg base ["value"] "is_whole" (defScope (tp 9)) f cdv A outer s H E) (defBody (tp 9)) (b_is_whole L) :=
    (denS_cons (denS_ret (den_and (den_isi (t := .int) (den_var (i := 0) rfl (by first | exact Or.inl rfl | exact Or.inr (Or.inl rfl) | exact Or.inr (Or.inr rfl)) rfl rfl) rfl M.f_isinstance rfl M.f_int (by decide +kernel) (by decide) rfl rfl rfl rfl) (den_one (den_not (den_isi (t := .bool) (den_var (i := 0) rfl (by first | exact Or.inl rfl | exact Or.inr (Or.inl rfl) | exact Or.inr (Or.inr rfl)) rfl rfl) rfl M.f_isinstance rfl M.f_bool (by decide +kernel) (by decide) rfl rfl rfl rfl)))))
    denS_nil)
theorem d_is_signs {P : Program} {w : World} {K : PySem.W.Frag} {mg : Str → Option Value} {base : Heap} {R0 fI : Addr} {n : Nat} {L : Nat → FF} (M : MF P w K mg R0 fI) (O : Oks P w K mg base n L) {f : Addr} {cdv : Value} {A : Around} {outer : List Env} {s : Shared} {H : Hp} {E : XK}
    (ct : Ct (BX P w K mg base ["value", "signs", "sign"] "is_signs" (defScope (tp 10)) f cdv A outer s H E) n) : DenS (BX P w K mg base ["value", "signs", "sign"] "is_signs" (defScope (tp 10)) f cdv A outer s H E) (defBody (tp 10)) (b_is_signs L) :=
    (denS_cons (denS_ret (den_and (den_isi (t := .str) (den_var (i := 0) rfl (by first | exact Or.inl rfl | exact Or.inr (Or.inl rfl) | exact Or.inr (Or.inr rfl)) rfl rfl) rfl M.f_isinstance rfl M.f_str (by decide +kernel) (by decide) rfl rfl rfl rfl) (den_one (den_cmp (sem_eq ct) (den_lc ct (own := [("sign", 2)]) (blkOk_by rfl) (denI_seq (den_var (i := 0) rfl (by first | exact Or.inl rfl | exact Or.inr (Or.inl rfl) | exact Or.inr (Or.inr rfl)) rfl rfl)) (by decide) (fun s H C cl fp => (denG_name (Ct.blk ct) (i := 2) rfl (by first | exact Or.inl rfl | exact Or.inr rfl) (by first | exact Or.inl rfl | exact Or.inr rfl))) (fun s H C cl fp => (denTs_one (denT_cmp (sem_notIn (Ct.blk ct)) (den_var (i := 2) rfl (by first | exact Or.inl rfl | exact Or.inr (Or.inl rfl) | exact Or.inr (Or.inr rfl)) rfl rfl) (den_var (i := 1) rfl (by first | exact Or.inl rfl | exact Or.inr (Or.inl rfl) | exact Or.inr (Or.inr rfl)) rfl rfl) rfl))) (fun s H C cl fp => (den_var (i := 2) rfl (by first | exact Or.inl rfl | exact Or.inr (Or.inl rfl) | exact Or.inr (Or.inr rfl)) rfl rfl)) (fun _ => rfl)) (den_lit 99 (by kernel_rfl)) rfl))))
    denS_nil)
theorem d_is_name {P : Program} {w : World} {K : PySem.W.Frag} {mg : Str → Option Value} {base : Heap} {R0 fI : Addr} {n : Nat} {L : Nat → FF} (M : MF P w K mg R0 fI) (O : Oks P w K mg base n L) {f : Addr} {cdv : Value} {A : Around} {outer : List Env} {s : Shared} {H : Hp} {E : XK}
    (ct : Ct (BX P w K mg base ["value"] "is_name" (defScope (tp 11)) f cdv A outer s H E) n) : DenS (BX P w K mg base ["value"] "is_name" (defScope (tp 11)) f cdv A outer s H E) (defBody (tp 11)) (b_is_name L) :=
    (denS_cons (denS_ret (den_and (den_call (CK.ok O.o_is_signs) ct (Nat.le_refl _) rfl (denA_cons (den_var (i := 0) rfl (by first | exact Or.inl rfl | exact Or.inr (Or.inl rfl) | exact Or.inr (Or.inr rfl)) rfl rfl) (denA_cons (den_fz (den_bin sem_add (den_gstr rfl M.c_SMALL rfl) (den_gstr rfl M.c_FIGURES rfl))) denA_nil rfl) rfl) rfl rfl rfl) (den_and (den_chain sem_lt sem_le den_int (den_callB (sem_len) rfl M.f_len (by decide +kernel) (denA_cons (den_var (i := 0) rfl (by first | exact Or.inl rfl | exact Or.inr (Or.inl rfl) | exact Or.inr (Or.inr rfl)) rfl rfl) denA_nil rfl) (by decide) rfl rfl rfl) (den_gint rfl M.c_MOST_NAME rfl) rfl) (den_one (den_cmp (sem_in ct) (den_ix (den_var (i := 0) rfl (by first | exact Or.inl rfl | exact Or.inr (Or.inl rfl) | exact Or.inr (Or.inr rfl)) rfl rfl) den_int (by intro _ _; rfl)) (den_gstr rfl M.c_SMALL rfl) rfl)))))
    denS_nil)
theorem d_head_of {P : Program} {w : World} {K : PySem.W.Frag} {mg : Str → Option Value} {base : Heap} {R0 fI : Addr} {n : Nat} {L : Nat → FF} (M : MF P w K mg R0 fI) (O : Oks P w K mg base n L) {f : Addr} {cdv : Value} {A : Around} {outer : List Env} {s : Shared} {H : Hp} {E : XK}
    (ct : Ct (BX P w K mg base ["value"] "head_of" (defScope (tp 15)) f cdv A outer s H E) n) : DenS (BX P w K mg base ["value"] "head_of" (defScope (tp 15)) f cdv A outer s H E) (defBody (tp 15)) (b_head_of L) :=
    (denS_cons (denS_ret (den_if (denW_t (denW_and (denT_val (den_isi (t := .tuple) (den_var (i := 0) rfl (by first | exact Or.inl rfl | exact Or.inr (Or.inl rfl) | exact Or.inr (Or.inr rfl)) rfl rfl) rfl M.f_isinstance rfl M.f_tuple (by decide +kernel) (by decide) rfl rfl rfl rfl) (fun _ => rfl)) (denW_and (denT_cmp (sem_ne ct) (den_var (i := 0) rfl (by first | exact Or.inl rfl | exact Or.inr (Or.inl rfl) | exact Or.inr (Or.inr rfl)) rfl rfl) (den_lit 99 (by kernel_rfl)) rfl) (denW_and1 (denT_val (den_isi (t := .str) (den_ix (den_var (i := 0) rfl (by first | exact Or.inl rfl | exact Or.inr (Or.inl rfl) | exact Or.inr (Or.inr rfl)) rfl rfl) den_int (by intro _ _; rfl)) rfl M.f_isinstance rfl M.f_str (by decide +kernel) (by decide) rfl rfl rfl rfl) (fun _ => rfl)))))) (den_ix (den_var (i := 0) rfl (by first | exact Or.inl rfl | exact Or.inr (Or.inl rfl) | exact Or.inr (Or.inr rfl)) rfl rfl) den_int (by intro _ _; rfl)) den_str))
    denS_nil)
theorem d_fits {P : Program} {w : World} {K : PySem.W.Frag} {mg : Str → Option Value} {base : Heap} {R0 fI : Addr} {n : Nat} {L : Nat → FF} (M : MF P w K mg R0 fI) (O : Oks P w K mg base n L) {f : Addr} {cdv : Value} {A : Around} {outer : List Env} {s : Shared} {H : Hp} {E : XK}
    (ct : Ct (BX P w K mg base ["part", "kind", "term"] "fits" (defScope (tp 16)) f cdv A outer s H E) n) : DenS (BX P w K mg base ["part", "kind", "term"] "fits" (defScope (tp 16)) f cdv A outer s H E) (defBody (tp 16)) (b_fits L) :=
    (denS_cons (denS_if (denT_cmp (sem_eq ct) (den_var (i := 1) rfl (by first | exact Or.inl rfl | exact Or.inr (Or.inl rfl) | exact Or.inr (Or.inr rfl)) rfl rfl) den_str rfl) (denS_cons (denS_ret (den_call (CK.ok O.o_is_name) ct (Nat.le_refl _) rfl (denA_cons (den_var (i := 0) rfl (by first | exact Or.inl rfl | exact Or.inr (Or.inl rfl) | exact Or.inr (Or.inr rfl)) rfl rfl) denA_nil rfl) rfl rfl rfl))
    denS_nil) denS_nil)
    (denS_cons (denS_if (denT_cmp (sem_eq ct) (den_var (i := 1) rfl (by first | exact Or.inl rfl | exact Or.inr (Or.inl rfl) | exact Or.inr (Or.inr rfl)) rfl rfl) den_str rfl) (denS_cons (denS_ret (den_call (CK.ok O.o_is_whole) ct (Nat.le_refl _) rfl (denA_cons (den_var (i := 0) rfl (by first | exact Or.inl rfl | exact Or.inr (Or.inl rfl) | exact Or.inr (Or.inr rfl)) rfl rfl) denA_nil rfl) rfl rfl rfl))
    denS_nil) denS_nil)
    (denS_cons (denS_if (denT_cmp (sem_eq ct) (den_var (i := 1) rfl (by first | exact Or.inl rfl | exact Or.inr (Or.inl rfl) | exact Or.inr (Or.inr rfl)) rfl rfl) den_str rfl) (denS_cons (denS_ret (den_and (den_isi (t := .tuple) (den_var (i := 0) rfl (by first | exact Or.inl rfl | exact Or.inr (Or.inl rfl) | exact Or.inr (Or.inr rfl)) rfl rfl) rfl M.f_isinstance rfl M.f_tuple (by decide +kernel) (by decide) rfl rfl rfl rfl) (den_one (den_callB (sem_all ct) rfl M.f_all (by decide +kernel) (denA_cons (den_lc ct (own := [("term", 2)]) (blkOk_by rfl) (denI_seq (den_var (i := 0) rfl (by first | exact Or.inl rfl | exact Or.inr (Or.inl rfl) | exact Or.inr (Or.inr rfl)) rfl rfl)) (by decide) (fun s H C cl fp => (denG_name (Ct.blk ct) (i := 2) rfl (by first | exact Or.inl rfl | exact Or.inr rfl) (by first | exact Or.inl rfl | exact Or.inr rfl))) (fun s H C cl fp => denTs_nil) (fun s H C cl fp => (den_call (CK.ok O.o_is_term_shape) (Ct.blk ct) (Nat.le_refl _) rfl (denA_cons (den_var (i := 2) rfl (by first | exact Or.inl rfl | exact Or.inr (Or.inl rfl) | exact Or.inr (Or.inr rfl)) rfl rfl) denA_nil rfl) rfl rfl rfl)) (fun _ => rfl)) denA_nil rfl) (by decide) rfl rfl rfl))))
    denS_nil) denS_nil)
    (denS_cons (denS_ret (den_if (denT_cmp (sem_eq ct) (den_var (i := 1) rfl (by first | exact Or.inl rfl | exact Or.inr (Or.inl rfl) | exact Or.inr (Or.inr rfl)) rfl rfl) den_str rfl) (den_call (CK.ok O.o_is_term_shape) ct (Nat.le_refl _) rfl (denA_cons (den_var (i := 0) rfl (by first | exact Or.inl rfl | exact Or.inr (Or.inl rfl) | exact Or.inr (Or.inr rfl)) rfl rfl) denA_nil rfl) rfl rfl rfl) (den_call (CK.ok O.o_is_saying_shape) ct (Nat.le_refl _) rfl (denA_cons (den_var (i := 0) rfl (by first | exact Or.inl rfl | exact Or.inr (Or.inl rfl) | exact Or.inr (Or.inr rfl)) rfl rfl) denA_nil rfl) rfl rfl rfl)))
    denS_nil))))
theorem d_has_parts {P : Program} {w : World} {K : PySem.W.Frag} {mg : Str → Option Value} {base : Heap} {R0 fI : Addr} {n : Nat} {L : Nat → FF} (M : MF P w K mg R0 fI) (O : Oks P w K mg base n L) {f : Addr} {cdv : Value} {A : Around} {outer : List Env} {s : Shared} {H : Hp} {E : XK}
    (ct : Ct (BX P w K mg base ["value", "kinds", "part", "kind"] "has_parts" (defScope (tp 17)) f cdv A outer s H E) n) : DenS (BX P w K mg base ["value", "kinds", "part", "kind"] "has_parts" (defScope (tp 17)) f cdv A outer s H E) (defBody (tp 17)) (b_has_parts L) :=
    (denS_cons (denS_ret (den_and (den_cmp (sem_eq ct) (den_callB (sem_len) rfl M.f_len (by decide +kernel) (denA_cons (den_var (i := 0) rfl (by first | exact Or.inl rfl | exact Or.inr (Or.inl rfl) | exact Or.inr (Or.inr rfl)) rfl rfl) denA_nil rfl) (by decide) rfl rfl rfl) (den_bin sem_add (den_callB (sem_len) rfl M.f_len (by decide +kernel) (denA_cons (den_var (i := 1) rfl (by first | exact Or.inl rfl | exact Or.inr (Or.inl rfl) | exact Or.inr (Or.inr rfl)) rfl rfl) denA_nil rfl) (by decide) rfl rfl rfl) den_int) rfl) (den_one (den_callB (sem_all ct) rfl M.f_all (by decide +kernel) (denA_cons (den_lc ct (own := [("part", 2), ("kind", 3)]) (blkOk_by rfl) (denI_zip rfl M.f_zip (denA_cons (den_fz (den_sl (den_var (i := 0) rfl (by first | exact Or.inl rfl | exact Or.inr (Or.inl rfl) | exact Or.inr (Or.inr rfl)) rfl rfl) (denO_some den_int) denO_none)) (denA_cons (den_var (i := 1) rfl (by first | exact Or.inl rfl | exact Or.inr (Or.inl rfl) | exact Or.inr (Or.inr rfl)) rfl rfl) denA_nil rfl) rfl) rfl rfl) (by decide) (fun s H C cl fp => (denG_tup (Ct.blk ct) (denGs_cons (denG_name (Ct.blk ct) (i := 2) rfl (by first | exact Or.inl rfl | exact Or.inr rfl) (by first | exact Or.inl rfl | exact Or.inr rfl)) (denGs_cons (denG_name (Ct.blk ct) (i := 3) rfl (by first | exact Or.inl rfl | exact Or.inr rfl) (by first | exact Or.inl rfl | exact Or.inr rfl)) denGs_nil rfl) rfl) rfl rfl)) (fun s H C cl fp => denTs_nil) (fun s H C cl fp => (den_call (CK.ok O.o_fits) (Ct.blk ct) (Nat.le_refl _) rfl (denA_cons (den_var (i := 2) rfl (by first | exact Or.inl rfl | exact Or.inr (Or.inl rfl) | exact Or.inr (Or.inr rfl)) rfl rfl) (denA_cons (den_var (i := 3) rfl (by first | exact Or.inl rfl | exact Or.inr (Or.inl rfl) | exact Or.inr (Or.inr rfl)) rfl rfl) denA_nil rfl) rfl) rfl rfl rfl)) (fun _ => rfl)) denA_nil rfl) (by decide) rfl rfl rfl))))
    denS_nil)
theorem d_is_term_shape {P : Program} {w : World} {K : PySem.W.Frag} {mg : Str → Option Value} {base : Heap} {R0 fI : Addr} {n : Nat} {L : Nat → FF} (M : MF P w K mg R0 fI) (O : Oks P w K mg base n L) {f : Addr} {cdv : Value} {A : Around} {outer : List Env} {s : Shared} {H : Hp} {E : XK}
    (ct : Ct (BX P w K mg base ["value", "head"] "is_term_shape" (defScope (tp 18)) f cdv A outer s H E) n) : DenS (BX P w K mg base ["value", "head"] "is_term_shape" (defScope (tp 18)) f cdv A outer s H E) (defBody (tp 18)) (b_is_term_shape L) :=
    (denS_cons (denS_set ct (i := 1) rfl (by first | exact Or.inl rfl | exact Or.inr rfl) (by first | exact Or.inl rfl | exact Or.inr rfl) (den_call (CK.ok O.o_head_of) ct (Nat.le_refl _) rfl (denA_cons (den_var (i := 0) rfl (by first | exact Or.inl rfl | exact Or.inr (Or.inl rfl) | exact Or.inr (Or.inr rfl)) rfl rfl) denA_nil rfl) rfl rfl rfl) rfl)
    (denS_cons (denS_ret (den_and (den_tIn rfl M.t_TERMS (den_var (i := 1) rfl (by first | exact Or.inl rfl | exact Or.inr (Or.inl rfl) | exact Or.inr (Or.inr rfl)) rfl rfl) rfl rfl) (den_one (den_call (CK.ok O.o_has_parts) ct (Nat.le_refl _) rfl (denA_cons (den_var (i := 0) rfl (by first | exact Or.inl rfl | exact Or.inr (Or.inl rfl) | exact Or.inr (Or.inr rfl)) rfl rfl) (denA_cons (den_tIx rfl M.t_TERMS (den_var (i := 1) rfl (by first | exact Or.inl rfl | exact Or.inr (Or.inl rfl) | exact Or.inr (Or.inr rfl)) rfl rfl) rfl (by intro _ _; rfl)) denA_nil rfl) rfl) rfl rfl rfl))))
    denS_nil))
theorem d_is_saying_shape {P : Program} {w : World} {K : PySem.W.Frag} {mg : Str → Option Value} {base : Heap} {R0 fI : Addr} {n : Nat} {L : Nat → FF} (M : MF P w K mg R0 fI) (O : Oks P w K mg base n L) {f : Addr} {cdv : Value} {A : Around} {outer : List Env} {s : Shared} {H : Hp} {E : XK}
    (ct : Ct (BX P w K mg base ["value", "head"] "is_saying_shape" (defScope (tp 19)) f cdv A outer s H E) n) : DenS (BX P w K mg base ["value", "head"] "is_saying_shape" (defScope (tp 19)) f cdv A outer s H E) (defBody (tp 19)) (b_is_saying_shape L) :=
    (denS_cons (denS_set ct (i := 1) rfl (by first | exact Or.inl rfl | exact Or.inr rfl) (by first | exact Or.inl rfl | exact Or.inr rfl) (den_call (CK.ok O.o_head_of) ct (Nat.le_refl _) rfl (denA_cons (den_var (i := 0) rfl (by first | exact Or.inl rfl | exact Or.inr (Or.inl rfl) | exact Or.inr (Or.inr rfl)) rfl rfl) denA_nil rfl) rfl rfl rfl) rfl)
    (denS_cons (denS_ret (den_and (den_tIn rfl M.t_SAYINGS (den_var (i := 1) rfl (by first | exact Or.inl rfl | exact Or.inr (Or.inl rfl) | exact Or.inr (Or.inr rfl)) rfl rfl) rfl rfl) (den_one (den_call (CK.ok O.o_has_parts) ct (Nat.le_refl _) rfl (denA_cons (den_var (i := 0) rfl (by first | exact Or.inl rfl | exact Or.inr (Or.inl rfl) | exact Or.inr (Or.inr rfl)) rfl rfl) (denA_cons (den_tIx rfl M.t_SAYINGS (den_var (i := 1) rfl (by first | exact Or.inl rfl | exact Or.inr (Or.inl rfl) | exact Or.inr (Or.inr rfl)) rfl rfl) rfl (by intro _ _; rfl)) denA_nil rfl) rfl) rfl rfl rfl))))
    denS_nil))
theorem d_sign_handed_on {P : Program} {w : World} {K : PySem.W.Frag} {mg : Str → Option Value} {base : Heap} {R0 fI : Addr} {n : Nat} {L : Nat → FF} (M : MF P w K mg R0 fI) (O : Oks P w K mg base n L) {f : Addr} {cdv : Value} {A : Around} {outer : List Env} {s : Shared} {H : Hp} {E : XK}
    (ct : Ct (BX P w K mg base ["saying", "at", "sign"] "sign_handed_on" (defScope (tp 22)) f cdv A outer s H E) n) : DenS (BX P w K mg base ["saying", "at", "sign"] "sign_handed_on" (defScope (tp 22)) f cdv A outer s H E) (defBody (tp 22)) (b_sign_handed_on L) :=
    (denS_cons (denS_if (denW_t (denW_or (denT_isN (den_var (i := 2) rfl (by first | exact Or.inl rfl | exact Or.inr (Or.inl rfl) | exact Or.inr (Or.inr rfl)) rfl rfl)) (denW_or1 (denT_cmp (sem_eq ct) (den_ix (den_var (i := 0) rfl (by first | exact Or.inl rfl | exact Or.inr (Or.inl rfl) | exact Or.inr (Or.inr rfl)) rfl rfl) den_int (by intro _ _; rfl)) den_str rfl)))) (denS_cons (denS_ret den_non)
    denS_nil) denS_nil)
    (denS_cons (denS_ret (den_if (denW_t (denW_or (denT_cmp (sem_eq ct) (den_ix (den_var (i := 0) rfl (by first | exact Or.inl rfl | exact Or.inr (Or.inl rfl) | exact Or.inr (Or.inr rfl)) rfl rfl) den_int (by intro _ _; rfl)) den_str rfl) (denW_or1 (denW_t (denW_and (denT_cmp (sem_eq ct) (den_ix (den_var (i := 0) rfl (by first | exact Or.inl rfl | exact Or.inr (Or.inl rfl) | exact Or.inr (Or.inr rfl)) rfl rfl) den_int (by intro _ _; rfl)) den_str rfl) (denW_and1 (denT_cmp (sem_eq ct) (den_var (i := 1) rfl (by first | exact Or.inl rfl | exact Or.inr (Or.inl rfl) | exact Or.inr (Or.inr rfl)) rfl rfl) den_int rfl))))))) (den_not (den_var (i := 2) rfl (by first | exact Or.inl rfl | exact Or.inr (Or.inl rfl) | exact Or.inr (Or.inr rfl)) rfl rfl)) (den_var (i := 2) rfl (by first | exact Or.inl rfl | exact Or.inr (Or.inl rfl) | exact Or.inr (Or.inr rfl)) rfl rfl)))
    denS_nil))
theorem d_signs_within {P : Program} {w : World} {K : PySem.W.Frag} {mg : Str → Option Value} {base : Heap} {R0 fI : Addr} {n : Nat} {L : Nat → FF} (M : MF P w K mg R0 fI) (O : Oks P w K mg base n L) {f : Addr} {cdv : Value} {A : Around} {outer : List Env} {s : Shared} {H : Hp} {E : XK}
    (ct : Ct (BX P w K mg base ["saying", "sign", "place", "found", "at"] "signs_within" (defScope (tp 23)) f cdv A outer s H E) n) : DenS (BX P w K mg base ["saying", "sign", "place", "found", "at"] "signs_within" (defScope (tp 23)) f cdv A outer s H E) (defBody (tp 23)) (b_signs_within L) :=
    (denS_cons (denS_set ct (i := 3) rfl (by first | exact Or.inl rfl | exact Or.inr rfl) (by first | exact Or.inl rfl | exact Or.inr rfl) (den_lst (denA_cons (den_tup (denA_cons (den_var (i := 2) rfl (by first | exact Or.inl rfl | exact Or.inr (Or.inl rfl) | exact Or.inr (Or.inr rfl)) rfl rfl) (denA_cons (den_var (i := 1) rfl (by first | exact Or.inl rfl | exact Or.inr (Or.inl rfl) | exact Or.inr (Or.inr rfl)) rfl rfl) denA_nil rfl) rfl)) denA_nil rfl)) rfl)
    (denS_cons (denS_for ct bx_po (denI_seq (den_tGet rfl M.t_SAYING_PLACES (den_ix (den_var (i := 0) rfl (by first | exact Or.inl rfl | exact Or.inr (Or.inl rfl) | exact Or.inr (Or.inr rfl)) rfl rfl) den_int (by intro _ _; rfl)) (den_lit 99 (by kernel_rfl)) rfl ⟨rfl, rfl, rfl, rfl⟩)) (denG_name ct (i := 4) rfl (by first | exact Or.inl rfl | exact Or.inr rfl) (by first | exact Or.inl rfl | exact Or.inr rfl)) (denS_cons (denS_set ct (i := 3) rfl (by first | exact Or.inl rfl | exact Or.inr rfl) (by first | exact Or.inl rfl | exact Or.inr rfl) (den_bin sem_add (den_var (i := 3) rfl (by first | exact Or.inl rfl | exact Or.inr (Or.inl rfl) | exact Or.inr (Or.inr rfl)) rfl rfl) (den_call (CK.ok O.o_signs_within) ct (Nat.le_refl _) rfl (denA_cons (den_ix (den_var (i := 0) rfl (by first | exact Or.inl rfl | exact Or.inr (Or.inl rfl) | exact Or.inr (Or.inr rfl)) rfl rfl) (den_var (i := 4) rfl (by first | exact Or.inl rfl | exact Or.inr (Or.inl rfl) | exact Or.inr (Or.inr rfl)) rfl rfl) (by intro _ _; rfl)) (denA_cons (den_call (CK.ok O.o_sign_handed_on) ct (Nat.le_refl _) rfl (denA_cons (den_var (i := 0) rfl (by first | exact Or.inl rfl | exact Or.inr (Or.inl rfl) | exact Or.inr (Or.inr rfl)) rfl rfl) (denA_cons (den_var (i := 4) rfl (by first | exact Or.inl rfl | exact Or.inr (Or.inl rfl) | exact Or.inr (Or.inr rfl)) rfl rfl) (denA_cons (den_var (i := 1) rfl (by first | exact Or.inl rfl | exact Or.inr (Or.inl rfl) | exact Or.inr (Or.inr rfl)) rfl rfl) denA_nil rfl) rfl) rfl) rfl rfl rfl) (denA_cons (den_fz (den_bin sem_add (den_var (i := 2) rfl (by first | exact Or.inl rfl | exact Or.inr (Or.inl rfl) | exact Or.inr (Or.inr rfl)) rfl rfl) (den_tup (denA_cons (den_var (i := 4) rfl (by first | exact Or.inl rfl | exact Or.inr (Or.inl rfl) | exact Or.inr (Or.inr rfl)) rfl rfl) denA_nil rfl)))) denA_nil rfl) rfl) rfl) rfl rfl rfl)) rfl)
    denS_nil) (fun _ => rfl))
    (denS_cons (denS_ret (den_var (i := 3) rfl (by first | exact Or.inl rfl | exact Or.inr (Or.inl rfl) | exact Or.inr (Or.inr rfl)) rfl rfl))
    denS_nil)))
theorem d_check_saying_shape {P : Program} {w : World} {K : PySem.W.Frag} {mg : Str → Option Value} {base : Heap} {R0 fI : Addr} {n : Nat} {L : Nat → FF} (M : MF P w K mg R0 fI) (O : Oks P w K mg base n L) {f : Addr} {cdv : Value} {A : Around} {outer : List Env} {s : Shared} {H : Hp} {E : XK}
    (ct : Ct (BX P w K mg base ["saying"] "check_saying_shape" (defScope (tp 24)) f cdv A outer s H E) n) : DenS (BX P w K mg base ["saying"] "check_saying_shape" (defScope (tp 24)) f cdv A outer s H E) (defBody (tp 24)) (b_check_saying_shape L) :=
    (denS_cons (denS_if (denT_not (denT_val (den_call (CK.ok O.o_is_saying_shape) ct (Nat.le_refl _) rfl (denA_cons (den_var (i := 0) rfl (by first | exact Or.inl rfl | exact Or.inr (Or.inl rfl) | exact Or.inr (Or.inr rfl)) rfl rfl) denA_nil rfl) rfl rfl rfl) (fun _ => rfl))) (denS_cons (denS_raise ct (ErrsOk.at M.errs rfl) rfl rfl (denA_cons (den_var (i := 0) rfl (by first | exact Or.inl rfl | exact Or.inr (Or.inl rfl) | exact Or.inr (Or.inr rfl)) rfl rfl) denA_nil rfl) rfl rfl)
    denS_nil) denS_nil)
    denS_nil)
theorem d_signs_of {P : Program} {w : World} {K : PySem.W.Frag} {mg : Str → Option Value} {base : Heap} {R0 fI : Addr} {n : Nat} {L : Nat → FF} (M : MF P w K mg R0 fI) (O : Oks P w K mg base n L) {f : Addr} {cdv : Value} {A : Around} {outer : List Env} {s : Shared} {H : Hp} {E : XK}
    (ct : Ct (BX P w K mg base ["saying", "sign"] "signs_of" (defScope (tp 25)) f cdv A outer s H E) n) : DenS (BX P w K mg base ["saying", "sign"] "signs_of" (defScope (tp 25)) f cdv A outer s H E) (defBody (tp 25)) (b_signs_of L) :=
    (denS_cons (denS_expr (den_call (CK.ok O.o_check_saying_shape) ct (Nat.le_refl _) rfl (denA_cons (den_var (i := 0) rfl (by first | exact Or.inl rfl | exact Or.inr (Or.inl rfl) | exact Or.inr (Or.inr rfl)) rfl rfl) denA_nil rfl) rfl rfl rfl) rfl)
    (denS_cons (denS_if (denT_not (denT_val (den_isi (t := .bool) (den_var (i := 1) rfl (by first | exact Or.inl rfl | exact Or.inr (Or.inl rfl) | exact Or.inr (Or.inr rfl)) rfl rfl) rfl M.f_isinstance rfl M.f_bool (by decide +kernel) (by decide) rfl rfl rfl rfl) (fun _ => rfl))) (denS_cons (denS_raise ct (ErrsOk.at M.errs rfl) rfl rfl (denA_cons (den_var (i := 1) rfl (by first | exact Or.inl rfl | exact Or.inr (Or.inl rfl) | exact Or.inr (Or.inr rfl)) rfl rfl) denA_nil rfl) rfl rfl)
    denS_nil) denS_nil)
    (denS_cons (denS_ret (den_call (CK.ok O.o_signs_within) ct (Nat.le_refl _) rfl (denA_cons (den_var (i := 0) rfl (by first | exact Or.inl rfl | exact Or.inr (Or.inl rfl) | exact Or.inr (Or.inr rfl)) rfl rfl) (denA_cons (den_var (i := 1) rfl (by first | exact Or.inl rfl | exact Or.inr (Or.inl rfl) | exact Or.inr (Or.inr rfl)) rfl rfl) (denA_cons (den_lit 99 (by kernel_rfl)) denA_nil rfl) rfl) rfl) rfl rfl rfl))
    denS_nil)))
theorem d_is_place_in {P : Program} {w : World} {K : PySem.W.Frag} {mg : Str → Option Value} {base : Heap} {R0 fI : Addr} {n : Nat} {L : Nat → FF} (M : MF P w K mg R0 fI) (O : Oks P w K mg base n L) {f : Addr} {cdv : Value} {A : Around} {outer : List Env} {s : Shared} {H : Hp} {E : XK}
    (ct : Ct (BX P w K mg base ["saying", "place", "part", "at"] "is_place_in" (defScope (tp 26)) f cdv A outer s H E) n) : DenS (BX P w K mg base ["saying", "place", "part", "at"] "is_place_in" (defScope (tp 26)) f cdv A outer s H E) (defBody (tp 26)) (b_is_place_in L) :=
    (denS_cons (denS_if (denT_not (denT_val (den_isi (t := .tuple) (den_var (i := 1) rfl (by first | exact Or.inl rfl | exact Or.inr (Or.inl rfl) | exact Or.inr (Or.inr rfl)) rfl rfl) rfl M.f_isinstance rfl M.f_tuple (by decide +kernel) (by decide) rfl rfl rfl rfl) (fun _ => rfl))) (denS_cons (denS_ret den_bl)
    denS_nil) denS_nil)
    (denS_cons (denS_set ct (i := 2) rfl (by first | exact Or.inl rfl | exact Or.inr rfl) (by first | exact Or.inl rfl | exact Or.inr rfl) (den_var (i := 0) rfl (by first | exact Or.inl rfl | exact Or.inr (Or.inl rfl) | exact Or.inr (Or.inr rfl)) rfl rfl) rfl)
    (denS_cons (denS_for ct bx_po (denI_seq (den_var (i := 1) rfl (by first | exact Or.inl rfl | exact Or.inr (Or.inl rfl) | exact Or.inr (Or.inr rfl)) rfl rfl)) (denG_name ct (i := 3) rfl (by first | exact Or.inl rfl | exact Or.inr rfl) (by first | exact Or.inl rfl | exact Or.inr rfl)) (denS_cons (denS_if (denW_t (denW_or (denT_val (den_isi (t := .bool) (den_var (i := 3) rfl (by first | exact Or.inl rfl | exact Or.inr (Or.inl rfl) | exact Or.inr (Or.inr rfl)) rfl rfl) rfl M.f_isinstance rfl M.f_bool (by decide +kernel) (by decide) rfl rfl rfl rfl) (fun _ => rfl)) (denW_or (denT_not (denT_val (den_isi (t := .int) (den_var (i := 3) rfl (by first | exact Or.inl rfl | exact Or.inr (Or.inl rfl) | exact Or.inr (Or.inr rfl)) rfl rfl) rfl M.f_isinstance rfl M.f_int (by decide +kernel) (by decide) rfl rfl rfl rfl) (fun _ => rfl))) (denW_or1 (denT_cmp (sem_notIn ct) (den_var (i := 3) rfl (by first | exact Or.inl rfl | exact Or.inr (Or.inl rfl) | exact Or.inr (Or.inr rfl)) rfl rfl) (den_tGet rfl M.t_SAYING_PLACES (den_ix (den_var (i := 2) rfl (by first | exact Or.inl rfl | exact Or.inr (Or.inl rfl) | exact Or.inr (Or.inr rfl)) rfl rfl) den_int (by intro _ _; rfl)) (den_lit 99 (by kernel_rfl)) rfl ⟨rfl, rfl, rfl, rfl⟩) rfl))))) (denS_cons (denS_ret den_bl)
    denS_nil) denS_nil)
    (denS_cons (denS_set ct (i := 2) rfl (by first | exact Or.inl rfl | exact Or.inr rfl) (by first | exact Or.inl rfl | exact Or.inr rfl) (den_ix (den_var (i := 2) rfl (by first | exact Or.inl rfl | exact Or.inr (Or.inl rfl) | exact Or.inr (Or.inr rfl)) rfl rfl) (den_var (i := 3) rfl (by first | exact Or.inl rfl | exact Or.inr (Or.inl rfl) | exact Or.inr (Or.inr rfl)) rfl rfl) (by intro _ _; rfl)) rfl)
    denS_nil)) (fun _ => rfl))
    (denS_cons (denS_ret den_bl)
    denS_nil))))
theorem d_part_at {P : Program} {w : World} {K : PySem.W.Frag} {mg : Str → Option Value} {base : Heap} {R0 fI : Addr} {n : Nat} {L : Nat → FF} (M : MF P w K mg R0 fI) (O : Oks P w K mg base n L) {f : Addr} {cdv : Value} {A : Around} {outer : List Env} {s : Shared} {H : Hp} {E : XK}
    (ct : Ct (BX P w K mg base ["saying", "place", "part", "at"] "part_at" (defScope (tp 27)) f cdv A outer s H E) n) : DenS (BX P w K mg base ["saying", "place", "part", "at"] "part_at" (defScope (tp 27)) f cdv A outer s H E) (defBody (tp 27)) (b_part_at L) :=
    (denS_cons (denS_expr (den_call (CK.ok O.o_check_saying_shape) ct (Nat.le_refl _) rfl (denA_cons (den_var (i := 0) rfl (by first | exact Or.inl rfl | exact Or.inr (Or.inl rfl) | exact Or.inr (Or.inr rfl)) rfl rfl) denA_nil rfl) rfl rfl rfl) rfl)
    (denS_cons (denS_if (denT_not (denT_val (den_call (CK.ok O.o_is_place_in) ct (Nat.le_refl _) rfl (denA_cons (den_var (i := 0) rfl (by first | exact Or.inl rfl | exact Or.inr (Or.inl rfl) | exact Or.inr (Or.inr rfl)) rfl rfl) (denA_cons (den_var (i := 1) rfl (by first | exact Or.inl rfl | exact Or.inr (Or.inl rfl) | exact Or.inr (Or.inr rfl)) rfl rfl) denA_nil rfl) rfl) rfl rfl rfl) (fun _ => rfl))) (denS_cons (denS_raise ct (ErrsOk.at M.errs rfl) rfl rfl (denA_cons (den_var (i := 1) rfl (by first | exact Or.inl rfl | exact Or.inr (Or.inl rfl) | exact Or.inr (Or.inr rfl)) rfl rfl) denA_nil rfl) rfl rfl)
    denS_nil) denS_nil)
    (denS_cons (denS_set ct (i := 2) rfl (by first | exact Or.inl rfl | exact Or.inr rfl) (by first | exact Or.inl rfl | exact Or.inr rfl) (den_var (i := 0) rfl (by first | exact Or.inl rfl | exact Or.inr (Or.inl rfl) | exact Or.inr (Or.inr rfl)) rfl rfl) rfl)
    (denS_cons (denS_for ct bx_po (denI_seq (den_var (i := 1) rfl (by first | exact Or.inl rfl | exact Or.inr (Or.inl rfl) | exact Or.inr (Or.inr rfl)) rfl rfl)) (denG_name ct (i := 3) rfl (by first | exact Or.inl rfl | exact Or.inr rfl) (by first | exact Or.inl rfl | exact Or.inr rfl)) (denS_cons (denS_set ct (i := 2) rfl (by first | exact Or.inl rfl | exact Or.inr rfl) (by first | exact Or.inl rfl | exact Or.inr rfl) (den_ix (den_var (i := 2) rfl (by first | exact Or.inl rfl | exact Or.inr (Or.inl rfl) | exact Or.inr (Or.inr rfl)) rfl rfl) (den_var (i := 3) rfl (by first | exact Or.inl rfl | exact Or.inr (Or.inl rfl) | exact Or.inr (Or.inr rfl)) rfl rfl) (by intro _ _; rfl)) rfl)
    denS_nil) (fun _ => rfl))
    (denS_cons (denS_ret (den_var (i := 2) rfl (by first | exact Or.inl rfl | exact Or.inr (Or.inl rfl) | exact Or.inr (Or.inr rfl)) rfl rfl))
    denS_nil)))))
theorem d__law_hash {P : Program} {w : World} {K : PySem.W.Frag} {mg : Str → Option Value} {base : Heap} {R0 fI : Addr} {n : Nat} {L : Nat → FF} (M : MF P w K mg R0 fI) (O : Oks P w K mg base n L) {f : Addr} {cdv : Value} {A : Around} {outer : List Env} {s : Shared} {H : Hp} {E : XK}
    (ct : Ct (BX P w K mg base ["seed", "index", "mixed"] "_law_hash" (defScope (tp 29)) f cdv A outer s H E) n) : DenS (BX P w K mg base ["seed", "index", "mixed"] "_law_hash" (defScope (tp 29)) f cdv A outer s H E) (defBody (tp 29)) (b__law_hash L) :=
    (denS_cons (denS_set ct (i := 2) rfl (by first | exact Or.inl rfl | exact Or.inr rfl) (by first | exact Or.inl rfl | exact Or.inr rfl) (den_bin sem_mod (den_callTy (sem_intT) rfl M.f_int (by decide +kernel) (denA_cons (den_bin sem_add (den_bin sem_add (den_bin sem_add (den_bin sem_mul (den_var (i := 0) rfl (by first | exact Or.inl rfl | exact Or.inr (Or.inl rfl) | exact Or.inr (Or.inr rfl)) rfl rfl) den_int) (den_bin sem_mul (den_bin sem_mul den_int (den_var (i := 1) rfl (by first | exact Or.inl rfl | exact Or.inr (Or.inl rfl) | exact Or.inr (Or.inr rfl)) rfl rfl)) (den_var (i := 1) rfl (by first | exact Or.inl rfl | exact Or.inr (Or.inl rfl) | exact Or.inr (Or.inr rfl)) rfl rfl))) (den_bin sem_mul den_int (den_var (i := 1) rfl (by first | exact Or.inl rfl | exact Or.inr (Or.inl rfl) | exact Or.inr (Or.inr rfl)) rfl rfl))) den_int) denA_nil rfl) (by decide) rfl rfl rfl) den_int) rfl)
    (denS_cons (denS_set ct (i := 2) rfl (by first | exact Or.inl rfl | exact Or.inr rfl) (by first | exact Or.inl rfl | exact Or.inr rfl) (den_bin sem_mod (den_callTy (sem_intT) rfl M.f_int (by decide +kernel) (denA_cons (den_bin sem_add (den_bin sem_add (den_bin sem_mul (den_var (i := 2) rfl (by first | exact Or.inl rfl | exact Or.inr (Or.inl rfl) | exact Or.inr (Or.inr rfl)) rfl rfl) (den_var (i := 2) rfl (by first | exact Or.inl rfl | exact Or.inr (Or.inl rfl) | exact Or.inr (Or.inr rfl)) rfl rfl)) (den_bin sem_mul den_int (den_var (i := 1) rfl (by first | exact Or.inl rfl | exact Or.inr (Or.inl rfl) | exact Or.inr (Or.inr rfl)) rfl rfl))) den_int) denA_nil rfl) (by decide) rfl rfl rfl) den_int) rfl)
    (denS_cons (denS_ret (den_bin sem_mod (den_callTy (sem_intT) rfl M.f_int (by decide +kernel) (denA_cons (den_bin sem_mul (den_var (i := 2) rfl (by first | exact Or.inl rfl | exact Or.inr (Or.inl rfl) | exact Or.inr (Or.inr rfl)) rfl rfl) den_int) denA_nil rfl) (by decide) rfl rfl rfl) den_int))
    denS_nil)))
theorem d__law_random {P : Program} {w : World} {K : PySem.W.Frag} {mg : Str → Option Value} {base : Heap} {R0 fI : Addr} {n : Nat} {L : Nat → FF} (M : MF P w K mg R0 fI) (O : Oks P w K mg base n L) {f : Addr} {cdv : Value} {A : Around} {outer : List Env} {s : Shared} {H : Hp} {E : XK}
    (ct : Ct (BX P w K mg base ["generator", "bound", "drawn", "turn"] "_law_random" (defScope (tp 30)) f cdv A outer s H E) n) : DenS (BX P w K mg base ["generator", "bound", "drawn", "turn"] "_law_random" (defScope (tp 30)) f cdv A outer s H E) (defBody (tp 30)) (b__law_random L) :=
    (denS_cons (denS_if (denT_cmp sem_gt (den_ix (den_var (i := 0) rfl (by first | exact Or.inl rfl | exact Or.inr (Or.inl rfl) | exact Or.inr (Or.inr rfl)) rfl rfl) den_int (by intro _ _; rfl)) den_int rfl) (denS_cons (denS_set ct (i := 2) rfl (by first | exact Or.inl rfl | exact Or.inr rfl) (by first | exact Or.inl rfl | exact Or.inr rfl) (den_bin sem_mod (den_callTy (sem_intT) rfl M.f_int (by decide +kernel) (denA_cons (den_ix (den_var (i := 0) rfl (by first | exact Or.inl rfl | exact Or.inr (Or.inl rfl) | exact Or.inr (Or.inr rfl)) rfl rfl) den_int (by intro _ _; rfl)) denA_nil rfl) (by decide) rfl rfl rfl) (den_var (i := 1) rfl (by first | exact Or.inl rfl | exact Or.inr (Or.inl rfl) | exact Or.inr (Or.inr rfl)) rfl rfl)) rfl)
    (denS_cons (denS_boxSet (i := 0) (j := 0) rfl (by first | exact Or.inl rfl | exact Or.inr (Or.inl rfl) | exact Or.inr (Or.inr rfl)) rfl rfl (den_bin sem_fdiv (den_ix (den_var (i := 0) rfl (by first | exact Or.inl rfl | exact Or.inr (Or.inl rfl) | exact Or.inr (Or.inr rfl)) rfl rfl) den_int (by intro _ _; rfl)) (den_var (i := 1) rfl (by first | exact Or.inl rfl | exact Or.inr (Or.inl rfl) | exact Or.inr (Or.inr rfl)) rfl rfl)) (fun _ => rfl) rfl rfl rfl)
    (denS_cons (denS_ret (den_var (i := 2) rfl (by first | exact Or.inl rfl | exact Or.inr (Or.inl rfl) | exact Or.inr (Or.inr rfl)) rfl rfl))
    denS_nil))) denS_nil)
    (denS_cons (denS_set ct (i := 2) rfl (by first | exact Or.inl rfl | exact Or.inr rfl) (by first | exact Or.inl rfl | exact Or.inr rfl) den_int rfl)
    (denS_cons (denS_for ct bx_po (denI_rg1 rfl M.f_range (denA_cons (den_fz (den_bin sem_add den_int (den_bin sem_fdiv (den_bits (den_var (i := 1) rfl (by first | exact Or.inl rfl | exact Or.inr (Or.inl rfl) | exact Or.inr (Or.inr rfl)) rfl rfl) rfl rfl) den_int))) denA_nil rfl) rfl) (denG_name ct (i := 3) rfl (by first | exact Or.inl rfl | exact Or.inr rfl) (by first | exact Or.inl rfl | exact Or.inr rfl)) (denS_cons (denS_boxSet (i := 0) (j := 2) rfl (by first | exact Or.inl rfl | exact Or.inr (Or.inl rfl) | exact Or.inr (Or.inr rfl)) rfl rfl (den_fz (den_bin sem_add (den_ix (den_var (i := 0) rfl (by first | exact Or.inl rfl | exact Or.inr (Or.inl rfl) | exact Or.inr (Or.inr rfl)) rfl rfl) den_int (by intro _ _; rfl)) den_int)) (fun _ => rfl) rfl rfl rfl)
    (denS_cons (denS_set ct (i := 2) rfl (by first | exact Or.inl rfl | exact Or.inr rfl) (by first | exact Or.inl rfl | exact Or.inr rfl) (den_fz (den_bin sem_add (den_bin sem_mul (den_var (i := 2) rfl (by first | exact Or.inl rfl | exact Or.inr (Or.inl rfl) | exact Or.inr (Or.inr rfl)) rfl rfl) den_int) (den_call (CK.ok O.o__law_hash) ct (Nat.le_refl _) rfl (denA_cons (den_ix (den_var (i := 0) rfl (by first | exact Or.inl rfl | exact Or.inr (Or.inl rfl) | exact Or.inr (Or.inr rfl)) rfl rfl) den_int (by intro _ _; rfl)) (denA_cons (den_ix (den_var (i := 0) rfl (by first | exact Or.inl rfl | exact Or.inr (Or.inl rfl) | exact Or.inr (Or.inr rfl)) rfl rfl) den_int (by intro _ _; rfl)) denA_nil rfl) rfl) rfl rfl rfl))) rfl)
    denS_nil)) (fun _ => rfl))
    (denS_cons (denS_ret (den_bin sem_mod (den_callTy (sem_intT) rfl M.f_int (by decide +kernel) (denA_cons (den_var (i := 2) rfl (by first | exact Or.inl rfl | exact Or.inr (Or.inl rfl) | exact Or.inr (Or.inr rfl)) rfl rfl) denA_nil rfl) (by decide) rfl rfl rfl) (den_var (i := 1) rfl (by first | exact Or.inl rfl | exact Or.inr (Or.inl rfl) | exact Or.inr (Or.inr rfl)) rfl rfl)))
    denS_nil))))
theorem d__law_cell {P : Program} {w : World} {K : PySem.W.Frag} {mg : Str → Option Value} {base : Heap} {R0 fI : Addr} {n : Nat} {L : Nat → FF} (M : MF P w K mg R0 fI) (O : Oks P w K mg base n L) {f : Addr} {cdv : Value} {A : Around} {outer : List Env} {s : Shared} {H : Hp} {E : XK}
    (ct : Ct (BX P w K mg base ["script", "index"] "_law_cell" (defScope (tp 31)) f cdv A outer s H E) n) : DenS (BX P w K mg base ["script", "index"] "_law_cell" (defScope (tp 31)) f cdv A outer s H E) (defBody (tp 31)) (b__law_cell L) :=
    (denS_cons (denS_if (denT_cmp sem_lt (den_var (i := 1) rfl (by first | exact Or.inl rfl | exact Or.inr (Or.inl rfl) | exact Or.inr (Or.inr rfl)) rfl rfl) (den_callB (sem_len) rfl M.f_len (by decide +kernel) (denA_cons (den_var (i := 0) rfl (by first | exact Or.inl rfl | exact Or.inr (Or.inl rfl) | exact Or.inr (Or.inr rfl)) rfl rfl) denA_nil rfl) (by decide) rfl rfl rfl) rfl) (denS_cons (denS_ret (den_ix (den_var (i := 0) rfl (by first | exact Or.inl rfl | exact Or.inr (Or.inl rfl) | exact Or.inr (Or.inr rfl)) rfl rfl) (den_var (i := 1) rfl (by first | exact Or.inl rfl | exact Or.inr (Or.inl rfl) | exact Or.inr (Or.inr rfl)) rfl rfl) (by intro _ _; rfl)))
    denS_nil) denS_nil)
    (denS_cons (denS_ret (den_bin sem_mod (den_callB (sem_sum ct) rfl M.f_sum (by decide +kernel) (denA_cons (den_sl (den_var (i := 0) rfl (by first | exact Or.inl rfl | exact Or.inr (Or.inl rfl) | exact Or.inr (Or.inr rfl)) rfl rfl) denO_none (denO_some den_int)) denA_nil rfl) (by decide) rfl rfl rfl) den_int))
    denS_nil))
theorem d__law_generator {P : Program} {w : World} {K : PySem.W.Frag} {mg : Str → Option Value} {base : Heap} {R0 fI : Addr} {n : Nat} {L : Nat → FF} (M : MF P w K mg R0 fI) (O : Oks P w K mg base n L) {f : Addr} {cdv : Value} {A : Around} {outer : List Env} {s : Shared} {H : Hp} {E : XK}
    (ct : Ct (BX P w K mg base ["script", "index", "seed"] "_law_generator" (defScope (tp 32)) f cdv A outer s H E) n) : DenS (BX P w K mg base ["script", "index", "seed"] "_law_generator" (defScope (tp 32)) f cdv A outer s H E) (defBody (tp 32)) (b__law_generator L) :=
    (denS_cons (denS_set ct (i := 2) rfl (by first | exact Or.inl rfl | exact Or.inr rfl) (by first | exact Or.inl rfl | exact Or.inr rfl) (den_call (CK.ok O.o__law_cell) ct (Nat.le_refl _) rfl (denA_cons (den_var (i := 0) rfl (by first | exact Or.inl rfl | exact Or.inr (Or.inl rfl) | exact Or.inr (Or.inr rfl)) rfl rfl) (denA_cons (den_var (i := 1) rfl (by first | exact Or.inl rfl | exact Or.inr (Or.inl rfl) | exact Or.inr (Or.inr rfl)) rfl rfl) denA_nil rfl) rfl) rfl rfl rfl) rfl)
    (denS_cons (denS_ret (den_lst (denA_cons (den_bin sem_mod (den_callTy (sem_intT) rfl M.f_int (by decide +kernel) (denA_cons (den_callB (sem_max ct) rfl M.f_max (by decide +kernel) (denA_cons (den_bin sem_sub (den_var (i := 2) rfl (by first | exact Or.inl rfl | exact Or.inr (Or.inl rfl) | exact Or.inr (Or.inr rfl)) rfl rfl) (den_bin sem_pow den_int den_int)) (denA_cons den_int denA_nil rfl) rfl) (by decide) rfl rfl rfl) denA_nil rfl) (by decide) rfl rfl rfl) (den_bin sem_pow (den_bin sem_pow den_int den_int) den_int)) (denA_cons (den_bin sem_mod (den_callTy (sem_intT) rfl M.f_int (by decide +kernel) (denA_cons (den_var (i := 2) rfl (by first | exact Or.inl rfl | exact Or.inr (Or.inl rfl) | exact Or.inr (Or.inr rfl)) rfl rfl) denA_nil rfl) (by decide) rfl rfl rfl) den_int) (denA_cons (den_bin sem_mul den_int (den_var (i := 1) rfl (by first | exact Or.inl rfl | exact Or.inr (Or.inl rfl) | exact Or.inr (Or.inr rfl)) rfl rfl)) denA_nil rfl) rfl) rfl)))
    denS_nil))
theorem d__law_pick {P : Program} {w : World} {K : PySem.W.Frag} {mg : Str → Option Value} {base : Heap} {R0 fI : Addr} {n : Nat} {L : Nat → FF} (M : MF P w K mg R0 fI) (O : Oks P w K mg base n L) {f : Addr} {cdv : Value} {A : Around} {outer : List Env} {s : Shared} {H : Hp} {E : XK}
    (ct : Ct (BX P w K mg base ["generator", "things"] "_law_pick" (defScope (tp 33)) f cdv A outer s H E) n) : DenS (BX P w K mg base ["generator", "things"] "_law_pick" (defScope (tp 33)) f cdv A outer s H E) (defBody (tp 33)) (b__law_pick L) :=
    (denS_cons (denS_ret (den_ix (den_var (i := 1) rfl (by first | exact Or.inl rfl | exact Or.inr (Or.inl rfl) | exact Or.inr (Or.inr rfl)) rfl rfl) (den_call (CK.ok O.o__law_random) ct (Nat.le_refl _) rfl (denA_cons (den_var (i := 0) rfl (by first | exact Or.inl rfl | exact Or.inr (Or.inl rfl) | exact Or.inr (Or.inr rfl)) rfl rfl) (denA_cons (den_callB (sem_len) rfl M.f_len (by decide +kernel) (denA_cons (den_var (i := 1) rfl (by first | exact Or.inl rfl | exact Or.inr (Or.inl rfl) | exact Or.inr (Or.inr rfl)) rfl rfl) denA_nil rfl) (by decide) rfl rfl rfl) denA_nil rfl) rfl) rfl rfl rfl) (by intro _ _; rfl)))
    denS_nil)
theorem d__law_same {P : Program} {w : World} {K : PySem.W.Frag} {mg : Str → Option Value} {base : Heap} {R0 fI : Addr} {n : Nat} {L : Nat → FF} (M : MF P w K mg R0 fI) (O : Oks P w K mg base n L) {f : Addr} {cdv : Value} {A : Around} {outer : List Env} {s : Shared} {H : Hp} {E : XK}
    (ct : Ct (BX P w K mg base ["found", "due", "one", "other", "key"] "_law_same" (defScope (tp 34)) f cdv A outer s H E) n) : DenS (BX P w K mg base ["found", "due", "one", "other", "key"] "_law_same" (defScope (tp 34)) f cdv A outer s H E) (defBody (tp 34)) (b__law_same L) :=
    (denS_cons (denS_if (denT_val (den_isi2 (t1 := .list) (t2 := .tuple) (den_var (i := 1) rfl (by first | exact Or.inl rfl | exact Or.inr (Or.inl rfl) | exact Or.inr (Or.inr rfl)) rfl rfl) rfl M.f_isinstance rfl M.f_list (by decide +kernel) (by decide) rfl rfl M.f_tuple (by decide +kernel) (by decide) rfl rfl rfl rfl rfl rfl) (fun _ => rfl)) (denS_cons (denS_if (denW_t (denW_or (denT_cmp (sem_ne ct) (den_isi (t := .list) (den_var (i := 0) rfl (by first | exact Or.inl rfl | exact Or.inr (Or.inl rfl) | exact Or.inr (Or.inr rfl)) rfl rfl) rfl M.f_isinstance rfl M.f_list (by decide +kernel) (by decide) rfl rfl rfl rfl) (den_isi (t := .list) (den_var (i := 1) rfl (by first | exact Or.inl rfl | exact Or.inr (Or.inl rfl) | exact Or.inr (Or.inr rfl)) rfl rfl) rfl M.f_isinstance rfl M.f_list (by decide +kernel) (by decide) rfl rfl rfl rfl) rfl) (denW_or1 (denT_cmp (sem_ne ct) (den_isi (t := .tuple) (den_var (i := 0) rfl (by first | exact Or.inl rfl | exact Or.inr (Or.inl rfl) | exact Or.inr (Or.inr rfl)) rfl rfl) rfl M.f_isinstance rfl M.f_tuple (by decide +kernel) (by decide) rfl rfl rfl rfl) (den_isi (t := .tuple) (den_var (i := 1) rfl (by first | exact Or.inl rfl | exact Or.inr (Or.inl rfl) | exact Or.inr (Or.inr rfl)) rfl rfl) rfl M.f_isinstance rfl M.f_tuple (by decide +kernel) (by decide) rfl rfl rfl rfl) rfl)))) (denS_cons (denS_ret den_bl)
    denS_nil) denS_nil)
    (denS_cons (denS_ret (den_and (den_cmp (sem_eq ct) (den_callB (sem_len) rfl M.f_len (by decide +kernel) (denA_cons (den_var (i := 0) rfl (by first | exact Or.inl rfl | exact Or.inr (Or.inl rfl) | exact Or.inr (Or.inr rfl)) rfl rfl) denA_nil rfl) (by decide) rfl rfl rfl) (den_callB (sem_len) rfl M.f_len (by decide +kernel) (denA_cons (den_var (i := 1) rfl (by first | exact Or.inl rfl | exact Or.inr (Or.inl rfl) | exact Or.inr (Or.inr rfl)) rfl rfl) denA_nil rfl) (by decide) rfl rfl rfl) rfl) (den_one (den_callB (sem_all ct) rfl M.f_all (by decide +kernel) (denA_cons (den_lc ct (own := [("one", 2), ("other", 3)]) (blkOk_by rfl) (denI_zip rfl M.f_zip (denA_cons (den_var (i := 0) rfl (by first | exact Or.inl rfl | exact Or.inr (Or.inl rfl) | exact Or.inr (Or.inr rfl)) rfl rfl) (denA_cons (den_var (i := 1) rfl (by first | exact Or.inl rfl | exact Or.inr (Or.inl rfl) | exact Or.inr (Or.inr rfl)) rfl rfl) denA_nil rfl) rfl) rfl rfl) (by decide) (fun s H C cl fp => (denG_tup (Ct.blk ct) (denGs_cons (denG_name (Ct.blk ct) (i := 2) rfl (by first | exact Or.inl rfl | exact Or.inr rfl) (by first | exact Or.inl rfl | exact Or.inr rfl)) (denGs_cons (denG_name (Ct.blk ct) (i := 3) rfl (by first | exact Or.inl rfl | exact Or.inr rfl) (by first | exact Or.inl rfl | exact Or.inr rfl)) denGs_nil rfl) rfl) rfl rfl)) (fun s H C cl fp => denTs_nil) (fun s H C cl fp => (den_call (CK.ok O.o__law_same) (Ct.blk ct) (Nat.le_refl _) rfl (denA_cons (den_var (i := 2) rfl (by first | exact Or.inl rfl | exact Or.inr (Or.inl rfl) | exact Or.inr (Or.inr rfl)) rfl rfl) (denA_cons (den_var (i := 3) rfl (by first | exact Or.inl rfl | exact Or.inr (Or.inl rfl) | exact Or.inr (Or.inr rfl)) rfl rfl) denA_nil rfl) rfl) rfl rfl rfl)) (fun _ => rfl)) denA_nil rfl) (by decide) rfl rfl rfl))))
    denS_nil)) denS_nil)
    (denS_cons (denS_if (denT_val (den_isi (t := .dict) (den_var (i := 1) rfl (by first | exact Or.inl rfl | exact Or.inr (Or.inl rfl) | exact Or.inr (Or.inr rfl)) rfl rfl) rfl M.f_isinstance rfl M.f_dict (by decide +kernel) (by decide) rfl rfl rfl rfl) (fun _ => rfl)) (denS_cons (denS_if (denW_t (denW_or (denT_not (denT_val (den_isi (t := .dict) (den_var (i := 0) rfl (by first | exact Or.inl rfl | exact Or.inr (Or.inl rfl) | exact Or.inr (Or.inr rfl)) rfl rfl) rfl M.f_isinstance rfl M.f_dict (by decide +kernel) (by decide) rfl rfl rfl rfl) (fun _ => rfl))) (denW_or1 (denT_cmp (sem_ne ct) (den_callB (sem_len) rfl M.f_len (by decide +kernel) (denA_cons (den_var (i := 0) rfl (by first | exact Or.inl rfl | exact Or.inr (Or.inl rfl) | exact Or.inr (Or.inr rfl)) rfl rfl) denA_nil rfl) (by decide) rfl rfl rfl) (den_callB (sem_len) rfl M.f_len (by decide +kernel) (denA_cons (den_var (i := 1) rfl (by first | exact Or.inl rfl | exact Or.inr (Or.inl rfl) | exact Or.inr (Or.inr rfl)) rfl rfl) denA_nil rfl) (by decide) rfl rfl rfl) rfl)))) (denS_cons (denS_ret den_bl)
    denS_nil) denS_nil)
    (denS_cons (denS_ret (den_callB (sem_all ct) rfl M.f_all (by decide +kernel) (denA_cons (den_lc ct (own := [("key", 4)]) (blkOk_by rfl) (denI_seq (den_var (i := 1) rfl (by first | exact Or.inl rfl | exact Or.inr (Or.inl rfl) | exact Or.inr (Or.inr rfl)) rfl rfl)) (by decide) (fun s H C cl fp => (denG_name (Ct.blk ct) (i := 4) rfl (by first | exact Or.inl rfl | exact Or.inr rfl) (by first | exact Or.inl rfl | exact Or.inr rfl))) (fun s H C cl fp => denTs_nil) (fun s H C cl fp => (den_and (den_cmp (sem_in (Ct.blk ct)) (den_var (i := 4) rfl (by first | exact Or.inl rfl | exact Or.inr (Or.inl rfl) | exact Or.inr (Or.inr rfl)) rfl rfl) (den_var (i := 0) rfl (by first | exact Or.inl rfl | exact Or.inr (Or.inl rfl) | exact Or.inr (Or.inr rfl)) rfl rfl) rfl) (den_one (den_call (CK.ok O.o__law_same) (Ct.blk ct) (Nat.le_refl _) rfl (denA_cons (den_ix (den_var (i := 0) rfl (by first | exact Or.inl rfl | exact Or.inr (Or.inl rfl) | exact Or.inr (Or.inr rfl)) rfl rfl) (den_var (i := 4) rfl (by first | exact Or.inl rfl | exact Or.inr (Or.inl rfl) | exact Or.inr (Or.inr rfl)) rfl rfl) (by intro _ _; rfl)) (denA_cons (den_ix (den_var (i := 1) rfl (by first | exact Or.inl rfl | exact Or.inr (Or.inl rfl) | exact Or.inr (Or.inr rfl)) rfl rfl) (den_var (i := 4) rfl (by first | exact Or.inl rfl | exact Or.inr (Or.inl rfl) | exact Or.inr (Or.inr rfl)) rfl rfl) (by intro _ _; rfl)) denA_nil rfl) rfl) rfl rfl rfl)))) (fun _ => rfl)) denA_nil rfl) (by decide) rfl rfl rfl))
    denS_nil)) denS_nil)
    (denS_cons (denS_if (denT_val (den_isi (t := .str) (den_var (i := 1) rfl (by first | exact Or.inl rfl | exact Or.inr (Or.inl rfl) | exact Or.inr (Or.inr rfl)) rfl rfl) rfl M.f_isinstance rfl M.f_str (by decide +kernel) (by decide) rfl rfl rfl rfl) (fun _ => rfl)) (denS_cons (denS_ret (den_and (den_isi (t := .str) (den_var (i := 0) rfl (by first | exact Or.inl rfl | exact Or.inr (Or.inl rfl) | exact Or.inr (Or.inr rfl)) rfl rfl) rfl M.f_isinstance rfl M.f_str (by decide +kernel) (by decide) rfl rfl rfl rfl) (den_one (den_cmp (sem_eq ct) (den_var (i := 0) rfl (by first | exact Or.inl rfl | exact Or.inr (Or.inl rfl) | exact Or.inr (Or.inr rfl)) rfl rfl) (den_var (i := 1) rfl (by first | exact Or.inl rfl | exact Or.inr (Or.inl rfl) | exact Or.inr (Or.inr rfl)) rfl rfl) rfl))))
    denS_nil) denS_nil)
    (denS_cons (denS_if (denT_isN (den_var (i := 1) rfl (by first | exact Or.inl rfl | exact Or.inr (Or.inl rfl) | exact Or.inr (Or.inr rfl)) rfl rfl)) (denS_cons (denS_ret (den_isN (den_var (i := 0) rfl (by first | exact Or.inl rfl | exact Or.inr (Or.inl rfl) | exact Or.inr (Or.inr rfl)) rfl rfl)))
    denS_nil) denS_nil)
    (denS_cons (denS_ret (den_and (den_isi (t := .int) (den_var (i := 0) rfl (by first | exact Or.inl rfl | exact Or.inr (Or.inl rfl) | exact Or.inr (Or.inr rfl)) rfl rfl) rfl M.f_isinstance rfl M.f_int (by decide +kernel) (by decide) rfl rfl rfl rfl) (den_and (den_cmp (sem_eq ct) (den_isi (t := .bool) (den_var (i := 0) rfl (by first | exact Or.inl rfl | exact Or.inr (Or.inl rfl) | exact Or.inr (Or.inr rfl)) rfl rfl) rfl M.f_isinstance rfl M.f_bool (by decide +kernel) (by decide) rfl rfl rfl rfl) (den_isi (t := .bool) (den_var (i := 1) rfl (by first | exact Or.inl rfl | exact Or.inr (Or.inl rfl) | exact Or.inr (Or.inr rfl)) rfl rfl) rfl M.f_isinstance rfl M.f_bool (by decide +kernel) (by decide) rfl rfl rfl rfl) rfl) (den_one (den_cmp (sem_eq ct) (den_var (i := 0) rfl (by first | exact Or.inl rfl | exact Or.inr (Or.inl rfl) | exact Or.inr (Or.inr rfl)) rfl rfl) (den_var (i := 1) rfl (by first | exact Or.inl rfl | exact Or.inr (Or.inl rfl) | exact Or.inr (Or.inr rfl)) rfl rfl) rfl)))))
    denS_nil)))))
theorem d__law_named_thing {P : Program} {w : World} {K : PySem.W.Frag} {mg : Str → Option Value} {base : Heap} {R0 fI : Addr} {n : Nat} {L : Nat → FF} (M : MF P w K mg R0 fI) (O : Oks P w K mg base n L) {f : Addr} {cdv : Value} {A : Around} {outer : List Env} {s : Shared} {H : Hp} {E : XK}
    (ct : Ct (BX P w K mg base ["generator", "names", "kind", "known", "name", "late"] "_law_named_thing" (defScope (tp 35)) f cdv A outer s H E) n) : DenS (BX P w K mg base ["generator", "names", "kind", "known", "name", "late"] "_law_named_thing" (defScope (tp 35)) f cdv A outer s H E) (defBody (tp 35)) (b__law_named_thing L) :=
    (denS_cons (denS_lock 3 (denS_setLc ct (i := 3) rfl rfl (sw_true rfl rfl rfl rfl) (own := [("name", 4), ("late", 5)]) (blkOk_by rfl) (denI_seq (den_var (i := 1) rfl (by first | exact Or.inl rfl | exact Or.inr (Or.inl rfl) | exact Or.inr (Or.inr rfl)) rfl rfl)) (by decide) (fun s H C cl fp => (denG_tup (Ct.blk ct) (denGs_cons (denG_name (Ct.blk ct) (i := 4) rfl (by first | exact Or.inl rfl | exact Or.inr rfl) (by first | exact Or.inl rfl | exact Or.inr rfl)) (denGs_cons (denG_name (Ct.blk ct) (i := 5) rfl (by first | exact Or.inl rfl | exact Or.inr rfl) (by first | exact Or.inl rfl | exact Or.inr rfl)) denGs_nil rfl) rfl) rfl rfl)) (fun s H C cl fp => (denTs_one (denT_cmp (sem_eq (Ct.blk ct)) (den_var (i := 5) rfl (by first | exact Or.inl rfl | exact Or.inr (Or.inl rfl) | exact Or.inr (Or.inr rfl)) rfl rfl) (den_var (i := 2) rfl (by first | exact Or.inl rfl | exact Or.inr (Or.inl rfl) | exact Or.inr (Or.inr rfl)) rfl rfl) rfl))) (fun s H C cl fp => (den_tup (denA_cons den_str (denA_cons (den_var (i := 4) rfl (by first | exact Or.inl rfl | exact Or.inr (Or.inl rfl) | exact Or.inr (Or.inr rfl)) rfl rfl) denA_nil rfl) rfl))) (fun _ => rfl)))
    (denS_cons (denS_if (denW_t (denW_and (denT_cmp (sem_ne ct) (den_var (i := 3) rfl (by first | exact Or.inl rfl | exact Or.inr (Or.inl rfl) | exact Or.inr (Or.inr rfl)) rfl rfl) (den_lit 99 (by kernel_rfl)) rfl) (denW_and1 (denT_cmp sem_gt (den_call (CK.ok O.o__law_random) ct (Nat.le_refl _) rfl (denA_cons (den_var (i := 0) rfl (by first | exact Or.inl rfl | exact Or.inr (Or.inl rfl) | exact Or.inr (Or.inr rfl)) rfl rfl) (denA_cons den_int denA_nil rfl) rfl) rfl rfl rfl) den_int rfl)))) (denS_cons (denS_ret (den_call (CK.ok O.o__law_pick) ct (Nat.le_refl _) rfl (denA_cons (den_var (i := 0) rfl (by first | exact Or.inl rfl | exact Or.inr (Or.inl rfl) | exact Or.inr (Or.inr rfl)) rfl rfl) (denA_cons (den_var (i := 3) rfl (by first | exact Or.inl rfl | exact Or.inr (Or.inl rfl) | exact Or.inr (Or.inr rfl)) rfl rfl) denA_nil rfl) rfl) rfl rfl rfl))
    denS_nil) denS_nil)
    (denS_cons (denS_if (denT_cmp (sem_eq ct) (den_var (i := 2) rfl (by first | exact Or.inl rfl | exact Or.inr (Or.inl rfl) | exact Or.inr (Or.inr rfl)) rfl rfl) den_str rfl) (denS_cons (denS_ret (den_if (denT_cmp (sem_eq ct) (den_call (CK.ok O.o__law_random) ct (Nat.le_refl _) rfl (denA_cons (den_var (i := 0) rfl (by first | exact Or.inl rfl | exact Or.inr (Or.inl rfl) | exact Or.inr (Or.inr rfl)) rfl rfl) (denA_cons den_int denA_nil rfl) rfl) rfl rfl rfl) den_int rfl) (den_lit 99 (by kernel_rfl)) (den_tup (denA_cons den_str (denA_cons den_str (denA_cons (den_tup (denA_cons (den_if (denT_cmp (sem_eq ct) (den_var (i := 3) rfl (by first | exact Or.inl rfl | exact Or.inr (Or.inl rfl) | exact Or.inr (Or.inr rfl)) rfl rfl) (den_lit 99 (by kernel_rfl)) rfl) (den_lit 99 (by kernel_rfl)) (den_ix (den_var (i := 3) rfl (by first | exact Or.inl rfl | exact Or.inr (Or.inl rfl) | exact Or.inr (Or.inr rfl)) rfl rfl) den_int (by intro _ _; rfl))) denA_nil rfl)) denA_nil rfl) rfl) rfl))))
    denS_nil) denS_nil)
    (denS_cons (denS_ret (den_if (denT_cmp (sem_eq ct) (den_call (CK.ok O.o__law_random) ct (Nat.le_refl _) rfl (denA_cons (den_var (i := 0) rfl (by first | exact Or.inl rfl | exact Or.inr (Or.inl rfl) | exact Or.inr (Or.inr rfl)) rfl rfl) (denA_cons den_int denA_nil rfl) rfl) rfl rfl rfl) den_int rfl) (den_lit 99 (by kernel_rfl)) (den_tup (denA_cons den_str (denA_cons den_str (denA_cons (den_tup (denA_cons (den_call (CK.ok O.o__law_named_thing) ct (Nat.le_refl _) rfl (denA_cons (den_var (i := 0) rfl (by first | exact Or.inl rfl | exact Or.inr (Or.inl rfl) | exact Or.inr (Or.inr rfl)) rfl rfl) (denA_cons (den_var (i := 1) rfl (by first | exact Or.inl rfl | exact Or.inr (Or.inl rfl) | exact Or.inr (Or.inr rfl)) rfl rfl) (denA_cons den_str denA_nil rfl) rfl) rfl) rfl rfl rfl) denA_nil rfl)) denA_nil rfl) rfl) rfl))))
    denS_nil))))
theorem d__law_leaf_saying {P : Program} {w : World} {K : PySem.W.Frag} {mg : Str → Option Value} {base : Heap} {R0 fI : Addr} {n : Nat} {L : Nat → FF} (M : MF P w K mg R0 fI) (O : Oks P w K mg base n L) {f : Addr} {cdv : Value} {A : Around} {outer : List Env} {s : Shared} {H : Hp} {E : XK}
    (ct : Ct (BX P w K mg base ["generator", "names", "way", "one", "other"] "_law_leaf_saying" (defScope (tp 36)) f cdv A outer s H E) n) : DenS (BX P w K mg base ["generator", "names", "way", "one", "other"] "_law_leaf_saying" (defScope (tp 36)) f cdv A outer s H E) (defBody (tp 36)) (b__law_leaf_saying L) :=
    (denS_cons (denS_set ct (i := 2) rfl (by first | exact Or.inl rfl | exact Or.inr rfl) (by first | exact Or.inl rfl | exact Or.inr rfl) (den_call (CK.ok O.o__law_random) ct (Nat.le_refl _) rfl (denA_cons (den_var (i := 0) rfl (by first | exact Or.inl rfl | exact Or.inr (Or.inl rfl) | exact Or.inr (Or.inr rfl)) rfl rfl) (denA_cons den_int denA_nil rfl) rfl) rfl rfl rfl) rfl)
    (denS_cons (denS_par ct (i := 3) (j := 4) rfl rfl (by decide) rfl rfl (den_call (CK.ok O.o__law_named_thing) ct (Nat.le_refl _) rfl (denA_cons (den_var (i := 0) rfl (by first | exact Or.inl rfl | exact Or.inr (Or.inl rfl) | exact Or.inr (Or.inr rfl)) rfl rfl) (denA_cons (den_var (i := 1) rfl (by first | exact Or.inl rfl | exact Or.inr (Or.inl rfl) | exact Or.inr (Or.inr rfl)) rfl rfl) (denA_cons den_str denA_nil rfl) rfl) rfl) rfl rfl rfl) (den_call (CK.ok O.o__law_named_thing) ct (Nat.le_refl _) rfl (denA_cons (den_var (i := 0) rfl (by first | exact Or.inl rfl | exact Or.inr (Or.inl rfl) | exact Or.inr (Or.inr rfl)) rfl rfl) (denA_cons (den_var (i := 1) rfl (by first | exact Or.inl rfl | exact Or.inr (Or.inl rfl) | exact Or.inr (Or.inr rfl)) rfl rfl) (denA_cons den_str denA_nil rfl) rfl) rfl) rfl rfl rfl) rfl rfl rfl rfl)
    (denS_cons (denS_if (denT_cmp sem_lt (den_var (i := 2) rfl (by first | exact Or.inl rfl | exact Or.inr (Or.inl rfl) | exact Or.inr (Or.inr rfl)) rfl rfl) den_int rfl) (denS_cons (denS_ret (den_if (denT_cmp (sem_eq ct) (den_var (i := 2) rfl (by first | exact Or.inl rfl | exact Or.inr (Or.inl rfl) | exact Or.inr (Or.inr rfl)) rfl rfl) den_int rfl) (den_tup (denA_cons den_str (denA_cons den_str (denA_cons (den_tup (denA_cons (den_var (i := 3) rfl (by first | exact Or.inl rfl | exact Or.inr (Or.inl rfl) | exact Or.inr (Or.inr rfl)) rfl rfl) denA_nil rfl)) denA_nil rfl) rfl) rfl)) (den_tup (denA_cons den_str (denA_cons den_str (denA_cons (den_tup (denA_cons (den_var (i := 3) rfl (by first | exact Or.inl rfl | exact Or.inr (Or.inl rfl) | exact Or.inr (Or.inr rfl)) rfl rfl) (denA_cons (den_call (CK.ok O.o__law_named_thing) ct (Nat.le_refl _) rfl (denA_cons (den_var (i := 0) rfl (by first | exact Or.inl rfl | exact Or.inr (Or.inl rfl) | exact Or.inr (Or.inr rfl)) rfl rfl) (denA_cons (den_var (i := 1) rfl (by first | exact Or.inl rfl | exact Or.inr (Or.inl rfl) | exact Or.inr (Or.inr rfl)) rfl rfl) (denA_cons den_str denA_nil rfl) rfl) rfl) rfl rfl rfl) denA_nil rfl) rfl)) denA_nil rfl) rfl) rfl))))
    denS_nil) denS_nil)
    (denS_cons (denS_if (denT_cmp sem_lt (den_var (i := 2) rfl (by first | exact Or.inl rfl | exact Or.inr (Or.inl rfl) | exact Or.inr (Or.inr rfl)) rfl rfl) den_int rfl) (denS_cons (denS_ret (den_if (denT_cmp (sem_eq ct) (den_var (i := 2) rfl (by first | exact Or.inl rfl | exact Or.inr (Or.inl rfl) | exact Or.inr (Or.inr rfl)) rfl rfl) den_int rfl) (den_tup (denA_cons den_str (denA_cons (den_var (i := 3) rfl (by first | exact Or.inl rfl | exact Or.inr (Or.inl rfl) | exact Or.inr (Or.inr rfl)) rfl rfl) (denA_cons (den_var (i := 4) rfl (by first | exact Or.inl rfl | exact Or.inr (Or.inl rfl) | exact Or.inr (Or.inr rfl)) rfl rfl) denA_nil rfl) rfl) rfl)) (den_tup (denA_cons den_str (denA_cons den_str (denA_cons (den_var (i := 3) rfl (by first | exact Or.inl rfl | exact Or.inr (Or.inl rfl) | exact Or.inr (Or.inr rfl)) rfl rfl) (denA_cons (den_var (i := 4) rfl (by first | exact Or.inl rfl | exact Or.inr (Or.inl rfl) | exact Or.inr (Or.inr rfl)) rfl rfl) denA_nil rfl) rfl) rfl) rfl))))
    denS_nil) denS_nil)
    (denS_cons (denS_if (denT_cmp sem_lt (den_var (i := 2) rfl (by first | exact Or.inl rfl | exact Or.inr (Or.inl rfl) | exact Or.inr (Or.inr rfl)) rfl rfl) den_int rfl) (denS_cons (denS_ret (den_if (denT_cmp (sem_eq ct) (den_var (i := 2) rfl (by first | exact Or.inl rfl | exact Or.inr (Or.inl rfl) | exact Or.inr (Or.inr rfl)) rfl rfl) den_int rfl) (den_tup (denA_cons den_str (denA_cons (den_var (i := 3) rfl (by first | exact Or.inl rfl | exact Or.inr (Or.inl rfl) | exact Or.inr (Or.inr rfl)) rfl rfl) (denA_cons (den_tup (denA_cons den_str (denA_cons den_str (denA_cons (den_tup (denA_cons (den_var (i := 4) rfl (by first | exact Or.inl rfl | exact Or.inr (Or.inl rfl) | exact Or.inr (Or.inr rfl)) rfl rfl) denA_nil rfl)) denA_nil rfl) rfl) rfl)) denA_nil rfl) rfl) rfl)) (den_tup (denA_cons den_str (denA_cons (den_tup (denA_cons den_str (denA_cons den_str (denA_cons (den_tup (denA_cons (den_var (i := 3) rfl (by first | exact Or.inl rfl | exact Or.inr (Or.inl rfl) | exact Or.inr (Or.inr rfl)) rfl rfl) denA_nil rfl)) denA_nil rfl) rfl) rfl)) (denA_cons (den_tup (denA_cons den_str (denA_cons (den_var (i := 4) rfl (by first | exact Or.inl rfl | exact Or.inr (Or.inl rfl) | exact Or.inr (Or.inr rfl)) rfl rfl) denA_nil rfl) rfl)) denA_nil rfl) rfl) rfl))))
    denS_nil) denS_nil)
    (denS_cons (denS_ret (den_if (denT_cmp (sem_eq ct) (den_var (i := 2) rfl (by first | exact Or.inl rfl | exact Or.inr (Or.inl rfl) | exact Or.inr (Or.inr rfl)) rfl rfl) den_int rfl) (den_tup (denA_cons den_str (denA_cons (den_tup (denA_cons den_str (denA_cons den_str (denA_cons (den_tup (denA_cons (den_var (i := 3) rfl (by first | exact Or.inl rfl | exact Or.inr (Or.inl rfl) | exact Or.inr (Or.inr rfl)) rfl rfl) denA_nil rfl)) denA_nil rfl) rfl) rfl)) (denA_cons (den_tup (denA_cons den_str (denA_cons (den_call (CK.ok O.o__law_random) ct (Nat.le_refl _) rfl (denA_cons (den_var (i := 0) rfl (by first | exact Or.inl rfl | exact Or.inr (Or.inl rfl) | exact Or.inr (Or.inr rfl)) rfl rfl) (denA_cons den_int denA_nil rfl) rfl) rfl rfl rfl) denA_nil rfl) rfl)) denA_nil rfl) rfl) rfl)) (den_call (CK.ok O.o__law_pick) ct (Nat.le_refl _) rfl (denA_cons (den_var (i := 0) rfl (by first | exact Or.inl rfl | exact Or.inr (Or.inl rfl) | exact Or.inr (Or.inr rfl)) rfl rfl) (denA_cons (den_fz (den_lit 99 (by kernel_rfl))) denA_nil rfl) rfl) rfl rfl rfl)))
    denS_nil))))))
theorem d__law_saying {P : Program} {w : World} {K : PySem.W.Frag} {mg : Str → Option Value} {base : Heap} {R0 fI : Addr} {n : Nat} {L : Nat → FF} (M : MF P w K mg R0 fI) (O : Oks P w K mg base n L) {f : Addr} {cdv : Value} {A : Around} {outer : List Env} {s : Shared} {H : Hp} {E : XK}
    (ct : Ct (BX P w K mg base ["generator", "depth", "names", "way", "name", "kind"] "_law_saying" (defScope (tp 37)) f cdv A outer s H E) n) : DenS (BX P w K mg base ["generator", "depth", "names", "way", "name", "kind"] "_law_saying" (defScope (tp 37)) f cdv A outer s H E) (defBody (tp 37)) (b__law_saying L) :=
    (denS_cons (denS_set ct (i := 3) rfl (by first | exact Or.inl rfl | exact Or.inr rfl) (by first | exact Or.inl rfl | exact Or.inr rfl) (den_call (CK.ok O.o__law_random) ct (Nat.le_refl _) rfl (denA_cons (den_var (i := 0) rfl (by first | exact Or.inl rfl | exact Or.inr (Or.inl rfl) | exact Or.inr (Or.inr rfl)) rfl rfl) (denA_cons den_int denA_nil rfl) rfl) rfl rfl rfl) rfl)
    (denS_cons (denS_if (denW_t (denW_or (denT_cmp (sem_eq ct) (den_var (i := 1) rfl (by first | exact Or.inl rfl | exact Or.inr (Or.inl rfl) | exact Or.inr (Or.inr rfl)) rfl rfl) den_int rfl) (denW_or1 (denT_cmp (sem_eq ct) (den_var (i := 3) rfl (by first | exact Or.inl rfl | exact Or.inr (Or.inl rfl) | exact Or.inr (Or.inr rfl)) rfl rfl) den_int rfl)))) (denS_cons (denS_ret (den_call (CK.ok O.o__law_leaf_saying) ct (Nat.le_refl _) rfl (denA_cons (den_var (i := 0) rfl (by first | exact Or.inl rfl | exact Or.inr (Or.inl rfl) | exact Or.inr (Or.inr rfl)) rfl rfl) (denA_cons (den_var (i := 2) rfl (by first | exact Or.inl rfl | exact Or.inr (Or.inl rfl) | exact Or.inr (Or.inr rfl)) rfl rfl) denA_nil rfl) rfl) rfl rfl rfl))
    denS_nil) denS_nil)
    (denS_cons (denS_if (denT_cmp (sem_eq ct) (den_var (i := 3) rfl (by first | exact Or.inl rfl | exact Or.inr (Or.inl rfl) | exact Or.inr (Or.inr rfl)) rfl rfl) den_int rfl) (denS_cons (denS_ret (den_tup (denA_cons den_str (denA_cons (den_call (CK.ok O.o__law_saying) ct (Nat.le_refl _) rfl (denA_cons (den_var (i := 0) rfl (by first | exact Or.inl rfl | exact Or.inr (Or.inl rfl) | exact Or.inr (Or.inr rfl)) rfl rfl) (denA_cons (den_bin sem_sub (den_var (i := 1) rfl (by first | exact Or.inl rfl | exact Or.inr (Or.inl rfl) | exact Or.inr (Or.inr rfl)) rfl rfl) den_int) (denA_cons (den_var (i := 2) rfl (by first | exact Or.inl rfl | exact Or.inr (Or.inl rfl) | exact Or.inr (Or.inr rfl)) rfl rfl) denA_nil rfl) rfl) rfl) rfl rfl rfl) denA_nil rfl) rfl)))
    denS_nil) denS_nil)
    (denS_cons (denS_if (denT_cmp sem_lt (den_var (i := 3) rfl (by first | exact Or.inl rfl | exact Or.inr (Or.inl rfl) | exact Or.inr (Or.inr rfl)) rfl rfl) den_int rfl) (denS_cons (denS_ret (den_tup (denA_cons (den_call (CK.ok O.o__law_pick) ct (Nat.le_refl _) rfl (denA_cons (den_var (i := 0) rfl (by first | exact Or.inl rfl | exact Or.inr (Or.inl rfl) | exact Or.inr (Or.inr rfl)) rfl rfl) (denA_cons (den_fz (den_lit 99 (by kernel_rfl))) denA_nil rfl) rfl) rfl rfl rfl) (denA_cons (den_call (CK.ok O.o__law_saying) ct (Nat.le_refl _) rfl (denA_cons (den_var (i := 0) rfl (by first | exact Or.inl rfl | exact Or.inr (Or.inl rfl) | exact Or.inr (Or.inr rfl)) rfl rfl) (denA_cons (den_bin sem_sub (den_var (i := 1) rfl (by first | exact Or.inl rfl | exact Or.inr (Or.inl rfl) | exact Or.inr (Or.inr rfl)) rfl rfl) den_int) (denA_cons (den_var (i := 2) rfl (by first | exact Or.inl rfl | exact Or.inr (Or.inl rfl) | exact Or.inr (Or.inr rfl)) rfl rfl) denA_nil rfl) rfl) rfl) rfl rfl rfl) (denA_cons (den_call (CK.ok O.o__law_saying) ct (Nat.le_refl _) rfl (denA_cons (den_var (i := 0) rfl (by first | exact Or.inl rfl | exact Or.inr (Or.inl rfl) | exact Or.inr (Or.inr rfl)) rfl rfl) (denA_cons (den_bin sem_sub (den_var (i := 1) rfl (by first | exact Or.inl rfl | exact Or.inr (Or.inl rfl) | exact Or.inr (Or.inr rfl)) rfl rfl) den_int) (denA_cons (den_var (i := 2) rfl (by first | exact Or.inl rfl | exact Or.inr (Or.inl rfl) | exact Or.inr (Or.inr rfl)) rfl rfl) denA_nil rfl) rfl) rfl) rfl rfl rfl) denA_nil rfl) rfl) rfl)))
    denS_nil) denS_nil)
    (denS_cons (denS_par ct (i := 4) (j := 5) rfl rfl (by decide) rfl rfl (den_fz (den_bin sem_add den_str (den_callTy (sem_str) rfl M.f_str (by decide +kernel) (denA_cons (den_callB (sem_len) rfl M.f_len (by decide +kernel) (denA_cons (den_var (i := 2) rfl (by first | exact Or.inl rfl | exact Or.inr (Or.inl rfl) | exact Or.inr (Or.inr rfl)) rfl rfl) denA_nil rfl) (by decide) rfl rfl rfl) denA_nil rfl) (by decide) rfl rfl rfl))) (den_call (CK.ok O.o__law_pick) ct (Nat.le_refl _) rfl (denA_cons (den_var (i := 0) rfl (by first | exact Or.inl rfl | exact Or.inr (Or.inl rfl) | exact Or.inr (Or.inr rfl)) rfl rfl) (denA_cons (den_fz (den_lit 99 (by kernel_rfl))) denA_nil rfl) rfl) rfl rfl rfl) rfl rfl rfl rfl)
    (denS_cons (denS_ret (den_tup (denA_cons (den_call (CK.ok O.o__law_pick) ct (Nat.le_refl _) rfl (denA_cons (den_var (i := 0) rfl (by first | exact Or.inl rfl | exact Or.inr (Or.inl rfl) | exact Or.inr (Or.inr rfl)) rfl rfl) (denA_cons (den_fz (den_lit 99 (by kernel_rfl))) denA_nil rfl) rfl) rfl rfl rfl) (denA_cons (den_var (i := 4) rfl (by first | exact Or.inl rfl | exact Or.inr (Or.inl rfl) | exact Or.inr (Or.inr rfl)) rfl rfl) (denA_cons (den_var (i := 5) rfl (by first | exact Or.inl rfl | exact Or.inr (Or.inl rfl) | exact Or.inr (Or.inr rfl)) rfl rfl) (denA_cons (den_call (CK.ok O.o__law_saying) ct (Nat.le_refl _) rfl (denA_cons (den_var (i := 0) rfl (by first | exact Or.inl rfl | exact Or.inr (Or.inl rfl) | exact Or.inr (Or.inr rfl)) rfl rfl) (denA_cons (den_bin sem_sub (den_var (i := 1) rfl (by first | exact Or.inl rfl | exact Or.inr (Or.inl rfl) | exact Or.inr (Or.inr rfl)) rfl rfl) den_int) (denA_cons (den_fz (den_bin sem_add (den_var (i := 2) rfl (by first | exact Or.inl rfl | exact Or.inr (Or.inl rfl) | exact Or.inr (Or.inr rfl)) rfl rfl) (den_lst (denA_cons (den_tup (denA_cons (den_var (i := 4) rfl (by first | exact Or.inl rfl | exact Or.inr (Or.inl rfl) | exact Or.inr (Or.inr rfl)) rfl rfl) (denA_cons (den_var (i := 5) rfl (by first | exact Or.inl rfl | exact Or.inr (Or.inl rfl) | exact Or.inr (Or.inr rfl)) rfl rfl) denA_nil rfl) rfl)) denA_nil rfl)))) denA_nil rfl) rfl) rfl) rfl rfl rfl) denA_nil rfl) rfl) rfl) rfl)))
    denS_nil))))))
theorem d__law_signs {P : Program} {w : World} {K : PySem.W.Frag} {mg : Str → Option Value} {base : Heap} {R0 fI : Addr} {n : Nat} {L : Nat → FF} (M : MF P w K mg R0 fI) (O : Oks P w K mg base n L) {f : Addr} {cdv : Value} {A : Around} {outer : List Env} {s : Shared} {H : Hp} {E : XK}
    (ct : Ct (BX P w K mg base ["saying", "sign", "place", "found", "word", "contrary"] "_law_signs" (defScope (tp 38)) f cdv A outer s H E) n) : DenS (BX P w K mg base ["saying", "sign", "place", "found", "word", "contrary"] "_law_signs" (defScope (tp 38)) f cdv A outer s H E) (defBody (tp 38)) (b__law_signs L) :=
    (denS_cons (denS_par ct (i := 3) (j := 4) rfl rfl (by decide) rfl rfl (den_fz (den_lst (denA_cons (den_tup (denA_cons (den_var (i := 2) rfl (by first | exact Or.inl rfl | exact Or.inr (Or.inl rfl) | exact Or.inr (Or.inr rfl)) rfl rfl) (denA_cons (den_var (i := 1) rfl (by first | exact Or.inl rfl | exact Or.inr (Or.inl rfl) | exact Or.inr (Or.inr rfl)) rfl rfl) denA_nil rfl) rfl)) denA_nil rfl))) (den_ix (den_var (i := 0) rfl (by first | exact Or.inl rfl | exact Or.inr (Or.inl rfl) | exact Or.inr (Or.inr rfl)) rfl rfl) den_int (by intro _ _; rfl)) rfl rfl rfl rfl)
    (denS_cons (denS_set ct (i := 5) rfl (by first | exact Or.inl rfl | exact Or.inr rfl) (by first | exact Or.inl rfl | exact Or.inr rfl) (den_if (denT_isN (den_var (i := 1) rfl (by first | exact Or.inl rfl | exact Or.inr (Or.inl rfl) | exact Or.inr (Or.inr rfl)) rfl rfl)) den_non (den_not (den_var (i := 1) rfl (by first | exact Or.inl rfl | exact Or.inr (Or.inl rfl) | exact Or.inr (Or.inr rfl)) rfl rfl))) rfl)
    (denS_cons (denS_if (denT_cmp (sem_eq ct) (den_var (i := 4) rfl (by first | exact Or.inl rfl | exact Or.inr (Or.inl rfl) | exact Or.inr (Or.inr rfl)) rfl rfl) den_str rfl) (denS_cons (denS_ret (den_fz (den_bin sem_add (den_var (i := 3) rfl (by first | exact Or.inl rfl | exact Or.inr (Or.inl rfl) | exact Or.inr (Or.inr rfl)) rfl rfl) (den_call (CK.ok O.o__law_signs) ct (Nat.le_refl _) rfl (denA_cons (den_ix (den_var (i := 0) rfl (by first | exact Or.inl rfl | exact Or.inr (Or.inl rfl) | exact Or.inr (Or.inr rfl)) rfl rfl) den_int (by intro _ _; rfl)) (denA_cons (den_var (i := 5) rfl (by first | exact Or.inl rfl | exact Or.inr (Or.inl rfl) | exact Or.inr (Or.inr rfl)) rfl rfl) (denA_cons (den_fz (den_bin sem_add (den_var (i := 2) rfl (by first | exact Or.inl rfl | exact Or.inr (Or.inl rfl) | exact Or.inr (Or.inr rfl)) rfl rfl) (den_lit 99 (by kernel_rfl)))) denA_nil rfl) rfl) rfl) rfl rfl rfl))))
    denS_nil) denS_nil)
    (denS_cons (denS_if (denT_cmp (sem_in ct) (den_var (i := 4) rfl (by first | exact Or.inl rfl | exact Or.inr (Or.inl rfl) | exact Or.inr (Or.inr rfl)) rfl rfl) (den_lit 99 (by kernel_rfl)) rfl) (denS_cons (denS_ret (den_fz (den_bin sem_add (den_bin sem_add (den_var (i := 3) rfl (by first | exact Or.inl rfl | exact Or.inr (Or.inl rfl) | exact Or.inr (Or.inr rfl)) rfl rfl) (den_call (CK.ok O.o__law_signs) ct (Nat.le_refl _) rfl (denA_cons (den_ix (den_var (i := 0) rfl (by first | exact Or.inl rfl | exact Or.inr (Or.inl rfl) | exact Or.inr (Or.inr rfl)) rfl rfl) den_int (by intro _ _; rfl)) (denA_cons (den_var (i := 1) rfl (by first | exact Or.inl rfl | exact Or.inr (Or.inl rfl) | exact Or.inr (Or.inr rfl)) rfl rfl) (denA_cons (den_fz (den_bin sem_add (den_var (i := 2) rfl (by first | exact Or.inl rfl | exact Or.inr (Or.inl rfl) | exact Or.inr (Or.inr rfl)) rfl rfl) (den_lit 99 (by kernel_rfl)))) denA_nil rfl) rfl) rfl) rfl rfl rfl)) (den_call (CK.ok O.o__law_signs) ct (Nat.le_refl _) rfl (denA_cons (den_ix (den_var (i := 0) rfl (by first | exact Or.inl rfl | exact Or.inr (Or.inl rfl) | exact Or.inr (Or.inr rfl)) rfl rfl) den_int (by intro _ _; rfl)) (denA_cons (den_var (i := 1) rfl (by first | exact Or.inl rfl | exact Or.inr (Or.inl rfl) | exact Or.inr (Or.inr rfl)) rfl rfl) (denA_cons (den_fz (den_bin sem_add (den_var (i := 2) rfl (by first | exact Or.inl rfl | exact Or.inr (Or.inl rfl) | exact Or.inr (Or.inr rfl)) rfl rfl) (den_lit 99 (by kernel_rfl)))) denA_nil rfl) rfl) rfl) rfl rfl rfl))))
    denS_nil) denS_nil)
    (denS_cons (denS_if (denT_cmp (sem_eq ct) (den_var (i := 4) rfl (by first | exact Or.inl rfl | exact Or.inr (Or.inl rfl) | exact Or.inr (Or.inr rfl)) rfl rfl) den_str rfl) (denS_cons (denS_ret (den_fz (den_bin sem_add (den_bin sem_add (den_var (i := 3) rfl (by first | exact Or.inl rfl | exact Or.inr (Or.inl rfl) | exact Or.inr (Or.inr rfl)) rfl rfl) (den_call (CK.ok O.o__law_signs) ct (Nat.le_refl _) rfl (denA_cons (den_ix (den_var (i := 0) rfl (by first | exact Or.inl rfl | exact Or.inr (Or.inl rfl) | exact Or.inr (Or.inr rfl)) rfl rfl) den_int (by intro _ _; rfl)) (denA_cons (den_var (i := 5) rfl (by first | exact Or.inl rfl | exact Or.inr (Or.inl rfl) | exact Or.inr (Or.inr rfl)) rfl rfl) (denA_cons (den_fz (den_bin sem_add (den_var (i := 2) rfl (by first | exact Or.inl rfl | exact Or.inr (Or.inl rfl) | exact Or.inr (Or.inr rfl)) rfl rfl) (den_lit 99 (by kernel_rfl)))) denA_nil rfl) rfl) rfl) rfl rfl rfl)) (den_call (CK.ok O.o__law_signs) ct (Nat.le_refl _) rfl (denA_cons (den_ix (den_var (i := 0) rfl (by first | exact Or.inl rfl | exact Or.inr (Or.inl rfl) | exact Or.inr (Or.inr rfl)) rfl rfl) den_int (by intro _ _; rfl)) (denA_cons (den_var (i := 1) rfl (by first | exact Or.inl rfl | exact Or.inr (Or.inl rfl) | exact Or.inr (Or.inr rfl)) rfl rfl) (denA_cons (den_fz (den_bin sem_add (den_var (i := 2) rfl (by first | exact Or.inl rfl | exact Or.inr (Or.inl rfl) | exact Or.inr (Or.inr rfl)) rfl rfl) (den_lit 99 (by kernel_rfl)))) denA_nil rfl) rfl) rfl) rfl rfl rfl))))
    denS_nil) denS_nil)
    (denS_cons (denS_if (denT_cmp (sem_eq ct) (den_var (i := 4) rfl (by first | exact Or.inl rfl | exact Or.inr (Or.inl rfl) | exact Or.inr (Or.inr rfl)) rfl rfl) den_str rfl) (denS_cons (denS_ret (den_fz (den_bin sem_add (den_bin sem_add (den_var (i := 3) rfl (by first | exact Or.inl rfl | exact Or.inr (Or.inl rfl) | exact Or.inr (Or.inr rfl)) rfl rfl) (den_call (CK.ok O.o__law_signs) ct (Nat.le_refl _) rfl (denA_cons (den_ix (den_var (i := 0) rfl (by first | exact Or.inl rfl | exact Or.inr (Or.inl rfl) | exact Or.inr (Or.inr rfl)) rfl rfl) den_int (by intro _ _; rfl)) (denA_cons den_non (denA_cons (den_fz (den_bin sem_add (den_var (i := 2) rfl (by first | exact Or.inl rfl | exact Or.inr (Or.inl rfl) | exact Or.inr (Or.inr rfl)) rfl rfl) (den_lit 99 (by kernel_rfl)))) denA_nil rfl) rfl) rfl) rfl rfl rfl)) (den_call (CK.ok O.o__law_signs) ct (Nat.le_refl _) rfl (denA_cons (den_ix (den_var (i := 0) rfl (by first | exact Or.inl rfl | exact Or.inr (Or.inl rfl) | exact Or.inr (Or.inr rfl)) rfl rfl) den_int (by intro _ _; rfl)) (denA_cons den_non (denA_cons (den_fz (den_bin sem_add (den_var (i := 2) rfl (by first | exact Or.inl rfl | exact Or.inr (Or.inl rfl) | exact Or.inr (Or.inr rfl)) rfl rfl) (den_lit 99 (by kernel_rfl)))) denA_nil rfl) rfl) rfl) rfl rfl rfl))))
    denS_nil) denS_nil)
    (denS_cons (denS_ret (den_fz (den_if (denT_cmp (sem_in ct) (den_var (i := 4) rfl (by first | exact Or.inl rfl | exact Or.inr (Or.inl rfl) | exact Or.inr (Or.inr rfl)) rfl rfl) (den_lit 99 (by kernel_rfl)) rfl) (den_bin sem_add (den_var (i := 3) rfl (by first | exact Or.inl rfl | exact Or.inr (Or.inl rfl) | exact Or.inr (Or.inr rfl)) rfl rfl) (den_call (CK.ok O.o__law_signs) ct (Nat.le_refl _) rfl (denA_cons (den_ix (den_var (i := 0) rfl (by first | exact Or.inl rfl | exact Or.inr (Or.inl rfl) | exact Or.inr (Or.inr rfl)) rfl rfl) den_int (by intro _ _; rfl)) (denA_cons (den_var (i := 1) rfl (by first | exact Or.inl rfl | exact Or.inr (Or.inl rfl) | exact Or.inr (Or.inr rfl)) rfl rfl) (denA_cons (den_fz (den_bin sem_add (den_var (i := 2) rfl (by first | exact Or.inl rfl | exact Or.inr (Or.inl rfl) | exact Or.inr (Or.inr rfl)) rfl rfl) (den_lit 99 (by kernel_rfl)))) denA_nil rfl) rfl) rfl) rfl rfl rfl)) (den_var (i := 3) rfl (by first | exact Or.inl rfl | exact Or.inr (Or.inl rfl) | exact Or.inr (Or.inr rfl)) rfl rfl))))
    denS_nil)))))))
theorem d__law_part {P : Program} {w : World} {K : PySem.W.Frag} {mg : Str → Option Value} {base : Heap} {R0 fI : Addr} {n : Nat} {L : Nat → FF} (M : MF P w K mg R0 fI) (O : Oks P w K mg base n L) {f : Addr} {cdv : Value} {A : Around} {outer : List Env} {s : Shared} {H : Hp} {E : XK}
    (ct : Ct (BX P w K mg base ["saying", "place", "found", "at"] "_law_part" (defScope (tp 39)) f cdv A outer s H E) n) : DenS (BX P w K mg base ["saying", "place", "found", "at"] "_law_part" (defScope (tp 39)) f cdv A outer s H E) (defBody (tp 39)) (b__law_part L) :=
    (denS_cons (denS_set ct (i := 2) rfl (by first | exact Or.inl rfl | exact Or.inr rfl) (by first | exact Or.inl rfl | exact Or.inr rfl) (den_var (i := 0) rfl (by first | exact Or.inl rfl | exact Or.inr (Or.inl rfl) | exact Or.inr (Or.inr rfl)) rfl rfl) rfl)
    (denS_cons (denS_for ct bx_po (denI_seq (den_var (i := 1) rfl (by first | exact Or.inl rfl | exact Or.inr (Or.inl rfl) | exact Or.inr (Or.inr rfl)) rfl rfl)) (denG_name ct (i := 3) rfl (by first | exact Or.inl rfl | exact Or.inr rfl) (by first | exact Or.inl rfl | exact Or.inr rfl)) (denS_cons (denS_set ct (i := 2) rfl (by first | exact Or.inl rfl | exact Or.inr rfl) (by first | exact Or.inl rfl | exact Or.inr rfl) (den_ix (den_var (i := 2) rfl (by first | exact Or.inl rfl | exact Or.inr (Or.inl rfl) | exact Or.inr (Or.inr rfl)) rfl rfl) (den_var (i := 3) rfl (by first | exact Or.inl rfl | exact Or.inr (Or.inl rfl) | exact Or.inr (Or.inr rfl)) rfl rfl) (by intro _ _; rfl)) rfl)
    denS_nil) (fun _ => rfl))
    (denS_cons (denS_ret (den_var (i := 2) rfl (by first | exact Or.inl rfl | exact Or.inr (Or.inl rfl) | exact Or.inr (Or.inr rfl)) rfl rfl))
    denS_nil)))
theorem d__law_caught {P : Program} {w : World} {K : PySem.W.Frag} {mg : Str → Option Value} {base : Heap} {R0 fI : Addr} {n : Nat} {L : Nat → FF} (M : MF P w K mg R0 fI) (O : Oks P w K mg base n L) {f : Addr} {cdv : Value} {A : Around} {outer : List Env} {s : Shared} {H : Hp} {E : XK}
    (ct : Ct (BX P w K mg base ["function", "args", "caught", "error", "truths", "at", "is_such"] "_law_caught" (defScope (tp 40)) f cdv A outer s H E) n) : DenS (BX P w K mg base ["function", "args", "caught", "error", "truths", "at", "is_such"] "_law_caught" (defScope (tp 40)) f cdv A outer s H E) (defBody (tp 40)) (b__law_caught L) :=
    (denS_cons (denS_set ct (i := 2) rfl (by first | exact Or.inl rfl | exact Or.inr rfl) (by first | exact Or.inl rfl | exact Or.inr rfl) den_non rfl)
    (denS_cons (denS_keep ct rfl rfl rfl (i := 3) (j := 2) rfl rfl (by decide) rfl rfl rfl M.g_ReasonError rfl (fun c h => ErrsOk.at M.errs h) rfl rfl rfl (fun pn xe po => (denS_cons (denS_expr (den_callL (i := 0) (fs := fs__law_caught L) rfl (by first | exact Or.inl rfl | exact Or.inr (Or.inl rfl) | exact Or.inr (Or.inr rfl)) (fs__law_caught_ok O) (Ct.tr ct) (Nat.le_refl _) (denA_cons (den_ix (den_var (i := 1) rfl (by first | exact Or.inl rfl | exact Or.inr (Or.inl rfl) | exact Or.inr (Or.inr rfl)) rfl rfl) den_int (by intro _ _; rfl)) (denA_cons (den_ix (den_var (i := 1) rfl (by first | exact Or.inl rfl | exact Or.inr (Or.inl rfl) | exact Or.inr (Or.inr rfl)) rfl rfl) den_int (by intro _ _; rfl)) denA_nil rfl) rfl) rfl rfl rfl rfl) rfl)
    denS_nil)))
    (denS_cons (denS_if (denT_isN (den_var (i := 2) rfl (by first | exact Or.inl rfl | exact Or.inr (Or.inl rfl) | exact Or.inr (Or.inr rfl)) rfl rfl)) (denS_cons (denS_ret (den_fz (den_lit 99 (by kernel_rfl))))
    denS_nil) denS_nil)
    (denS_cons (denS_set ct (i := 4) rfl (by first | exact Or.inl rfl | exact Or.inr rfl) (by first | exact Or.inl rfl | exact Or.inr rfl) (den_fz (den_lst (denA_cons (den_isiG (den_var (i := 2) rfl (by first | exact Or.inl rfl | exact Or.inr (Or.inl rfl) | exact Or.inr (Or.inr rfl)) rfl rfl) rfl M.f_isinstance rfl rfl M.isi_InvalidSaying rfl rfl rfl) (denA_cons (den_isiG (den_var (i := 2) rfl (by first | exact Or.inl rfl | exact Or.inr (Or.inl rfl) | exact Or.inr (Or.inr rfl)) rfl rfl) rfl M.f_isinstance rfl rfl M.isi_InvalidLiterals rfl rfl rfl) (denA_cons (den_isiG (den_var (i := 2) rfl (by first | exact Or.inl rfl | exact Or.inr (Or.inl rfl) | exact Or.inr (Or.inr rfl)) rfl rfl) rfl M.f_isinstance rfl rfl M.isi_InvalidList rfl rfl rfl) denA_nil rfl) rfl) rfl))) rfl)
    (denS_cons (denS_ret (den_fz (den_lst (denA_cons (den_fz (den_lc ct (own := [("at", 5), ("is_such", 6)]) (blkOk_by rfl) (denI_enum rfl M.f_enumerate (denA_cons (den_var (i := 4) rfl (by first | exact Or.inl rfl | exact Or.inr (Or.inl rfl) | exact Or.inr (Or.inr rfl)) rfl rfl) denA_nil rfl) rfl) (by decide) (fun s H C cl fp => (denG_tup (Ct.blk ct) (denGs_cons (denG_name (Ct.blk ct) (i := 5) rfl (by first | exact Or.inl rfl | exact Or.inr rfl) (by first | exact Or.inl rfl | exact Or.inr rfl)) (denGs_cons (denG_name (Ct.blk ct) (i := 6) rfl (by first | exact Or.inl rfl | exact Or.inr rfl) (by first | exact Or.inl rfl | exact Or.inr rfl)) denGs_nil rfl) rfl) rfl rfl)) (fun s H C cl fp => (denTs_one (denT_val (den_var (i := 6) rfl (by first | exact Or.inl rfl | exact Or.inr (Or.inl rfl) | exact Or.inr (Or.inr rfl)) rfl rfl) (fun _ => rfl)))) (fun s H C cl fp => (den_var (i := 5) rfl (by first | exact Or.inl rfl | exact Or.inr (Or.inl rfl) | exact Or.inr (Or.inr rfl)) rfl rfl)) (fun _ => rfl))) (denA_cons (den_isiB (den_var (i := 2) rfl (by first | exact Or.inl rfl | exact Or.inr (Or.inl rfl) | exact Or.inr (Or.inr rfl)) rfl rfl) rfl M.f_isinstance rfl M.f_ValueError (by decide +kernel) (by decide) rfl M.isi_ValueError rfl rfl rfl) (denA_cons (den_callB (sem_repr ct) rfl M.f_repr (by decide +kernel) (denA_cons (den_errVal (den_var (i := 2) rfl (by first | exact Or.inl rfl | exact Or.inr (Or.inl rfl) | exact Or.inr (Or.inr rfl)) rfl rfl) (fun c h => ErrsOk.at M.errs h) rfl) denA_nil rfl) (by decide) rfl rfl rfl) denA_nil rfl) rfl) rfl))))
    denS_nil)))))
theorem d__law_right {P : Program} {w : World} {K : PySem.W.Frag} {mg : Str → Option Value} {base : Heap} {R0 fI : Addr} {n : Nat} {L : Nat → FF} (M : MF P w K mg R0 fI) (O : Oks P w K mg base n L) {f : Addr} {cdv : Value} {A : Around} {outer : List Env} {s : Shared} {H : Hp} {E : XK}
    (ct : Ct (BX P w K mg base ["generator", "saying", "sign", "due", "told", "places", "place", "part", "last", "bads", "bad", "late", "odd"] "_law_right" (defScope (tp 41)) f cdv A outer s H E) n) : DenS (BX P w K mg base ["generator", "saying", "sign", "due", "told", "places", "place", "part", "last", "bads", "bad", "late", "odd"] "_law_right" (defScope (tp 41)) f cdv A outer s H E) (defBody (tp 41)) (b__law_right L) :=
    (denS_cons (denS_for ct bx_po (denI_seq (den_fz (den_lit 99 (by kernel_rfl)))) (denG_name ct (i := 2) rfl (by first | exact Or.inl rfl | exact Or.inr rfl) (by first | exact Or.inl rfl | exact Or.inr rfl)) (denS_cons (denS_set ct (i := 3) rfl (by first | exact Or.inl rfl | exact Or.inr rfl) (by first | exact Or.inl rfl | exact Or.inr rfl) (den_call (CK.ok O.o__law_signs) ct (Nat.le_refl _) rfl (denA_cons (den_var (i := 1) rfl (by first | exact Or.inl rfl | exact Or.inr (Or.inl rfl) | exact Or.inr (Or.inr rfl)) rfl rfl) (denA_cons (den_var (i := 2) rfl (by first | exact Or.inl rfl | exact Or.inr (Or.inl rfl) | exact Or.inr (Or.inr rfl)) rfl rfl) (denA_cons (den_lit 99 (by kernel_rfl)) denA_nil rfl) rfl) rfl) rfl rfl rfl) rfl)
    (denS_cons (denS_set ct (i := 4) rfl (by first | exact Or.inl rfl | exact Or.inr rfl) (by first | exact Or.inl rfl | exact Or.inr rfl) (den_call (CK.ok O.o_signs_of) ct (Nat.le_refl _) rfl (denA_cons (den_var (i := 1) rfl (by first | exact Or.inl rfl | exact Or.inr (Or.inl rfl) | exact Or.inr (Or.inr rfl)) rfl rfl) (denA_cons (den_var (i := 2) rfl (by first | exact Or.inl rfl | exact Or.inr (Or.inl rfl) | exact Or.inr (Or.inr rfl)) rfl rfl) denA_nil rfl) rfl) rfl rfl rfl) rfl)
    (denS_cons (denS_if (denT_lend 4 (denW_t (denW_or (denT_not (denT_val (den_call (CK.ok O.o__law_same) ct (Nat.le_refl _) rfl (denA_cons (den_fz (den_lst (denA_cons (den_var (i := 4) rfl (by first | exact Or.inl rfl | exact Or.inr (Or.inl rfl) | exact Or.inr (Or.inr rfl)) rfl rfl) (denA_cons (den_fz (den_callK (x := "signs_of") (ks := ["sign", "saying"]) (CKK.ok O.k_signs_of_sign_saying) ct (Nat.le_refl _) rfl (denK_cons (den_var (i := 2) rfl (by first | exact Or.inl rfl | exact Or.inr (Or.inl rfl) | exact Or.inr (Or.inr rfl)) rfl rfl) (denK_cons (den_var (i := 1) rfl (by first | exact Or.inl rfl | exact Or.inr (Or.inl rfl) | exact Or.inr (Or.inr rfl)) rfl rfl) denK_nil)) rfl rfl rfl rfl)) denA_nil rfl) rfl))) (denA_cons (den_fz (den_lst (denA_cons (den_var (i := 3) rfl (by first | exact Or.inl rfl | exact Or.inr (Or.inl rfl) | exact Or.inr (Or.inr rfl)) rfl rfl) (denA_cons (den_var (i := 3) rfl (by first | exact Or.inl rfl | exact Or.inr (Or.inl rfl) | exact Or.inr (Or.inr rfl)) rfl rfl) denA_nil rfl) rfl))) denA_nil rfl) rfl) rfl rfl rfl) (fun _ => rfl))) (denW_or1 (denT_cmp (sem_ne ct) (den_lc ct (own := [("place", 6), ("late", 11)]) (blkOk_by rfl) (denI_seq (den_var (i := 4) rfl (by first | exact Or.inl rfl | exact Or.inr (Or.inl rfl) | exact Or.inr (Or.inr rfl)) rfl rfl)) (by decide) (fun s H C cl fp => (denG_tup (Ct.blk ct) (denGs_cons (denG_name (Ct.blk ct) (i := 6) rfl (by first | exact Or.inl rfl | exact Or.inr rfl) (by first | exact Or.inl rfl | exact Or.inr rfl)) (denGs_cons (denG_name (Ct.blk ct) (i := 11) rfl (by first | exact Or.inl rfl | exact Or.inr rfl) (by first | exact Or.inl rfl | exact Or.inr rfl)) denGs_nil rfl) rfl) rfl rfl)) (fun s H C cl fp => denTs_nil) (fun s H C cl fp => (den_var (i := 6) rfl (by first | exact Or.inl rfl | exact Or.inr (Or.inl rfl) | exact Or.inr (Or.inr rfl)) rfl rfl)) (fun _ => rfl)) (den_callB (sem_sorted ct) rfl M.f_sorted (by decide +kernel) (denA_cons (den_lc ct (own := [("place", 6), ("late", 11)]) (blkOk_by rfl) (denI_seq (den_var (i := 4) rfl (by first | exact Or.inl rfl | exact Or.inr (Or.inl rfl) | exact Or.inr (Or.inr rfl)) rfl rfl)) (by decide) (fun s H C cl fp => (denG_tup (Ct.blk ct) (denGs_cons (denG_name (Ct.blk ct) (i := 6) rfl (by first | exact Or.inl rfl | exact Or.inr rfl) (by first | exact Or.inl rfl | exact Or.inr rfl)) (denGs_cons (denG_name (Ct.blk ct) (i := 11) rfl (by first | exact Or.inl rfl | exact Or.inr rfl) (by first | exact Or.inl rfl | exact Or.inr rfl)) denGs_nil rfl) rfl) rfl rfl)) (fun s H C cl fp => denTs_nil) (fun s H C cl fp => (den_var (i := 6) rfl (by first | exact Or.inl rfl | exact Or.inr (Or.inl rfl) | exact Or.inr (Or.inr rfl)) rfl rfl)) (fun _ => rfl)) denA_nil rfl) (by decide) rfl rfl rfl) rfl))))) (denS_cons (denS_ret den_bl)
    denS_nil) denS_nil)
    (denS_cons (denS_if (denT_cmp (sem_ne ct) (den_sl (den_lc ct (own := [("place", 6), ("late", 11)]) (blkOk_by rfl) (denI_seq (den_fz (den_call (CK.ok O.o_signs_of) ct (Nat.le_refl _) rfl (denA_cons (den_tup (denA_cons den_str (denA_cons (den_var (i := 1) rfl (by first | exact Or.inl rfl | exact Or.inr (Or.inl rfl) | exact Or.inr (Or.inr rfl)) rfl rfl) denA_nil rfl) rfl)) (denA_cons (den_var (i := 2) rfl (by first | exact Or.inl rfl | exact Or.inr (Or.inl rfl) | exact Or.inr (Or.inr rfl)) rfl rfl) denA_nil rfl) rfl) rfl rfl rfl))) (by decide) (fun s H C cl fp => (denG_tup (Ct.blk ct) (denGs_cons (denG_name (Ct.blk ct) (i := 6) rfl (by first | exact Or.inl rfl | exact Or.inr rfl) (by first | exact Or.inl rfl | exact Or.inr rfl)) (denGs_cons (denG_name (Ct.blk ct) (i := 11) rfl (by first | exact Or.inl rfl | exact Or.inr rfl) (by first | exact Or.inl rfl | exact Or.inr rfl)) denGs_nil rfl) rfl) rfl rfl)) (fun s H C cl fp => denTs_nil) (fun s H C cl fp => (den_var (i := 11) rfl (by first | exact Or.inl rfl | exact Or.inr (Or.inl rfl) | exact Or.inr (Or.inr rfl)) rfl rfl)) (fun _ => rfl)) (denO_some den_int) denO_none) (den_lc ct (own := [("place", 6), ("late", 11)]) (blkOk_by rfl) (denI_seq (den_fz (den_call (CK.ok O.o_signs_of) ct (Nat.le_refl _) rfl (denA_cons (den_var (i := 1) rfl (by first | exact Or.inl rfl | exact Or.inr (Or.inl rfl) | exact Or.inr (Or.inr rfl)) rfl rfl) (denA_cons (den_not (den_var (i := 2) rfl (by first | exact Or.inl rfl | exact Or.inr (Or.inl rfl) | exact Or.inr (Or.inr rfl)) rfl rfl)) denA_nil rfl) rfl) rfl rfl rfl))) (by decide) (fun s H C cl fp => (denG_tup (Ct.blk ct) (denGs_cons (denG_name (Ct.blk ct) (i := 6) rfl (by first | exact Or.inl rfl | exact Or.inr rfl) (by first | exact Or.inl rfl | exact Or.inr rfl)) (denGs_cons (denG_name (Ct.blk ct) (i := 11) rfl (by first | exact Or.inl rfl | exact Or.inr rfl) (by first | exact Or.inl rfl | exact Or.inr rfl)) denGs_nil rfl) rfl) rfl rfl)) (fun s H C cl fp => denTs_nil) (fun s H C cl fp => (den_var (i := 11) rfl (by first | exact Or.inl rfl | exact Or.inr (Or.inl rfl) | exact Or.inr (Or.inr rfl)) rfl rfl)) (fun _ => rfl)) rfl) (denS_cons (denS_ret den_bl)
    denS_nil) denS_nil)
    (denS_cons (denS_append (i := 4) rfl (by first | exact Or.inl rfl | exact Or.inr (Or.inl rfl) | exact Or.inr (Or.inr rfl)) rfl rfl (denA_cons den_non denA_nil rfl) rfl rfl rfl rfl rfl rfl)
    denS_nil))))) (fun _ => rfl))
    (denS_cons (denS_lock 5 (denS_setLc ct (i := 5) rfl rfl (sw_true rfl rfl rfl rfl) (own := [("place", 6), ("late", 11)]) (blkOk_by rfl) (denI_seq (den_call (CK.ok O.o__law_signs) ct (Nat.le_refl _) rfl (denA_cons (den_var (i := 1) rfl (by first | exact Or.inl rfl | exact Or.inr (Or.inl rfl) | exact Or.inr (Or.inr rfl)) rfl rfl) (denA_cons den_bl (denA_cons (den_lit 99 (by kernel_rfl)) denA_nil rfl) rfl) rfl) rfl rfl rfl)) (by decide) (fun s H C cl fp => (denG_tup (Ct.blk ct) (denGs_cons (denG_name (Ct.blk ct) (i := 6) rfl (by first | exact Or.inl rfl | exact Or.inr rfl) (by first | exact Or.inl rfl | exact Or.inr rfl)) (denGs_cons (denG_name (Ct.blk ct) (i := 11) rfl (by first | exact Or.inl rfl | exact Or.inr rfl) (by first | exact Or.inl rfl | exact Or.inr rfl)) denGs_nil rfl) rfl) rfl rfl)) (fun s H C cl fp => denTs_nil) (fun s H C cl fp => (den_var (i := 6) rfl (by first | exact Or.inl rfl | exact Or.inr (Or.inl rfl) | exact Or.inr (Or.inr rfl)) rfl rfl)) (fun _ => rfl)))
    (denS_cons (denS_for ct bx_po (denI_seq (den_var (i := 5) rfl (by first | exact Or.inl rfl | exact Or.inr (Or.inl rfl) | exact Or.inr (Or.inr rfl)) rfl rfl)) (denG_name ct (i := 6) rfl (by first | exact Or.inl rfl | exact Or.inr rfl) (by first | exact Or.inl rfl | exact Or.inr rfl)) (denS_cons (denS_set ct (i := 7) rfl (by first | exact Or.inl rfl | exact Or.inr rfl) (by first | exact Or.inl rfl | exact Or.inr rfl) (den_call (CK.ok O.o__law_part) ct (Nat.le_refl _) rfl (denA_cons (den_var (i := 1) rfl (by first | exact Or.inl rfl | exact Or.inr (Or.inl rfl) | exact Or.inr (Or.inr rfl)) rfl rfl) (denA_cons (den_var (i := 6) rfl (by first | exact Or.inl rfl | exact Or.inr (Or.inl rfl) | exact Or.inr (Or.inr rfl)) rfl rfl) denA_nil rfl) rfl) rfl rfl rfl) rfl)
    (denS_cons (denS_if (denT_not (denT_val (den_call (CK.ok O.o__law_same) ct (Nat.le_refl _) rfl (denA_cons (den_fz (den_lst (denA_cons (den_call (CK.ok O.o_part_at) ct (Nat.le_refl _) rfl (denA_cons (den_var (i := 1) rfl (by first | exact Or.inl rfl | exact Or.inr (Or.inl rfl) | exact Or.inr (Or.inr rfl)) rfl rfl) (denA_cons (den_var (i := 6) rfl (by first | exact Or.inl rfl | exact Or.inr (Or.inl rfl) | exact Or.inr (Or.inr rfl)) rfl rfl) denA_nil rfl) rfl) rfl rfl rfl) (denA_cons (den_callK (x := "part_at") (ks := ["place", "saying"]) (CKK.ok O.k_part_at_place_saying) ct (Nat.le_refl _) rfl (denK_cons (den_var (i := 6) rfl (by first | exact Or.inl rfl | exact Or.inr (Or.inl rfl) | exact Or.inr (Or.inr rfl)) rfl rfl) (denK_cons (den_var (i := 1) rfl (by first | exact Or.inl rfl | exact Or.inr (Or.inl rfl) | exact Or.inr (Or.inr rfl)) rfl rfl) denK_nil)) rfl rfl rfl rfl) denA_nil rfl) rfl))) (denA_cons (den_fz (den_lst (denA_cons (den_var (i := 7) rfl (by first | exact Or.inl rfl | exact Or.inr (Or.inl rfl) | exact Or.inr (Or.inr rfl)) rfl rfl) (denA_cons (den_var (i := 7) rfl (by first | exact Or.inl rfl | exact Or.inr (Or.inl rfl) | exact Or.inr (Or.inr rfl)) rfl rfl) denA_nil rfl) rfl))) denA_nil rfl) rfl) rfl rfl rfl) (fun _ => rfl))) (denS_cons (denS_ret den_bl)
    denS_nil) denS_nil)
    denS_nil)) (fun _ => rfl))
    (denS_cons (denS_set ct (i := 8) rfl (by first | exact Or.inl rfl | exact Or.inr rfl) (by first | exact Or.inl rfl | exact Or.inr rfl) (den_ix (den_var (i := 5) rfl (by first | exact Or.inl rfl | exact Or.inr (Or.inl rfl) | exact Or.inr (Or.inr rfl)) rfl rfl) (den_lit 99 (by kernel_rfl)) (by intro _ _; rfl)) rfl)
    (denS_cons (denS_set ct (i := 9) rfl (by first | exact Or.inl rfl | exact Or.inr rfl) (by first | exact Or.inl rfl | exact Or.inr rfl) (den_fz (den_lst (denA_cons den_non (denA_cons den_int (denA_cons den_str (denA_cons (den_fz (den_lit 99 (by kernel_rfl))) (denA_cons (den_fz (den_lit 99 (by kernel_rfl))) (denA_cons (den_fz den_dnew) (denA_cons (den_lit 99 (by kernel_rfl)) (denA_cons (den_lit 99 (by kernel_rfl)) (denA_cons (den_lit 99 (by kernel_rfl)) (denA_cons (den_lit 99 (by kernel_rfl)) (denA_cons (den_lit 99 (by kernel_rfl)) (denA_cons (den_lit 99 (by kernel_rfl)) (denA_cons (den_fz (den_bin sem_add (den_var (i := 8) rfl (by first | exact Or.inl rfl | exact Or.inr (Or.inl rfl) | exact Or.inr (Or.inr rfl)) rfl rfl) (den_lit 99 (by kernel_rfl)))) (denA_cons (den_fz (den_bin sem_add (den_var (i := 8) rfl (by first | exact Or.inl rfl | exact Or.inr (Or.inl rfl) | exact Or.inr (Or.inr rfl)) rfl rfl) (den_lit 99 (by kernel_rfl)))) (denA_cons (den_fz (den_bin sem_add (den_var (i := 8) rfl (by first | exact Or.inl rfl | exact Or.inr (Or.inl rfl) | exact Or.inr (Or.inr rfl)) rfl rfl) (den_lit 99 (by kernel_rfl)))) (denA_cons (den_fz (den_bin sem_add (den_ix (den_var (i := 5) rfl (by first | exact Or.inl rfl | exact Or.inr (Or.inl rfl) | exact Or.inr (Or.inr rfl)) rfl rfl) den_int (by intro _ _; rfl)) (den_lit 99 (by kernel_rfl)))) denA_nil rfl) rfl) rfl) rfl) rfl) rfl) rfl) rfl) rfl) rfl) rfl) rfl) rfl) rfl) rfl) rfl))) rfl)
    (denS_cons (denS_for ct bx_po (denI_seq (den_fz (den_bin sem_add (den_bin sem_add (den_var (i := 9) rfl (by first | exact Or.inl rfl | exact Or.inr (Or.inl rfl) | exact Or.inr (Or.inr rfl)) rfl rfl) (den_if (denT_cmp (sem_in ct) (den_lit 99 (by kernel_rfl)) (den_var (i := 5) rfl (by first | exact Or.inl rfl | exact Or.inr (Or.inl rfl) | exact Or.inr (Or.inr rfl)) rfl rfl) rfl) (den_lit 99 (by kernel_rfl)) (den_lit 99 (by kernel_rfl)))) (den_lc ct (own := [("place", 6)]) (blkOk_by rfl) (denI_seq (den_fz (den_sl (den_var (i := 5) rfl (by first | exact Or.inl rfl | exact Or.inr (Or.inl rfl) | exact Or.inr (Or.inr rfl)) rfl rfl) (denO_some den_int) denO_none))) (by decide) (fun s H C cl fp => (denG_name (Ct.blk ct) (i := 6) rfl (by first | exact Or.inl rfl | exact Or.inr rfl) (by first | exact Or.inl rfl | exact Or.inr rfl))) (fun s H C cl fp => denTs_nil) (fun s H C cl fp => (den_fz (den_bin sem_add (den_sl (den_var (i := 6) rfl (by first | exact Or.inl rfl | exact Or.inr (Or.inl rfl) | exact Or.inr (Or.inr rfl)) rfl rfl) denO_none (denO_some (den_lit 99 (by kernel_rfl)))) (den_tup (denA_cons (den_fz (den_bin sem_add (den_ix (den_var (i := 6) rfl (by first | exact Or.inl rfl | exact Or.inr (Or.inl rfl) | exact Or.inr (Or.inr rfl)) rfl rfl) (den_lit 99 (by kernel_rfl)) (by intro _ _; rfl)) den_int)) denA_nil rfl))))) (fun _ => rfl))))) (denG_name ct (i := 10) rfl (by first | exact Or.inl rfl | exact Or.inr rfl) (by first | exact Or.inl rfl | exact Or.inr rfl)) (denS_cons (denS_if (denW_t (denW_and (denW_t (denW_or (denT_not (denT_val (den_isi (t := .tuple) (den_var (i := 10) rfl (by first | exact Or.inl rfl | exact Or.inr (Or.inl rfl) | exact Or.inr (Or.inr rfl)) rfl rfl) rfl M.f_isinstance rfl M.f_tuple (by decide +kernel) (by decide) rfl rfl rfl rfl) (fun _ => rfl))) (denW_or1 (denT_cmp (sem_notIn ct) (den_callB (sem_repr ct) rfl M.f_repr (by decide +kernel) (denA_cons (den_var (i := 10) rfl (by first | exact Or.inl rfl | exact Or.inr (Or.inl rfl) | exact Or.inr (Or.inr rfl)) rfl rfl) denA_nil rfl) (by decide) rfl rfl rfl) (den_lc ct (own := [("place", 6)]) (blkOk_by rfl) (denI_seq (den_var (i := 5) rfl (by first | exact Or.inl rfl | exact Or.inr (Or.inl rfl) | exact Or.inr (Or.inr rfl)) rfl rfl)) (by decide) (fun s H C cl fp => (denG_name (Ct.blk ct) (i := 6) rfl (by first | exact Or.inl rfl | exact Or.inr rfl) (by first | exact Or.inl rfl | exact Or.inr rfl))) (fun s H C cl fp => denTs_nil) (fun s H C cl fp => (den_callB (sem_repr (Ct.blk ct)) rfl M.f_repr (by decide +kernel) (denA_cons (den_var (i := 6) rfl (by first | exact Or.inl rfl | exact Or.inr (Or.inl rfl) | exact Or.inr (Or.inr rfl)) rfl rfl) denA_nil rfl) (by decide) rfl rfl rfl)) (fun _ => rfl)) rfl)))) (denW_and1 (denT_cmp (sem_ne ct) (den_call (CK.ok O.o__law_caught) ct (Nat.le_refl _) rfl (denA_cons (den_fnE rfl M.g_part_at rfl) (denA_cons (den_fz (den_lst (denA_cons (den_var (i := 1) rfl (by first | exact Or.inl rfl | exact Or.inr (Or.inl rfl) | exact Or.inr (Or.inr rfl)) rfl rfl) (denA_cons (den_var (i := 10) rfl (by first | exact Or.inl rfl | exact Or.inr (Or.inl rfl) | exact Or.inr (Or.inr rfl)) rfl rfl) denA_nil rfl) rfl))) denA_nil rfl) rfl) rfl rfl rfl) (den_lst (denA_cons (den_fz (den_lit 99 (by kernel_rfl))) (denA_cons den_bl (denA_cons (den_callB (sem_repr ct) rfl M.f_repr (by decide +kernel) (denA_cons (den_var (i := 10) rfl (by first | exact Or.inl rfl | exact Or.inr (Or.inl rfl) | exact Or.inr (Or.inr rfl)) rfl rfl) denA_nil rfl) (by decide) rfl rfl rfl) denA_nil rfl) rfl) rfl)) rfl)))) (denS_cons (denS_ret den_bl)
    denS_nil) denS_nil)
    denS_nil) (fun _ => rfl))
    (denS_cons (denS_ret (den_cmp (sem_eq ct) (den_lc ct (own := [("odd", 12)]) (blkOk_by rfl) (denI_seq (den_fz (den_lit 99 (by kernel_rfl)))) (by decide) (fun s H C cl fp => (denG_name (Ct.blk ct) (i := 12) rfl (by first | exact Or.inl rfl | exact Or.inr rfl) (by first | exact Or.inl rfl | exact Or.inr rfl))) (fun s H C cl fp => (denTs_one (denT_cmp (sem_ne (Ct.blk ct)) (den_call (CK.ok O.o__law_caught) (Ct.blk ct) (Nat.le_refl _) rfl (denA_cons (den_fnE rfl M.g_signs_of rfl) (denA_cons (den_fz (den_lst (denA_cons (den_var (i := 1) rfl (by first | exact Or.inl rfl | exact Or.inr (Or.inl rfl) | exact Or.inr (Or.inr rfl)) rfl rfl) (denA_cons (den_var (i := 12) rfl (by first | exact Or.inl rfl | exact Or.inr (Or.inl rfl) | exact Or.inr (Or.inr rfl)) rfl rfl) denA_nil rfl) rfl))) denA_nil rfl) rfl) rfl rfl rfl) (den_lst (denA_cons (den_fz (den_lit 99 (by kernel_rfl))) (denA_cons den_bl (denA_cons (den_callB (sem_repr (Ct.blk ct)) rfl M.f_repr (by decide +kernel) (denA_cons (den_var (i := 12) rfl (by first | exact Or.inl rfl | exact Or.inr (Or.inl rfl) | exact Or.inr (Or.inr rfl)) rfl rfl) denA_nil rfl) (by decide) rfl rfl rfl) denA_nil rfl) rfl) rfl)) rfl))) (fun s H C cl fp => (den_var (i := 12) rfl (by first | exact Or.inl rfl | exact Or.inr (Or.inl rfl) | exact Or.inr (Or.inr rfl)) rfl rfl)) (fun _ => rfl)) (den_lit 99 (by kernel_rfl)) rfl))
    denS_nil)))))))
theorem d_law {P : Program} {w : World} {K : PySem.W.Frag} {mg : Str → Option Value} {base : Heap} {R0 fI : Addr} {n : Nat} {L : Nat → FF} (M : MF P w K mg R0 fI) (O : Oks P w K mg base n L) {f : Addr} {cdv : Value} {A : Around} {outer : List Env} {s : Shared} {H : Hp} {E : XK}
    (ct : Ct (BX P w K mg base ["script", "index", "generator", "odds", "odd", "deep", "due"] "law" (defScope (tp 42)) f cdv A outer s H E) n) : DenS (BX P w K mg base ["script", "index", "generator", "odds", "odd", "deep", "due"] "law" (defScope (tp 42)) f cdv A outer s H E) (defBody (tp 42)) (b_law L) :=
    (denS_cons (denS_for ct bx_po (denI_rg1 rfl M.f_range (denA_cons den_int denA_nil rfl) rfl) (denG_name ct (i := 1) rfl (by first | exact Or.inl rfl | exact Or.inr rfl) (by first | exact Or.inl rfl | exact Or.inr rfl)) (denS_cons (denS_setBox ct (i := 2) rfl (by first | exact Or.inl rfl | exact Or.inr rfl) (by first | exact Or.inl rfl | exact Or.inr rfl) (den_call (CK.ok O.o__law_generator) ct (Nat.le_refl _) rfl (denA_cons (den_var (i := 0) rfl (by first | exact Or.inl rfl | exact Or.inr (Or.inl rfl) | exact Or.inr (Or.inr rfl)) rfl rfl) (denA_cons (den_var (i := 1) rfl (by first | exact Or.inl rfl | exact Or.inr (Or.inl rfl) | exact Or.inr (Or.inr rfl)) rfl rfl) denA_nil rfl) rfl) rfl rfl rfl) rfl)
    (denS_cons (denS_if (denT_not (denT_val (den_call (CK.ok O.o__law_right) ct (Nat.le_refl _) rfl (denA_cons (den_var (i := 2) rfl (by first | exact Or.inl rfl | exact Or.inr (Or.inl rfl) | exact Or.inr (Or.inr rfl)) rfl rfl) (denA_cons (den_call (CK.ok O.o__law_saying) ct (Nat.le_refl _) rfl (denA_cons (den_var (i := 2) rfl (by first | exact Or.inl rfl | exact Or.inr (Or.inl rfl) | exact Or.inr (Or.inr rfl)) rfl rfl) (denA_cons (den_fz (den_bin sem_add den_int (den_call (CK.ok O.o__law_random) ct (Nat.le_refl _) rfl (denA_cons (den_var (i := 2) rfl (by first | exact Or.inl rfl | exact Or.inr (Or.inl rfl) | exact Or.inr (Or.inr rfl)) rfl rfl) (denA_cons den_int denA_nil rfl) rfl) rfl rfl rfl))) (denA_cons (den_fz (den_lit 99 (by kernel_rfl))) denA_nil rfl) rfl) rfl) rfl rfl rfl) denA_nil rfl) rfl) rfl rfl rfl) (fun _ => rfl))) (denS_cons (denS_ret den_bl)
    denS_nil) denS_nil)
    denS_nil)) (fun _ => rfl))
    (denS_cons (denS_set ct (i := 3) rfl (by first | exact Or.inl rfl | exact Or.inr rfl) (by first | exact Or.inl rfl | exact Or.inr rfl) (den_fz (den_lit 99 (by kernel_rfl))) rfl)
    (denS_cons (denS_set ct (i := 3) rfl (by first | exact Or.inl rfl | exact Or.inr rfl) (by first | exact Or.inl rfl | exact Or.inr rfl) (den_fz (den_bin sem_add (den_var (i := 3) rfl (by first | exact Or.inl rfl | exact Or.inr (Or.inl rfl) | exact Or.inr (Or.inr rfl)) rfl rfl) (den_lit 99 (by kernel_rfl)))) rfl)
    (denS_cons (denS_for ct bx_po (denI_seq (den_var (i := 3) rfl (by first | exact Or.inl rfl | exact Or.inr (Or.inl rfl) | exact Or.inr (Or.inr rfl)) rfl rfl)) (denG_name ct (i := 4) rfl (by first | exact Or.inl rfl | exact Or.inr rfl) (by first | exact Or.inl rfl | exact Or.inr rfl)) (denS_cons (denS_if (denW_t (denW_or (denT_cmp (sem_ne ct) (den_call (CK.ok O.o__law_caught) ct (Nat.le_refl _) rfl (denA_cons (den_fnE rfl M.g_signs_of rfl) (denA_cons (den_fz (den_lst (denA_cons (den_var (i := 4) rfl (by first | exact Or.inl rfl | exact Or.inr (Or.inl rfl) | exact Or.inr (Or.inr rfl)) rfl rfl) (denA_cons den_non denA_nil rfl) rfl))) denA_nil rfl) rfl) rfl rfl rfl) (den_lst (denA_cons (den_fz (den_lit 99 (by kernel_rfl))) (denA_cons den_bl (denA_cons (den_callB (sem_repr ct) rfl M.f_repr (by decide +kernel) (denA_cons (den_var (i := 4) rfl (by first | exact Or.inl rfl | exact Or.inr (Or.inl rfl) | exact Or.inr (Or.inr rfl)) rfl rfl) denA_nil rfl) (by decide) rfl rfl rfl) denA_nil rfl) rfl) rfl)) rfl) (denW_or1 (denT_cmp (sem_ne ct) (den_call (CK.ok O.o__law_caught) ct (Nat.le_refl _) rfl (denA_cons (den_fnE rfl M.g_part_at rfl) (denA_cons (den_fz (den_lst (denA_cons (den_var (i := 4) rfl (by first | exact Or.inl rfl | exact Or.inr (Or.inl rfl) | exact Or.inr (Or.inr rfl)) rfl rfl) (denA_cons den_non denA_nil rfl) rfl))) denA_nil rfl) rfl) rfl rfl rfl) (den_lst (denA_cons (den_fz (den_lit 99 (by kernel_rfl))) (denA_cons den_bl (denA_cons (den_callB (sem_repr ct) rfl M.f_repr (by decide +kernel) (denA_cons (den_var (i := 4) rfl (by first | exact Or.inl rfl | exact Or.inr (Or.inl rfl) | exact Or.inr (Or.inr rfl)) rfl rfl) denA_nil rfl) (by decide) rfl rfl rfl) denA_nil rfl) rfl) rfl)) rfl)))) (denS_cons (denS_ret den_bl)
    denS_nil) denS_nil)
    denS_nil) (fun _ => rfl))
    (denS_cons (denS_set ct (i := 5) rfl (by first | exact Or.inl rfl | exact Or.inr rfl) (by first | exact Or.inl rfl | exact Or.inr rfl) (den_lit 99 (by kernel_rfl)) rfl)
    (denS_cons (denS_set ct (i := 6) rfl (by first | exact Or.inl rfl | exact Or.inr rfl) (by first | exact Or.inl rfl | exact Or.inr rfl) (den_fz (den_lit 99 (by kernel_rfl))) rfl)
    (denS_cons (denS_ret (den_and (den_call (CK.ok O.o__law_same) ct (Nat.le_refl _) rfl (denA_cons (den_fz (den_call (CK.ok O.o_signs_of) ct (Nat.le_refl _) rfl (denA_cons (den_var (i := 5) rfl (by first | exact Or.inl rfl | exact Or.inr (Or.inl rfl) | exact Or.inr (Or.inr rfl)) rfl rfl) (denA_cons den_bl denA_nil rfl) rfl) rfl rfl rfl)) (denA_cons (den_var (i := 6) rfl (by first | exact Or.inl rfl | exact Or.inr (Or.inl rfl) | exact Or.inr (Or.inr rfl)) rfl rfl) denA_nil rfl) rfl) rfl rfl rfl) (den_one (den_cmp (sem_eq ct) (den_call (CK.ok O.o_part_at) ct (Nat.le_refl _) rfl (denA_cons (den_var (i := 5) rfl (by first | exact Or.inl rfl | exact Or.inr (Or.inl rfl) | exact Or.inr (Or.inr rfl)) rfl rfl) (denA_cons (den_lit 99 (by kernel_rfl)) denA_nil rfl) rfl) rfl rfl rfl) (den_lit 99 (by kernel_rfl)) rfl))))
    denS_nil)))))))
end K30
set_option Elab.async false
set_option linter.all false
set_option maxRecDepth 100000
set_option maxHeartbeats 4000000
namespace K30
open PySem PP
theorem hashK (n : Nat) : HashOk (sem (n + 1) 14) := hashOk
theorem randK (n : Nat) : RandOk (sem (n + 2) 15) := rand_ok (hashK n)
theorem cellK (n : Nat) : CellOk (sem (n + 1) 16) := cell_ok
theorem genK (n : Nat) : GenOk (sem (n + 2) 17) := gen_ok (cellK n)
theorem pickK (n : Nat) : PickOk (sem (n + 3) 18) := pick_ok (randK n)
theorem sameK {k : Nat} {d : PyData} (h : Fine k d) (hk : k ≤ 60) (n : Nat) (S : SS) (hn : k + 1 ≤ n) : sem n 19 [.py d, .py d] S = some (.val .pure (.py (.bool true)) S) :=
  same_fine (F := fun n => sem n 19) (fun n => rfl) h hk n S hn
/-! ## shapes -/
abbrev YES (n i : Nat) (as : List Vl) : Prop := ∀ S, sem n i as S = some (.val .pure (.py (.bool true)) S)
def NM (x : Str) : Prop := ∀ n, 3 ≤ n → YES n 2 [.py (.str x)]
def TM (k : Nat) (d : PyData) : Prop := ∀ n, k ≤ n → YES n 6 [.py d]
def SY (k : Nat) (d : PyData) : Prop := ∀ n, k ≤ n → YES n 7 [.py d]
def FIT (k : Nat) (d : PyData) (kind : String) : Prop := ∀ n, k ≤ n → YES n 4 [.py d, .py (.str kind)]
theorem s_is_whole (n : Nat) (d : PyData) (S : SS) : sem (n+1) 0 [.py d] S = some (.val .pure (.py (.bool (isTy .int d && !isTy .bool d))) S) := by
  rw [sem_is_whole, funF1]
  simp [b_is_whole]
theorem fit_name {x : Str} (h : NM x) : FIT 4 (.str x) "name" := by
  intro n hn S
  obtain ⟨n, rfl⟩ : ∃ j, n = j + 1 := ⟨n - 1, by omega⟩
  have e := h n (by omega) S
  rw [sem_fits, funF2]
  simp [b_fits, e]
theorem fit_number {i : Int} : FIT 2 (.int i) "number" := by
  intro n hn S
  obtain ⟨n, rfl⟩ : ∃ j, n = j + 2 := ⟨n - 2, by omega⟩
  rw [sem_fits, funF2]
  simp [b_fits, s_is_whole, isTy]
theorem fit_term {k : Nat} {d : PyData} (h : TM k d) : FIT (k + 1) d "term" := by
  intro n hn S
  obtain ⟨n, rfl⟩ : ∃ j, n = j + 1 := ⟨n - 1, by omega⟩
  have e := h n (by omega) S
  rw [sem_fits, funF2]
  simp [b_fits, e]
theorem fit_saying {k : Nat} {d : PyData} (h : SY k d) : FIT (k + 1) d "saying" := by
  intro n hn S
  obtain ⟨n, rfl⟩ : ∃ j, n = j + 1 := ⟨n - 1, by omega⟩
  have e := h n (by omega) S
  rw [sem_fits, funF2]
  simp [b_fits, e]
theorem fit_terms {k : Nat} {ds : List PyData} (hl : ds.length ≤ 1000) (h : ∀ d ∈ ds, TM k d) : FIT (k + 1) (.tuple ds) "terms" := by
  intro n hn S
  obtain ⟨n, rfl⟩ : ∃ j, n = j + 1 := ⟨n - 1, by omega⟩
  rw [sem_fits, funF2]
  have q : lcLoop (gNm 2) fYes (fCallF 1 (sem n 6) (faCons (fVar 2) faNil)) [Slot.p (Vl.py (PyData.tuple ds)), Slot.p (Vl.py (PyData.str "terms")), Slot.un] ds [] S = some (ds.map (fun _ => .bool true), S) :=
    lc_map (fun _ => .bool true) ds (fun d hd => ⟨_, rfl, by simp [h d hd n (by omega) S]⟩) (by simp; omega)
  have q2 : allP [.list (ds.map fun _ => PyData.bool true)] = some (.pure, .bool true) := by
    rw [allP_of (by simp [isB])]
    simp [PyData.truthy]
  simp [b_fits, isTy, wipeSl, q, q2]
/-- parts that fit their kinds -/
inductive FITS (k : Nat) : List PyData → List String → Prop
  | nil : FITS k [] []
  | cons {d : PyData} {ds : List PyData} {x : String} {xs : List String} : FIT k d x → FITS k ds xs → FITS k (d :: ds) (x :: xs)
theorem FITS.len {k : Nat} {ds : List PyData} {xs : List String} (h : FITS k ds xs) : ds.length = xs.length := by
  induction h with
  | nil => rfl
  | cons _ _ ih => simp [ih]
theorem FITS.mem {k : Nat} {ds : List PyData} {xs : List String} (h : FITS k ds xs) : ∀ p ∈ zipD ds (xs.map fun x => PyData.str (Str.ofString x)), ∃ d x, p = .tuple [d, .str (Str.ofString x)] ∧ FIT k d x := by
  induction h with
  | nil => intro p hp; cases hp
  | cons a b ih =>
    intro p hp
    simp only [zipD, List.map_cons, List.zip_cons_cons] at hp
    rcases List.mem_cons.mp hp with rfl | hp
    · exact ⟨_, _, rfl, a⟩
    · exact ih p hp
theorem cut1 {a : PyData} {ds : List PyData} : cutD (a :: ds) (some 1) none = ds := by
  unfold cutD
  rw [show (some (1 : Int)) = some ((1 : Nat) : Int) from rfl, HT.sIx_nat, HT.sIx_none]
  simp
theorem has_parts_ok {k : Nat} {a : PyData} {ds : List PyData} {xs : List String} (h : FITS k ds xs) (hl : ds.length ≤ 1000) (n : Nat) (hn : k + 1 ≤ n) : YES n 5 [.py (.tuple (a :: ds)), .py (.tuple (xs.map fun x => .str (Str.ofString x)))] := by
  intro S
  obtain ⟨n, rfl⟩ : ∃ j, n = j + 1 := ⟨n - 1, by omega⟩
  rw [sem_has_parts, funF2]
  have hz : (zipD ds (xs.map fun x => PyData.str (Str.ofString x))).length ≤ LIM := by simp [zipD]; omega
  have q : lcLoop (gTp 2 (gsCons (gNm 2) (gsCons (gNm 3) gsNil))) fYes (fCallF 2 (sem n 4) (faCons (fVar 2) (faCons (fVar 3) faNil))) [Slot.p (Vl.py (PyData.tuple (a :: ds))), Slot.p (Vl.py (PyData.tuple (xs.map fun x => .str (Str.ofString x)))), Slot.un, Slot.un] (zipD ds (xs.map fun x => PyData.str (Str.ofString x))) [] S
      = some ((zipD ds (xs.map fun x => PyData.str (Str.ofString x))).map (fun _ => .bool true), S) :=
    lc_map (fun _ => .bool true) _ (fun p hp => by
      obtain ⟨d, x, rfl, hf⟩ := h.mem p hp
      have := hf n (by omega) S
      exact ⟨_, by simp; rfl, by simp [this]⟩) hz
  have q2 : allP [.list ((zipD ds (xs.map fun x => PyData.str (Str.ofString x))).map fun _ => PyData.bool true)] = some (.pure, .bool true) := by
    rw [allP_of (by simp [isB])]
    simp [PyData.truthy]
  have hlen := h.len
  simp [b_has_parts, wipeSl, slP, cut1, q, q2, hlen]
theorem neP_nil {a : PyData} {r : List PyData} (h : PyData.plainAll (a :: r) = true) : neP (.tuple (a :: r)) (.tuple []) = some (.pure, .bool true) := by
  rw [neP_of (by
    unfold eqOk
    simp only [PyData.plain, PyData.depth, PyData.depthAll, PyData.plainAll, DEEP] at *
    simp [h])]
  simp [PyData.eqv, PyData.eqvAll]
theorem head_ok (n : Nat) (w : String) {ds : List PyData} (hp : PyData.plainAll ds = true) (S : SS) : sem (n + 1) 3 [.py (.tuple (.str (Str.ofString w) :: ds))] S = some (.val .pure (.py (.str (Str.ofString w))) S) := by
  rw [sem_head_of, funF1]
  have e := neP_nil (a := .str (Str.ofString w)) (r := ds) (by simp [PyData.plainAll, PyData.plain, hp])
  simp [b_head_of, isTy, e]
theorem tm_mk {k : Nat} {w : String} {ds : List PyData} (xs : List String) (hw : t_TERMS.lookup (Str.ofString w) = some (.tuple (xs.map fun x => .str (Str.ofString x)))) (h : FITS k ds xs) (hl : ds.length ≤ 1000) (hp : PyData.plainAll ds = true) : TM (k + 2) (.tuple (.str (Str.ofString w) :: ds)) := by
  intro n hn S
  obtain ⟨n, rfl⟩ : ∃ j, n = j + 1 := ⟨n - 1, by omega⟩
  obtain ⟨m, rfl⟩ : ∃ j, n = j + 1 := ⟨n - 1, by omega⟩
  rw [sem_is_term_shape, funF1]
  have hh := head_ok m w hp S
  have hq := has_parts_ok (a := .str (Str.ofString w)) h hl (m + 1) (by omega) S
  simp [b_is_term_shape, hh, hw, hq]
theorem sy_mk {k : Nat} {w : String} {ds : List PyData} (xs : List String) (hw : t_SAYINGS.lookup (Str.ofString w) = some (.tuple (xs.map fun x => .str (Str.ofString x)))) (h : FITS k ds xs) (hl : ds.length ≤ 1000) (hp : PyData.plainAll ds = true) : SY (k + 2) (.tuple (.str (Str.ofString w) :: ds)) := by
  intro n hn S
  obtain ⟨n, rfl⟩ : ∃ j, n = j + 1 := ⟨n - 1, by omega⟩
  obtain ⟨m, rfl⟩ : ∃ j, n = j + 1 := ⟨n - 1, by omega⟩
  rw [sem_is_saying_shape, funF1]
  have hh := head_ok m w hp S
  have hq := has_parts_ok (a := .str (Str.ofString w)) h hl (m + 1) (by omega) S
  simp [b_is_saying_shape, hh, hw, hq]
theorem FIT.mono {k m : Nat} {d : PyData} {x : String} (h : FIT k d x) (l : k ≤ m) : FIT m d x := fun n hn => h n (by omega)
/-! ## names -/
theorem nm_of {x : Str} (h : ∀ n S, sem (n + 3) 2 [.py (.str x)] S = some (.val .pure (.py (.bool true)) S)) : NM x := fun n hn S => by
  obtain ⟨n, rfl⟩ : ∃ j, n = j + 3 := ⟨n - 3, by omega⟩
  exact h n S
theorem nm_a : NM "a" := nm_of fun n S => by kernel_rfl
theorem nm_b : NM "b" := nm_of fun n S => by kernel_rfl
theorem nm_f : NM "f" := nm_of fun n S => by kernel_rfl
theorem nm_d : NM "d" := nm_of fun n S => by kernel_rfl
theorem nm_h : NM "h" := nm_of fun n S => by kernel_rfl
theorem nm_r : NM "r" := nm_of fun n S => by kernel_rfl
theorem nm_s : NM "s" := nm_of fun n S => by kernel_rfl
theorem nm_n : NM "n" := nm_of fun n S => by kernel_rfl
theorem nm_p : NM "p" := nm_of fun n S => by kernel_rfl
theorem nm_q : NM "q" := nm_of fun n S => by kernel_rfl
theorem nm_col : NM "col" := nm_of fun n S => by kernel_rfl
theorem nm_likes : NM "likes" := nm_of fun n S => by kernel_rfl
theorem nm_older : NM "older" := nm_of fun n S => by kernel_rfl
def xname (i : Nat) : Str := "x" ++ (toString (i : Int) : Str)
theorem nm_x (i : Nat) (h : i < 10) : NM (xname i) := by
  have : ∀ i : Nat, i < 10 → ∀ n S, sem (n + 3) 2 [.py (.str (xname i))] S = some (.val .pure (.py (.bool true)) S) := fun i hi n S => match i, hi with
    | 0, _ => by kernel_rfl
    | 1, _ => by kernel_rfl
    | 2, _ => by kernel_rfl
    | 3, _ => by kernel_rfl
    | 4, _ => by kernel_rfl
    | 5, _ => by kernel_rfl
    | 6, _ => by kernel_rfl
    | 7, _ => by kernel_rfl
    | 8, _ => by kernel_rfl
    | 9, _ => by kernel_rfl
  exact nm_of (this i h)
end K30
set_option Elab.async false
set_option linter.all false
set_option maxRecDepth 100000
set_option maxHeartbeats 4000000
namespace K30
open PySem PP
/-! ## sayings -/
inductive Sg where
  | leaf (w : String) (r : List PyData)
  | neg (a : Sg)
  | bin (w : String) (a b : Sg)
  | qu (w : String) (x k : PyData) (a : Sg)
def Sg.d : Sg → PyData
  | .leaf w r => .tuple (.str (Str.ofString w) :: r)
  | .neg a => .tuple [.str "not", a.d]
  | .bin w a b => .tuple [.str (Str.ofString w), a.d, b.d]
  | .qu w x k a => .tuple [.str (Str.ofString w), x, k, a.d]
def Sg.ok : Sg → Prop
  | .leaf w _ => w ∈ ["is", "same", "ahead", "in", "within", "upto", "yes", "no"]
  | .neg a => a.ok
  | .bin w a b => w ∈ ["and", "or", "then", "alike"] ∧ a.ok ∧ b.ok
  | .qu w _ _ a => w ∈ ["each", "some"] ∧ a.ok
def Sg.dp : Sg → Nat
  | .leaf _ _ => 0
  | .neg a => a.dp + 1
  | .bin _ a b => max a.dp b.dp + 1
  | .qu _ _ _ a => a.dp + 1
def Sg.size : Sg → Nat
  | .leaf _ _ => 1
  | .neg a => a.size + 1
  | .bin _ a b => a.size + b.size + 1
  | .qu _ _ _ a => a.size + 1
def flip : PyData → PyData
  | .bool b => .bool (!b)
  | _ => .none
def SgnP (s : PyData) : Prop := s = .none ∨ ∃ b, s = .bool b
def one (w : String) (s : PyData) : PyData := if w = "then" then flip s else if w = "alike" then .none else s
def two (w : String) (s : PyData) : PyData := if w = "alike" then .none else s
def Sg.sg : Sg → PyData → List (List Int × PyData)
  | .leaf _ _, s => [([], s)]
  | .neg a, s => ([], s) :: (a.sg (flip s)).map fun q => (1 :: q.1, q.2)
  | .bin w a b, s => ([], s) :: ((a.sg (one w s)).map (fun q => (1 :: q.1, q.2)) ++ (b.sg (two w s)).map fun q => (2 :: q.1, q.2))
  | .qu _ _ _ a, s => ([], s) :: (a.sg s).map fun q => (3 :: q.1, q.2)
def out (p : List Int) (l : List (List Int × PyData)) : List PyData := l.map fun q => .tuple [.tuple ((p ++ q.1).map .int), q.2]
theorem Sg.sg_len (g : Sg) : ∀ s, (g.sg s).length = g.size := by
  induction g with
  | leaf w r => intro s; rfl
  | neg a ih => intro s; simp [Sg.sg, Sg.size, ih]
  | bin w a b iha ihb => intro s; simp [Sg.sg, Sg.size, iha, ihb]
  | qu w x k a ih => intro s; simp [Sg.sg, Sg.size, ih]
theorem out_len (p : List Int) (l : List (List Int × PyData)) : (out p l).length = l.length := by simp [out]
theorem out_shift (p : List Int) (i : Int) (l : List (List Int × PyData)) : out p (l.map fun q => (i :: q.1, q.2)) = out (p ++ [i]) l := by
  simp [out, Function.comp_def]
theorem out_nil (p : List Int) (s : PyData) (l : List (List Int × PyData)) : out p (([], s) :: l) = .tuple [.tuple (p.map .int), s] :: out p l := by simp [out]
theorem out_app (p : List Int) (l m : List (List Int × PyData)) : out p (l ++ m) = out p l ++ out p m := by simp [out]
theorem flip_sgn {s : PyData} (h : SgnP s) : SgnP (flip s) := by
  rcases h with rfl | ⟨b, rfl⟩
  · exact .inl rfl
  · exact .inr ⟨_, rfl⟩
theorem one_sgn {w : String} {s : PyData} (h : SgnP s) : SgnP (one w s) := by
  unfold one
  split
  · exact flip_sgn h
  · split
    · exact .inl rfl
    · exact h
theorem two_sgn {w : String} {s : PyData} (h : SgnP s) : SgnP (two w s) := by
  unfold two
  split
  · exact .inl rfl
  · exact h
theorem addP_l {xs ys : List PyData} (h : xs.length + ys.length ≤ 100000) : addP (.list xs) (.list ys) = some (.fresh, .list (xs ++ ys)) := if_pos (by simpa using h)
theorem addP_t {xs ys : List PyData} (h : xs.length + ys.length ≤ 100000) : addP (.tuple xs) (.tuple ys) = some (.pure, .tuple (xs ++ ys)) := if_pos (by simpa using h)
/-- the sign handed on -/
theorem handed (n : Nat) {w : String} {r : List PyData} {i : Int} {s : PyData} (h : SgnP s) (S : SS) : sem (n + 1) 8 [.py (.tuple (.str (Str.ofString w) :: r)), .py (.int i), .py s] S = some (.val .pure (.py (if w = "alike" then .none else if w = "not" ∨ (w = "then" ∧ i = 1) then flip s else s)) S) := by
  rw [sem_sign_handed_on, funF3]
  rcases h with rfl | ⟨b, rfl⟩
  · simp [b_sign_handed_on, flip]
  · by_cases h1 : w = "alike"
    · subst h1; simp [b_sign_handed_on, flip]
    · by_cases h2 : w = "not"
      · subst h2; simp [b_sign_handed_on, flip]
      · by_cases h3 : w = "then"
        · subst h3
          by_cases h4 : i = 1
          · subst h4; simp [b_sign_handed_on, flip]
          · simp [b_sign_handed_on, flip, h4]
        · simp [b_sign_handed_on, flip, h1, h2, h3]
def wb (L : Nat → FF) : FS := (fThen (fSet 3 (fBin addP (fVar 3) (fCallF 3 (L 9) (faCons (fIx (fVar 0) (fVar 4)) (faCons (fCallF 3 (L 8) (faCons (fVar 0) (faCons (fVar 4) (faCons (fVar 1) faNil)))) (faCons (fFz (fBin addP (fVar 2) (fSeq .tuple .pure (faCons (fVar 4) faNil)))) faNil))))))
    fNil)
theorem wb_ok {n : Nat} {D s s' c x : PyData} {p : List Int} {acc R : List PyData} {i : Int} {S : SS} (hix : ixP D (.int i) = some c) (h8 : sem n 8 [.py D, .py (.int i), .py s] S = some (.val .pure (.py s') S))
    (h9 : sem n 9 [.py c, .py s', .py (.tuple ((p ++ [i]).map .int))] S = some (.val .mine (.py (.list R)) S)) (hl : p.length + 1 ≤ 100000) (hr : acc.length + R.length ≤ 100000) :
    wb (sem n) [.p (.py D), .p (.py s), .p (.py (.tuple (p.map .int))), .own (.list acc), .p (.py (.int i))] S = some (.nx [.p (.py D), .p (.py s), .p (.py (.tuple (p.map .int))), .own (.list (acc ++ R)), .p (.py (.int i))] S) := by
  have e1 : addP (.tuple (p.map .int)) (.tuple [.int i]) = some (.pure, .tuple ((p ++ [i]).map .int)) := by
    rw [addP_t (by simpa using hl)]; simp
  have e2 := addP_l hr
  simp [-List.map_append, wb, hix, h8, h9, e1, e2]
theorem one_l (L : Nat → FF) {D s : PyData} {p : List Int} {acc : List PyData} {x : Slot} {S : SS} {R : List PyData} {i : Int} 
    (h1 : wb L [.p (.py D), .p (.py s), .p (.py (.tuple (p.map .int))), .own (.list acc), .p (.py (.int i))] S = some (.nx [.p (.py D), .p (.py s), .p (.py (.tuple (p.map .int))), .own (.list (acc ++ R)), .p (.py (.int i))] S)) {ds : List PyData} {r : Option SR}
    (h2 : forLoop (gNm 4) (wb L) ds [.p (.py D), .p (.py s), .p (.py (.tuple (p.map .int))), .own (.list (acc ++ R)), .p (.py (.int i))] S = r) :
    forLoop (gNm 4) (wb L) (.int i :: ds) [.p (.py D), .p (.py s), .p (.py (.tuple (p.map .int))), .own (.list acc), x] S = r := by
  rw [for_cons]
  simp only [ap_Nm, List.set_cons_succ, List.set_cons_zero]
  rw [h1]
  exact h2
theorem pl_leaf {w : String} (h : w ∈ ["is", "same", "ahead", "in", "within", "upto", "yes", "no"]) : t_SAYING_PLACES.lookup (Str.ofString w) = none := by
  simp only [List.mem_cons, List.not_mem_nil, or_false] at h
  rcases h with rfl | rfl | rfl | rfl | rfl | rfl | rfl | rfl <;> kernel_rfl
theorem pl_bin {w : String} (h : w ∈ ["and", "or", "then", "alike"]) : t_SAYING_PLACES.lookup (Str.ofString w) = some (.tuple [.int 1, .int 2]) := by
  simp only [List.mem_cons, List.not_mem_nil, or_false] at h
  rcases h with rfl | rfl | rfl | rfl <;> kernel_rfl
theorem pl_qu {w : String} (h : w ∈ ["each", "some"]) : t_SAYING_PLACES.lookup (Str.ofString w) = some (.tuple [.int 3]) := by
  simp only [List.mem_cons, List.not_mem_nil, or_false] at h
  rcases h with rfl | rfl <;> kernel_rfl
theorem pl_neg : t_SAYING_PLACES.lookup (Str.ofString "not") = some (.tuple [.int 1]) := by kernel_rfl
theorem within_ok (g : Sg) : g.ok → ∀ (s : PyData), SgnP s → ∀ (p : List Int) (n : Nat) (S : SS), g.dp + 2 ≤ n → p.length + g.dp ≤ 1000 → g.size ≤ 1000 → sem n 9 [.py g.d, .py s, .py (.tuple (p.map .int))] S = some (.val .mine (.py (.list (out p (g.sg s)))) S) := by
  have start : ∀ (n : Nat) (D s : PyData) (p : List Int) (S : SS) (w : String) (r : List PyData) (ds R : List PyData), D = .tuple (.str (Str.ofString w) :: r) → (t_SAYING_PLACES.lookup (Str.ofString w) = some (.tuple ds) ∨ (t_SAYING_PLACES.lookup (Str.ofString w) = none ∧ ds = [])) →
      (∀ x, ∃ y, forLoop (gNm 4) (wb (sem n)) ds [.p (.py D), .p (.py s), .p (.py (.tuple (p.map .int))), .own (.list [.tuple [.tuple (p.map .int), s]]), x] S = some (.nx [.p (.py D), .p (.py s), .p (.py (.tuple (p.map .int))), .own (.list R), y] S)) →
      sem (n + 1) 9 [.py D, .py s, .py (.tuple (p.map .int))] S = some (.val .mine (.py (.list R)) S) := by
    intro n D s p S w r ds R hD hl hloop
    obtain ⟨y, hy⟩ := hloop .un
    rw [sem_signs_within, funF3]
    subst hD
    unfold b_signs_within
    refine (congrArg outF (then_nx (sl' := [.p (.py (.tuple (.str (Str.ofString w) :: r))), .p (.py s), .p (.py (.tuple (p.map .int))), .own (.list [.tuple [.tuple (p.map .int), s]]), .un]) (S' := S) (by simp) (then_nx (for_nx (ds := ds) (S1 := S) ?_ hy) (then_rt (t := .mine) (v := .py (.list R)) (S' := S) (by simp))))).trans rfl
    rcases hl with hl | ⟨hl, rfl⟩
    · simp [hl]
    · simp [hl]
  induction g with
  | leaf w r =>
    intro ok s hs p n S hn hp hz
    obtain ⟨n, rfl⟩ : ∃ j, n = j + 1 := ⟨n - 1, by omega⟩
    exact start n _ s p S w r [] _ rfl (.inr ⟨pl_leaf ok, rfl⟩) fun x => ⟨x, by simp [out, Sg.sg, Sg.d]⟩
  | neg a ih =>
    intro ok s hs p n S hn hp hz
    simp only [Sg.dp, Sg.size] at hn hp hz
    obtain ⟨n, rfl⟩ : ∃ j, n = j + 1 := ⟨n - 1, by omega⟩
    obtain ⟨m, rfl⟩ : ∃ j, n = j + 1 := ⟨n - 1, by omega⟩
    refine start (m + 1) _ s p S "not" [a.d] [.int 1] _ rfl (.inl pl_neg) fun x => ?_
    have h8 := handed m (w := "not") (r := [a.d]) (i := 1) hs S
    have h9 := ih ok (flip s) (flip_sgn hs) (p ++ [1]) (m + 1) S (by omega) (by simp; omega) (by omega)
    have hw := wb_ok (n := m + 1) (D := (Sg.neg a).d) (s := s) (s' := flip s) (c := a.d) (x := .none) (p := p) (acc := [.tuple [.tuple (p.map .int), s]]) (i := 1) (S := S) (by simp [Sg.d]) (by simpa [Sg.d] using h8) h9 (by omega) (by rw [out_len, Sg.sg_len]; simp; omega)
    refine ⟨.p (.py (.int 1)), one_l _ hw ?_⟩
    rw [for_nil]
    simp [Sg.sg, out_nil, out_shift]
  | bin w a b iha ihb =>
    intro ok s hs p n S hn hp hz
    obtain ⟨okw, oka, okb⟩ := ok
    simp only [Sg.dp, Sg.size] at hn hp hz
    obtain ⟨n, rfl⟩ : ∃ j, n = j + 1 := ⟨n - 1, by omega⟩
    obtain ⟨m, rfl⟩ : ∃ j, n = j + 1 := ⟨n - 1, by omega⟩
    refine start (m + 1) _ s p S w [a.d, b.d] [.int 1, .int 2] _ rfl (.inl (pl_bin okw)) fun x => ?_
    have hnot : w ≠ "not" := by rintro rfl; simp at okw
    have h8 := handed m (w := w) (r := [a.d, b.d]) (i := 1) hs S
    have e1 : (if w = "alike" then PyData.none else if w = "not" ∨ (w = "then" ∧ (1 : Int) = 1) then flip s else s) = one w s := by
      unfold one
      by_cases h1 : w = "alike" <;> by_cases h2 : w = "then" <;> simp_all
    rw [e1] at h8
    have h8' := handed m (w := w) (r := [a.d, b.d]) (i := 2) hs S
    have e2 : (if w = "alike" then PyData.none else if w = "not" ∨ (w = "then" ∧ (2 : Int) = 1) then flip s else s) = two w s := by
      unfold two
      by_cases h1 : w = "alike" <;> simp_all
    rw [e2] at h8'
    have h9 := iha oka (one w s) (one_sgn hs) (p ++ [1]) (m + 1) S (by omega) (by simp; omega) (by omega)
    have h9' := ihb okb (two w s) (two_sgn hs) (p ++ [2]) (m + 1) S (by omega) (by simp; omega) (by omega)
    have hw := wb_ok (n := m + 1) (D := (Sg.bin w a b).d) (s := s) (s' := one w s) (c := a.d) (x := .none) (p := p) (acc := [.tuple [.tuple (p.map .int), s]]) (i := 1) (S := S) (by simp [Sg.d]) h8 h9 (by omega) (by rw [out_len, Sg.sg_len]; simp; omega)
    have hw' := wb_ok (n := m + 1) (D := (Sg.bin w a b).d) (s := s) (s' := two w s) (c := b.d) (x := .none) (p := p) (acc := [.tuple [.tuple (p.map .int), s]] ++ out (p ++ [1]) (a.sg (one w s))) (i := 2) (S := S) (by simp [Sg.d]) h8' h9' (by omega) (by rw [out_len, Sg.sg_len]; simp [out_len, Sg.sg_len]; omega)
    refine ⟨.p (.py (.int 2)), one_l _ hw (one_l _ hw' ?_)⟩
    rw [for_nil]
    simp [Sg.sg, out_nil, out_app, out_shift]
  | qu w y k a ih =>
    intro ok s hs p n S hn hp hz
    obtain ⟨okw, oka⟩ := ok
    simp only [Sg.dp, Sg.size] at hn hp hz
    obtain ⟨n, rfl⟩ : ∃ j, n = j + 1 := ⟨n - 1, by omega⟩
    obtain ⟨m, rfl⟩ : ∃ j, n = j + 1 := ⟨n - 1, by omega⟩
    refine start (m + 1) _ s p S w [y, k, a.d] [.int 3] _ rfl (.inl (pl_qu okw)) fun x => ?_
    have h8 := handed m (w := w) (r := [y, k, a.d]) (i := 3) hs S
    have e1 : (if w = "alike" then PyData.none else if w = "not" ∨ (w = "then" ∧ (3 : Int) = 1) then flip s else s) = s := by
      have h1 : w ≠ "alike" := by rintro rfl; simp at okw
      have h2 : w ≠ "not" := by rintro rfl; simp at okw
      simp [h1, h2]
    rw [e1] at h8
    have h9 := ih oka s hs (p ++ [3]) (m + 1) S (by omega) (by simp; omega) (by omega)
    have hw := wb_ok (n := m + 1) (D := (Sg.qu w y k a).d) (s := s) (s' := s) (c := a.d) (x := .none) (p := p) (acc := [.tuple [.tuple (p.map .int), s]]) (i := 3) (S := S) (by simp [Sg.d]) h8 h9 (by omega) (by rw [out_len, Sg.sg_len]; simp; omega)
    refine ⟨.p (.py (.int 3)), one_l _ hw ?_⟩
    rw [for_nil]
    simp [Sg.sg, out_nil, out_shift]
end K30
set_option Elab.async false
set_option linter.all false
set_option maxRecDepth 100000
set_option maxHeartbeats 4000000
namespace K30
open PySem PP
@[simp] theorem inP_2 {neg : Bool} {w a b : String} : inP neg (.str (Str.ofString w)) (.list [.str (Str.ofString a), .str (Str.ofString b)]) = some (.pure, .bool (neg ^^ (decide (a = w) || decide (b = w)))) := by
  have : inOk (.str (Str.ofString w)) [.str (Str.ofString a), .str (Str.ofString b)] = true := by
    unfold inOk; simp [PyData.plain, PyData.plainAll, PyData.depth, PyData.depthAll, DEEP]
  rw [inP_list this]
  simp [PyData.eqv, ofString_beq]
theorem law_signs_ok (g : Sg) : g.ok → ∀ (s : PyData), SgnP s → ∀ (p : List Int) (n : Nat) (S : SS), g.dp + 1 ≤ n → p.length + g.dp ≤ 1000 → g.size ≤ 1000 → sem n 23 [.py g.d, .py s, .py (.tuple (p.map .int))] S = some (.val .pure (.py (.list (out p (g.sg s)))) S) := by
  induction g with
  | leaf w r =>
    intro ok s hs p n S hn hp hz
    obtain ⟨n, rfl⟩ : ∃ j, n = j + 1 := ⟨n - 1, by omega⟩
    rw [sem__law_signs, funF3]
    simp only [Sg.ok, List.mem_cons, List.not_mem_nil, or_false] at ok
    rcases hs with rfl | ⟨b, rfl⟩ <;> rcases ok with rfl | rfl | rfl | rfl | rfl | rfl | rfl | rfl <;> simp [b__law_signs, Sg.d, Sg.sg, out]
  | neg a ih =>
    intro ok s hs p n S hn hp hz
    simp only [Sg.dp, Sg.size] at hn hp hz
    obtain ⟨n, rfl⟩ : ∃ j, n = j + 1 := ⟨n - 1, by omega⟩
    have e1 : addP (.tuple (p.map .int)) (.tuple [.int 1]) = some (.pure, .tuple ((p ++ [1]).map .int)) := by
      rw [addP_t (by simp; omega)]; simp
    have h9 := ih ok (flip s) (flip_sgn hs) (p ++ [1]) n S (by omega) (by simp; omega) (by omega)
    have e2 : addP (.list [.tuple [.tuple (p.map .int), s]]) (.list (out (p ++ [1]) (a.sg (flip s)))) = some (.fresh, .list (.tuple [.tuple (p.map .int), s] :: out (p ++ [1]) (a.sg (flip s)))) := by
      rw [addP_l (by rw [out_len, Sg.sg_len]; simp; omega)]; rfl
    rw [sem__law_signs, funF3]
    rcases hs with rfl | ⟨b, rfl⟩ <;> simp only [flip] at * <;> simp [-List.map_append, b__law_signs, Sg.d, Sg.sg, out_nil, out_shift, h9, e1, e2, flip]
  | bin w a b iha ihb =>
    intro ok s hs p n S hn hp hz
    obtain ⟨okw, oka, okb⟩ := ok
    simp only [Sg.dp, Sg.size] at hn hp hz
    obtain ⟨n, rfl⟩ : ∃ j, n = j + 1 := ⟨n - 1, by omega⟩
    have e1 : addP (.tuple (p.map .int)) (.tuple [.int 1]) = some (.pure, .tuple ((p ++ [1]).map .int)) := by
      rw [addP_t (by simp; omega)]; simp
    have e1' : addP (.tuple (p.map .int)) (.tuple [.int 2]) = some (.pure, .tuple ((p ++ [2]).map .int)) := by
      rw [addP_t (by simp; omega)]; simp
    have h9 := iha oka (one w s) (one_sgn hs) (p ++ [1]) n S (by omega) (by simp; omega) (by omega)
    have h9' := ihb okb (two w s) (two_sgn hs) (p ++ [2]) n S (by omega) (by simp; omega) (by omega)
    have e2 : addP (.list [.tuple [.tuple (p.map .int), s]]) (.list (out (p ++ [1]) (a.sg (one w s)))) = some (.fresh, .list (.tuple [.tuple (p.map .int), s] :: out (p ++ [1]) (a.sg (one w s)))) := by
      rw [addP_l (by rw [out_len, Sg.sg_len]; simp; omega)]; rfl
    have e3 : addP (.list (.tuple [.tuple (p.map .int), s] :: out (p ++ [1]) (a.sg (one w s)))) (.list (out (p ++ [2]) (b.sg (two w s)))) = some (.fresh, .list (.tuple [.tuple (p.map .int), s] :: (out (p ++ [1]) (a.sg (one w s)) ++ out (p ++ [2]) (b.sg (two w s))))) := by
      rw [addP_l (by rw [out_len, Sg.sg_len]; simp only [List.length_cons]; rw [out_len, Sg.sg_len]; omega)]; rfl
    rw [sem__law_signs, funF3]
    simp only [List.mem_cons, List.not_mem_nil, or_false] at okw
    rcases okw with rfl | rfl | rfl | rfl <;> rcases hs with rfl | ⟨c, rfl⟩ <;> simp only [one, two, flip, if_true, if_false, reduceIte, String.reduceEq] at h9 h9' e2 e3 <;> simp [-List.map_append, b__law_signs, Sg.d, Sg.sg, out_nil, out_shift, out_app, h9, h9', e1, e1', e2, e3, flip, one, two]
  | qu w y k a ih =>
    intro ok s hs p n S hn hp hz
    obtain ⟨okw, oka⟩ := ok
    simp only [Sg.dp, Sg.size] at hn hp hz
    obtain ⟨n, rfl⟩ : ∃ j, n = j + 1 := ⟨n - 1, by omega⟩
    have e1 : addP (.tuple (p.map .int)) (.tuple [.int 3]) = some (.pure, .tuple ((p ++ [3]).map .int)) := by
      rw [addP_t (by simp; omega)]; simp
    have h9 := ih oka s hs (p ++ [3]) n S (by omega) (by simp; omega) (by omega)
    have e2 : addP (.list [.tuple [.tuple (p.map .int), s]]) (.list (out (p ++ [3]) (a.sg s))) = some (.fresh, .list (.tuple [.tuple (p.map .int), s] :: out (p ++ [3]) (a.sg s))) := by
      rw [addP_l (by rw [out_len, Sg.sg_len]; simp; omega)]; rfl
    rw [sem__law_signs, funF3]
    simp only [List.mem_cons, List.not_mem_nil, or_false] at okw
    rcases okw with rfl | rfl <;> rcases hs with rfl | ⟨c, rfl⟩ <;> simp [-List.map_append, b__law_signs, Sg.d, Sg.sg, out_nil, out_shift, h9, e1, e2, flip]
end K30
set_option Elab.async false
set_option linter.all false
set_option maxRecDepth 100000
set_option maxHeartbeats 4000000
namespace K30
open PySem PP
theorem check_ok {k : Nat} {d : PyData} (h : SY k d) (n : Nat) (S : SS) (hn : k + 1 ≤ n) : sem n 10 [.py d] S = some (.val .pure (.py .none) S) := by
  obtain ⟨n, rfl⟩ : ∃ j, n = j + 1 := ⟨n - 1, by omega⟩
  have e := h n (by omega) S
  rw [sem_check_saying_shape, funF1]
  simp [b_check_saying_shape, e]
theorem signs_of_ok {k : Nat} {g : Sg} (ok : g.ok) (h : SY k g.d) (b : Bool) (n : Nat) (S : SS) (hn : k + 2 ≤ n) (hn2 : g.dp + 3 ≤ n) (hd : g.dp ≤ 1000) (hz : g.size ≤ 1000) : sem n 11 [.py g.d, .py (.bool b)] S = some (.val .fresh (.py (.list (out [] (g.sg (.bool b))))) S) := by
  obtain ⟨n, rfl⟩ : ∃ j, n = j + 1 := ⟨n - 1, by omega⟩
  have e1 := check_ok h n S (by omega)
  have e2 := within_ok g ok (.bool b) (.inr ⟨b, rfl⟩) [] n S (by omega) (by simpa using hd) hz
  rw [sem_signs_of, funF2]
  simp at e2
  simp [b_signs_of, e1, e2, isTy]
theorem signs_of_bad {k : Nat} {d s : PyData} (h : SY k d) (hs : isTy .bool s = false) (n : Nat) (S : SS) (hn : k + 2 ≤ n) : sem n 11 [.py d, .py s] S = some (.exn "InvalidLiterals" s S) := by
  obtain ⟨n, rfl⟩ : ∃ j, n = j + 1 := ⟨n - 1, by omega⟩
  have e1 := check_ok h n S (by omega)
  rw [sem_signs_of, funF2]
  simp [b_signs_of, e1, hs]
/-! ### places -/
def kid : Sg → Int → Option Sg
  | .leaf _ _, _ => none
  | .neg a, i => if i = 1 then some a else none
  | .bin _ a b, i => if i = 1 then some a else if i = 2 then some b else none
  | .qu _ _ _ a, i => if i = 3 then some a else none
def at_ : List Int → Sg → Option Sg
  | [], g => some g
  | i :: r, g => match kid g i with
    | some c => at_ r c
    | none => none
theorem kid_ix {g c : Sg} {i : Int} (h : kid g i = some c) : ixP g.d (.int i) = some c.d := by
  cases g with
  | leaf w r => cases h
  | neg a =>
    simp only [kid] at h
    split at h
    · rename_i e; subst e; cases h; simp [Sg.d]
    · cases h
  | bin w a b =>
    simp only [kid] at h
    split at h
    · rename_i e; subst e; cases h; simp [Sg.d]
    · split at h
      · rename_i e; subst e; cases h; simp [Sg.d]
      · cases h
  | qu w x k a =>
    simp only [kid] at h
    split at h
    · rename_i e; subst e; cases h; simp [Sg.d]
    · cases h
theorem kid_ok {g c : Sg} {i : Int} (h : kid g i = some c) (ok : g.ok) : c.ok := by
  cases g with
  | leaf w r => cases h
  | neg a =>
    simp only [kid] at h
    split at h
    · cases h; exact ok
    · cases h
  | bin w a b =>
    simp only [kid] at h
    split at h
    · cases h; exact ok.2.1
    · split at h
      · cases h; exact ok.2.2
      · cases h
  | qu w x k a =>
    simp only [kid] at h
    split at h
    · cases h; exact ok.2
    · cases h
theorem inP_ints {neg : Bool} {i : Int} {js : List Int} : inP neg (.int i) (.tuple (js.map .int)) = some (.pure, .bool (neg ^^ decide (i ∈ js))) := by
  have : inOk (.int i) (js.map .int) = true := by
    unfold inOk
    rw [plainAll_of (by intro d hd; obtain ⟨j, _, rfl⟩ := List.mem_map.mp hd; rfl)]
    simp [PyData.plain, PyData.depth, DEEP]
  rw [inP_tuple this]
  congr 4
  rw [List.any_map]
  by_cases h : i ∈ js
  · rw [decide_eq_true h, List.any_eq_true]
    exact ⟨i, h, by simp [PyData.eqv]⟩
  · rw [decide_eq_false h, List.any_eq_false]
    intro j hj
    simp [PyData.eqv]
    rintro rfl
    exact h hj
def pb : FS := (fThen (fIfS (fOrT (fTb (fIsi .bool (fVar 3))) (fOrT (fNotT (fTb (fIsi .int (fVar 3)))) (fTb (fBin (inP true) (fVar 3) (fTabGet t_SAYING_PLACES (fIx (fVar 2) (fC (.int (0)))) (fLit .pure (.tuple []))))))) (fThen (fRet (fC (.bool false)))
    fNil) fNil)
    (fThen (fSet 2 (fIx (fVar 2) (fVar 3)))
    fNil))
theorem inP_i0 {neg : Bool} {i : Int} : inP neg (.int i) (.tuple []) = some (.pure, .bool neg) := by
  have := inP_ints (neg := neg) (i := i) (js := [])
  simpa using this
theorem inP_i1 {neg : Bool} {i a : Int} : inP neg (.int i) (.tuple [.int a]) = some (.pure, .bool (neg ^^ decide (i = a))) := by
  have := inP_ints (neg := neg) (i := i) (js := [a])
  simpa using this
theorem inP_i2 {neg : Bool} {i a b : Int} : inP neg (.int i) (.tuple [.int a, .int b]) = some (.pure, .bool (neg ^^ decide (i = a ∨ i = b))) := by
  have := inP_ints (neg := neg) (i := i) (js := [a, b])
  simpa using this
theorem pb_ok {g : Sg} (ok : g.ok) {i : Int} {A B : Slot} {S : SS} : pb [A, B, .p (.py g.d), .p (.py (.int i))] S = (match kid g i with
    | some c => some (.nx [A, B, .p (.py c.d), .p (.py (.int i))] S)
    | none => some (.rt .pure (.py (.bool false)) S)) := by
  cases g with
  | leaf w r =>
    have e := pl_leaf ok
    simp [pb, kid, Sg.d, isTy, e, inP_i0]
  | neg a =>
    have e := pl_neg
    by_cases h : i = 1
    · subst h; simp [pb, kid, Sg.d, isTy, e, inP_i1]
    · simp [pb, kid, Sg.d, isTy, e, inP_i1, h]
  | bin w a b =>
    have e := pl_bin ok.1
    by_cases h : i = 1
    · subst h; simp [pb, kid, Sg.d, isTy, e, inP_i2]
    · by_cases h2 : i = 2
      · subst h2; simp [pb, kid, Sg.d, isTy, e, inP_i2]
      · simp [pb, kid, Sg.d, isTy, e, inP_i2, h, h2]
  | qu w x k a =>
    have e := pl_qu ok.1
    by_cases h : i = 3
    · subst h; simp [pb, kid, Sg.d, isTy, e, inP_i1]
    · simp [pb, kid, Sg.d, isTy, e, inP_i1, h]
theorem place_loop : ∀ (ps : List Int) {g : Sg} (ok : g.ok) {A B x : Slot} {S : SS}, (∃ h y, at_ ps g = some h ∧ forLoop (gNm 3) pb (ps.map .int) [A, B, .p (.py g.d), x] S = some (.nx [A, B, .p (.py h.d), y] S)) ∨
    (at_ ps g = none ∧ forLoop (gNm 3) pb (ps.map .int) [A, B, .p (.py g.d), x] S = some (.rt .pure (.py (.bool false)) S))
  | [], g, ok, A, B, x, S => .inl ⟨g, x, rfl, rfl⟩
  | i :: r, g, ok, A, B, x, S => by
    have e := pb_ok ok (i := i) (A := A) (B := B) (S := S)
    rw [List.map_cons, for_cons]
    simp only [ap_Nm, List.set_cons_succ, List.set_cons_zero]
    rw [e]
    unfold at_
    cases hk : kid g i with
    | none => exact .inr ⟨rfl, rfl⟩
    | some c => exact place_loop r (kid_ok hk ok)
theorem is_place_ok {g : Sg} (ok : g.ok) (ps : List Int) (n : Nat) (S : SS) : sem (n + 1) 12 [.py g.d, .py (.tuple (ps.map .int))] S = some (.val .pure (.py (.bool (at_ ps g).isSome)) S) := by
  rw [sem_is_place_in, funF2]
  rcases place_loop ps ok (A := .p (.py g.d)) (B := .p (.py (.tuple (ps.map .int)))) (x := .un) (S := S) with ⟨h, y, e1, e2⟩ | ⟨e1, e2⟩
  · unfold pb at e2
    simp [b_is_place_in, isTy, e1, e2]
  · unfold pb at e2
    simp [b_is_place_in, isTy, e1, e2]
theorem is_place_odd {d x : PyData} (hx : (isTy .bool x || !isTy .int x) = true) (n : Nat) (S : SS) : sem (n + 1) 12 [.py d, .py (.tuple [x])] S = some (.val .pure (.py (.bool false)) S) := by
  have ht : isTy .tuple (.tuple [x]) = true := rfl
  rw [sem_is_place_in, funF2]
  cases hb : isTy .bool x with
  | true => simp [b_is_place_in, ht, for_cons, hb]
  | false =>
    rw [hb, Bool.false_or] at hx
    simp [b_is_place_in, ht, for_cons, hb, hx]
theorem is_place_not {d x : PyData} (hx : isTy .tuple x = false) (n : Nat) (S : SS) : sem (n + 1) 12 [.py d, .py x] S = some (.val .pure (.py (.bool false)) S) := by
  rw [sem_is_place_in, funF2]
  simp [b_is_place_in, hx]
def ab : FS := (fThen (fSet 2 (fIx (fVar 2) (fVar 3))) fNil)
theorem part_loop : ∀ (ps : List Int) {g h : Sg} {A B x : Slot} {S : SS}, at_ ps g = some h → ∃ y, forLoop (gNm 3) ab (ps.map .int) [A, B, .p (.py g.d), x] S = some (.nx [A, B, .p (.py h.d), y] S)
  | [], g, h, A, B, x, S, e => by cases e; exact ⟨x, rfl⟩
  | i :: r, g, h, A, B, x, S, e => by
    unfold at_ at e
    cases hk : kid g i with
    | none => rw [hk] at e; cases e
    | some c =>
      rw [hk] at e
      obtain ⟨y, ey⟩ := part_loop r (A := A) (B := B) (x := .p (.py (.int i))) (S := S) e
      refine ⟨y, ?_⟩
      rw [List.map_cons, for_cons]
      simp only [ap_Nm, List.set_cons_succ, List.set_cons_zero]
      rw [show ab [A, B, .p (.py g.d), .p (.py (.int i))] S = some (.nx [A, B, .p (.py c.d), .p (.py (.int i))] S) by simp [ab, kid_ix hk]]
      exact ey
theorem part_at_ok {k : Nat} {g h : Sg} (ok : g.ok) (hs : SY k g.d) {ps : List Int} (e : at_ ps g = some h) (n : Nat) (S : SS) (hn : k + 2 ≤ n) : sem n 13 [.py g.d, .py (.tuple (ps.map .int))] S = some (.val .pure (.py h.d) S) := by
  obtain ⟨n, rfl⟩ : ∃ j, n = j + 2 := ⟨n - 2, by omega⟩
  have e1 := check_ok hs (n + 1) S (by omega)
  have e2 := is_place_ok ok ps n S
  rw [e] at e2
  obtain ⟨y, e3⟩ := part_loop ps (A := .p (.py g.d)) (B := .p (.py (.tuple (ps.map .int)))) (x := .un) (S := S) e
  rw [sem_part_at, funF2]
  unfold ab at e3
  simp [b_part_at, e1, e2, e3]
theorem part_at_bad {k : Nat} {d x : PyData} (hs : SY k d) (n : Nat) (S : SS) (hn : k + 2 ≤ n) (e2 : sem (n - 1) 12 [.py d, .py x] S = some (.val .pure (.py (.bool false)) S)) : sem n 13 [.py d, .py x] S = some (.exn "InvalidList" x S) := by
  obtain ⟨n, rfl⟩ : ∃ j, n = j + 2 := ⟨n - 2, by omega⟩
  have e1 := check_ok hs (n + 1) S (by omega)
  rw [show n + 2 - 1 = n + 1 by omega] at e2
  rw [sem_part_at, funF2]
  simp [b_part_at, e1, e2]
theorem law_part_ok {g h : Sg} {ps : List Int} (e : at_ ps g = some h) (n : Nat) (S : SS) : sem (n + 1) 24 [.py g.d, .py (.tuple (ps.map .int))] S = some (.val .pure (.py h.d) S) := by
  obtain ⟨y, e3⟩ := part_loop ps (A := .p (.py g.d)) (B := .p (.py (.tuple (ps.map .int)))) (x := .un) (S := S) e
  rw [sem__law_part, funF2]
  unfold ab at e3
  simp [b__law_part, e3]
end K30
set_option Elab.async false
set_option linter.all false
set_option maxRecDepth 100000
set_option maxHeartbeats 4000000
namespace K30
open PySem PP
/-! ## the places in order -/
def Sg.ps : Sg → List (List Int)
  | .leaf _ _ => [[]]
  | .neg a => [] :: a.ps.map (1 :: ·)
  | .bin _ a b => [] :: (a.ps.map (1 :: ·) ++ b.ps.map (2 :: ·))
  | .qu _ _ _ a => [] :: a.ps.map (3 :: ·)
theorem sg_fst (g : Sg) : ∀ s, (g.sg s).map (·.1) = g.ps := by
  induction g with
  | leaf w r => intro s; rfl
  | neg a ih => intro s; simp [Sg.sg, Sg.ps, ← ih (flip s), Function.comp_def]
  | bin w a b iha ihb => intro s; simp [Sg.sg, Sg.ps, ← iha (one w s), ← ihb (two w s), Function.comp_def]
  | qu w x k a ih => intro s; simp [Sg.sg, Sg.ps, ← ih s, Function.comp_def]
theorem ps_nil (g : Sg) : [] ∈ g.ps := by cases g <;> simp [Sg.ps]
theorem ps_at (g : Sg) : ∀ p ∈ g.ps, ∃ h, at_ p g = some h := by
  induction g with
  | leaf w r =>
    intro p hp
    simp only [Sg.ps, List.mem_singleton] at hp
    subst hp
    exact ⟨_, rfl⟩
  | neg a ih =>
    intro p hp
    simp only [Sg.ps, List.mem_cons, List.mem_map] at hp
    rcases hp with rfl | ⟨q, hq, rfl⟩
    · exact ⟨_, rfl⟩
    · obtain ⟨h, e⟩ := ih q hq
      exact ⟨h, by simp [at_, kid, e]⟩
  | bin w a b iha ihb =>
    intro p hp
    simp only [Sg.ps, List.mem_cons, List.mem_append, List.mem_map] at hp
    rcases hp with rfl | ⟨q, hq, rfl⟩ | ⟨q, hq, rfl⟩
    · exact ⟨_, rfl⟩
    · obtain ⟨h, e⟩ := iha q hq
      exact ⟨h, by simp [at_, kid, e]⟩
    · obtain ⟨h, e⟩ := ihb q hq
      exact ⟨h, by simp [at_, kid, e]⟩
  | qu w x k a ih =>
    intro p hp
    simp only [Sg.ps, List.mem_cons, List.mem_map] at hp
    rcases hp with rfl | ⟨q, hq, rfl⟩
    · exact ⟨_, rfl⟩
    · obtain ⟨h, e⟩ := ih q hq
      exact ⟨h, by simp [at_, kid, e]⟩
theorem at_mem : ∀ (p : List Int) (g : Sg), (at_ p g).isSome = true → p ∈ g.ps
  | [], g, _ => ps_nil g
  | i :: r, g, h => by
    unfold at_ at h
    cases hk : kid g i with
    | none => rw [hk] at h; cases h
    | some c =>
      rw [hk] at h
      have ih := at_mem r c h
      cases g with
      | leaf w x => cases hk
      | neg a =>
        simp only [kid] at hk
        split at hk
        · rename_i e; subst e; cases hk; simp [Sg.ps, ih]
        · cases hk
      | bin w a b =>
        simp only [kid] at hk
        split at hk
        · rename_i e; subst e; cases hk; simp [Sg.ps, ih]
        · split at hk
          · rename_i e; subst e; cases hk; simp [Sg.ps, ih]
          · cases hk
      | qu w x k a =>
        simp only [kid] at hk
        split at hk
        · rename_i e; subst e; cases hk; simp [Sg.ps, ih]
        · cases hk
theorem ps_small (g : Sg) : ∀ p ∈ g.ps, p.length ≤ g.dp ∧ ∀ i ∈ p, 1 ≤ i ∧ i ≤ 3 := by
  induction g with
  | leaf w r =>
    intro p hp
    simp only [Sg.ps, List.mem_singleton] at hp
    subst hp
    exact ⟨Nat.zero_le _, fun i hi => nomatch hi⟩
  | neg a ih =>
    intro p hp
    simp only [Sg.ps, List.mem_cons, List.mem_map] at hp
    rcases hp with rfl | ⟨q, hq, rfl⟩
    · exact ⟨Nat.zero_le _, fun i hi => nomatch hi⟩
    · obtain ⟨h1, h2⟩ := ih q hq
      refine ⟨by simp [Sg.dp]; omega, fun i hi => ?_⟩
      rcases List.mem_cons.mp hi with rfl | hi
      · omega
      · exact h2 i hi
  | bin w a b iha ihb =>
    intro p hp
    simp only [Sg.ps, List.mem_cons, List.mem_append, List.mem_map] at hp
    rcases hp with rfl | ⟨q, hq, rfl⟩ | ⟨q, hq, rfl⟩
    · exact ⟨Nat.zero_le _, fun i hi => nomatch hi⟩
    · obtain ⟨h1, h2⟩ := iha q hq
      refine ⟨by simp [Sg.dp]; omega, fun i hi => ?_⟩
      rcases List.mem_cons.mp hi with rfl | hi
      · omega
      · exact h2 i hi
    · obtain ⟨h1, h2⟩ := ihb q hq
      refine ⟨by simp [Sg.dp]; omega, fun i hi => ?_⟩
      rcases List.mem_cons.mp hi with rfl | hi
      · omega
      · exact h2 i hi
  | qu w x k a ih =>
    intro p hp
    simp only [Sg.ps, List.mem_cons, List.mem_map] at hp
    rcases hp with rfl | ⟨q, hq, rfl⟩
    · exact ⟨Nat.zero_le _, fun i hi => nomatch hi⟩
    · obtain ⟨h1, h2⟩ := ih q hq
      refine ⟨by simp [Sg.dp]; omega, fun i hi => ?_⟩
      rcases List.mem_cons.mp hi with rfl | hi
      · omega
      · exact h2 i hi
inductive LTp : List Int → List Int → Prop
  | nil {x : Int} {r : List Int} : LTp [] (x :: r)
  | lt {x y : Int} {r t : List Int} : x < y → LTp (x :: r) (y :: t)
  | eq {x : Int} {r t : List Int} : LTp r t → LTp (x :: r) (x :: t)
theorem ps_pair (g : Sg) : g.ps.Pairwise LTp := by
  have up : ∀ (i : Int) (l : List (List Int)), l.Pairwise LTp → (l.map (i :: ·)).Pairwise LTp := fun i l h => List.pairwise_map.mpr (h.imp fun q => .eq q)
  have lo : ∀ (i : Int) (l : List (List Int)), ∀ p ∈ l.map (i :: ·), LTp [] p := fun i l p hp => by
    obtain ⟨q, _, rfl⟩ := List.mem_map.mp hp
    exact .nil
  induction g with
  | leaf w r => exact List.pairwise_singleton _ _
  | neg a ih => exact List.pairwise_cons.mpr ⟨lo 1 _, up 1 _ ih⟩
  | bin w a b iha ihb =>
    refine List.pairwise_cons.mpr ⟨fun p hp => ?_, List.pairwise_append.mpr ⟨up 1 _ iha, up 2 _ ihb, fun p hp q hq => ?_⟩⟩
    · rcases List.mem_append.mp hp with hp | hp
      · exact lo 1 _ p hp
      · exact lo 2 _ p hp
    · obtain ⟨p', _, rfl⟩ := List.mem_map.mp hp
      obtain ⟨q', _, rfl⟩ := List.mem_map.mp hq
      exact .lt (by omega)
  | qu w x k a ih => exact List.pairwise_cons.mpr ⟨lo 3 _, up 3 _ ih⟩
abbrev tD (p : List Int) : PyData := .tuple (p.map .int)
theorem lex2 (x y : Int) (r t : List (Int ⊕ List Nat)) : PyProof.Rows.lexLt PyProof.Rows.itemOrd (.inl x :: r) (.inl y :: t) = (decide (x < y) || (!decide (y < x) && PyProof.Rows.lexLt PyProof.Rows.itemOrd r t)) := PyProof.Rows.lex_cons (O := PyProof.Rows.itemOrd) (.inl x) (.inl y) r t
theorem toks_lt {a b : List Int} (h : LTp a b) : PyProof.Rows.lexLt PyProof.Rows.itemOrd (PySem.W.keyToksAll (b.map .int)) (PySem.W.keyToksAll (a.map .int)) = false := by
  have c1 : ∀ (x : Int) (r : List Int), PySem.W.keyToksAll ((x :: r).map .int) = .inl 1 :: .inl x :: PySem.W.keyToksAll (r.map .int) := fun x r => by simp [PySem.W.keyToksAll, PySem.W.keyToks]
  have c0 : PySem.W.keyToksAll (([] : List Int).map .int) = [.inl 0] := by simp [PySem.W.keyToksAll]
  induction h with
  | @nil x r => rw [c1, c0, lex2]; simp
  | @lt x y r t hxy =>
    have h1 : decide (y < x) = false := decide_eq_false (by omega)
    have h2 : decide (x < y) = true := decide_eq_true hxy
    rw [c1, c1, lex2, lex2, h1, h2]; simp
  | @eq x r t _ ih => rw [c1, c1, lex2, lex2, ih]; simp
theorem srt_ps (g : Sg) : srt (g.ps.map tD) = g.ps.map tD := by
  unfold srt
  refine List.mergeSort_of_pairwise (List.pairwise_map.mpr ((ps_pair g).imp fun {a b} h => ?_))
  have := toks_lt h
  show (!PyProof.Rows.lexLt PyProof.Rows.itemOrd (PySem.W.keyToks (tD b)) (PySem.W.keyToks (tD a))) = true
  simp only [PySem.W.keyToks]
  rw [this]
  rfl
theorem alike_ints : ∀ a b : List Int, PySem.W.alikeAll (a.map .int) (b.map .int) = true
  | [], _ => by cases ‹List Int› <;> rfl
  | _ :: _, [] => rfl
  | x :: r, y :: t => by simp [PySem.W.alikeAll, PySem.W.alike, alike_ints r t]
theorem fine_t (p : List Int) (h : p.length ≤ 1000) : Fine 1 (tD p) := .tuple (by simp; omega) fun d hd => by
  obtain ⟨i, _, rfl⟩ := List.mem_map.mp hd
  exact .int
theorem sort_ok (g : Sg) (hd : g.dp ≤ 1000) : sortP [.list (g.ps.map tD)] = some (.fresh, .list (g.ps.map tD)) := by
  have h1 : alikes (g.ps.map tD) = true := by
    unfold alikes
    rw [List.all_eq_true]
    intro a ha
    rw [List.all_eq_true]
    intro b hb
    obtain ⟨p, _, rfl⟩ := List.mem_map.mp ha
    obtain ⟨q, _, rfl⟩ := List.mem_map.mp hb
    simp only [PySem.W.alike]
    exact alike_ints p q
  have h2 : sortsOk (g.ps.map tD) = true := by
    unfold sortsOk
    obtain ⟨r, hr⟩ : ∃ r, g.ps = [] :: r := by cases g <;> exact ⟨_, rfl⟩
    rw [hr]
    simp [tD, isTup]
  have h3 : (g.ps.map tD).all (fun d => decide (d.depth ≤ DEEP)) = true := by
    rw [List.all_eq_true]
    intro a ha
    obtain ⟨p, hp, rfl⟩ := List.mem_map.mp ha
    have := (fine_t p (by have := (ps_small g p hp).1; omega)).depth
    exact decide_eq_true (by simp only [DEEP]; omega)
  show (if (alikes _ && sortsOk _ && _) = true then some (Tg.fresh, PyData.list (srt _)) else none) = _
  rw [h1, h2, h3, srt_ps]
  rfl
end K30
set_option Elab.async false
set_option linter.all false
set_option maxRecDepth 100000
set_option maxHeartbeats 4000000
namespace K30
open PySem PP
/-! ## what is shown of places -/
theorem i30 : (List.range 81).all (fun n => decide ((Str.ofString (toString ((n : Int) - 40))).length ≤ 3)) = true := by decide +kernel
theorem shown_int {i : Int} (h : -40 ≤ i ∧ i ≤ 40) : (PyData.int i).shown.length ≤ 3 := by
  have := List.all_eq_true.mp i30 (i + 40).toNat (List.mem_range.mpr (by omega))
  have e : (((i + 40).toNat : Nat) : Int) - 40 = i := by omega
  rw [e] at this
  exact of_decide_eq_true this
theorem tuple_len (m : Nat) (ts : List Str) (h : ∀ t ∈ ts, t.length ≤ m) : (tupleText ts).length ≤ 3 + ts.length * (m + 2) := by
  have hp : ∀ ts : List Str, (∀ t ∈ ts, t.length ≤ m) → piled ts ≤ ts.length * (m + 2) := by
    intro ts h
    induction ts with
    | nil => simp [piled]
    | cons t r ih =>
      have h1 := h t (List.mem_cons_self ..)
      have h2 := ih fun x hx => h x (List.mem_cons_of_mem _ hx)
      simp only [piled, List.map_cons, List.sum_cons, List.length_cons] at *
      rw [Nat.add_mul]
      omega
  have hj : (Str.join ", " ts).length ≤ ts.length * (m + 2) := by
    by_cases hn : ts = []
    · subst hn; simp [Str.join]; decide +kernel
    · have := join_length_add ts hn
      have := hp ts h
      omega
  unfold tupleText
  rw [strLen_append, strLen_append]
  have l1 : (Str.ofString "(").length = 1 := by decide +kernel
  have l2 : (Str.ofString ",)").length = 2 := by decide +kernel
  have l3 : (Str.ofString ")").length = 1 := by decide +kernel
  split <;> simp only [l1, l2, l3] <;> omega
theorem repr_t {p : List Int} (h : ∀ i ∈ p, -40 ≤ i ∧ i ≤ 40) (hl : p.length ≤ 1000) : reprOk (tD p) = true := by
  have sa : ∀ p : List Int, PyData.shownAll (p.map .int) = p.map fun i => (PyData.int i).shown := by
    intro p
    induction p with
    | nil => rfl
    | cons i r ih => simp [PyData.shownAll, ih]
  have sh : PyData.showableAll (p.map .int) = true := by
    clear hl sa
    induction p with
    | nil => rfl
    | cons i r ih =>
      simp only [List.map_cons, PyData.showableAll, PyData.showable, Bool.and_eq_true, decide_eq_true_eq]
      refine ⟨?_, ih fun x hx => h x (List.mem_cons_of_mem _ hx)⟩
      have h1 := h i (List.mem_cons_self ..)
      have : LG 10 i := .of_lt (by omega)
      unfold LG at this
      omega
  have hd : PyData.hasDictAll (p.map .int) = false := by
    clear h hl sa sh
    induction p with
    | nil => rfl
    | cons i r ih => simp [PyData.hasDictAll, PyData.hasDict, ih]
  have ln : (tD p).shown.length ≤ LIM := by
    have := tuple_len 3 (p.map fun i => (PyData.int i).shown) (by
      intro t ht
      obtain ⟨i, hi, rfl⟩ := List.mem_map.mp ht
      exact shown_int (h i hi))
    simp only [PyData.shown, sa, List.length_map, LIM_eq] at *
    omega
  have dp := (fine_t p hl).depth
  unfold reprOk
  simp only [PyData.showable, PyData.hasDict, sh, hd, Bool.true_and, Bool.not_false, Bool.true_or, Bool.and_true, Bool.and_eq_true, decide_eq_true_eq]
  exact ⟨by simp only [DEEP]; omega, ln⟩
theorem reprP_of {d : PyData} (h : reprOk d = true) : reprP [d] = some (.pure, .str d.shown) := if_pos h
/-! ## what is caught -/
def errIx (c : Str) (i : Int) : Prop := (c = "InvalidSaying" ∧ i = 0) ∨ (c = "InvalidLiterals" ∧ i = 1) ∨ (c = "InvalidList" ∧ i = 2)
theorem enum3 (a b c : PyData) : enumD [a, b, c] = [.tuple [.int 0, a], .tuple [.int 1, b], .tuple [.int 2, c]] := rfl
def caughtD (i : Int) (d : PyData) : PyData := .list [.list [.int i], .bool true, .str d.shown]
theorem caught_ok {f : String} {m id : Nat} {a b d : PyData} {c : Str} {i : Int} {S : SS} {n : Nat} (hf : f = "signs_of" ∧ id = 11 ∨ f = "part_at" ∧ id = 13) (hc : errIx c i) (hr : reprOk d = true)
    (e : sem n id [.py a, .py b] S = some (.exn c d S)) : sem (n + 1) 25 [.fn f, .py (.list [a, b])] S = some (.val .pure (.py (caughtD i d)) S) := by
  have r := reprP_of hr
  have m0 : errCs.contains "InvalidSaying" = true := by kernel_rfl
  have m1 : errCs.contains "InvalidLiterals" = true := by kernel_rfl
  have m2 : errCs.contains "InvalidList" = true := by kernel_rfl
  have m0 := List.contains_iff_mem.mp m0
  have m1 := List.contains_iff_mem.mp m1
  have m2 := List.contains_iff_mem.mp m2
  have l1 : ∀ L : Nat → FF, List.lookup (Str.ofString "signs_of") (fs__law_caught L) = some (2, L 11) := fun L => by kernel_rfl
  have l2 : ∀ L : Nat → FF, List.lookup (Str.ofString "part_at") (fs__law_caught L) = some (2, L 13) := fun L => by kernel_rfl
  have t00 : List.lookup (Str.ofString "InvalidSaying") isi_InvalidSaying = some true := by kernel_rfl
  have t01 : List.lookup (Str.ofString "InvalidLiterals") isi_InvalidSaying = some false := by kernel_rfl
  have t02 : List.lookup (Str.ofString "InvalidList") isi_InvalidSaying = some false := by kernel_rfl
  have t10 : List.lookup (Str.ofString "InvalidSaying") isi_InvalidLiterals = some false := by kernel_rfl
  have t11 : List.lookup (Str.ofString "InvalidLiterals") isi_InvalidLiterals = some true := by kernel_rfl
  have t12 : List.lookup (Str.ofString "InvalidList") isi_InvalidLiterals = some false := by kernel_rfl
  have t20 : List.lookup (Str.ofString "InvalidSaying") isi_InvalidList = some false := by kernel_rfl
  have t21 : List.lookup (Str.ofString "InvalidLiterals") isi_InvalidList = some false := by kernel_rfl
  have t22 : List.lookup (Str.ofString "InvalidList") isi_InvalidList = some true := by kernel_rfl
  have v0 : List.lookup (Str.ofString "InvalidSaying") isi_ValueError = some true := by kernel_rfl
  have v1 : List.lookup (Str.ofString "InvalidLiterals") isi_ValueError = some true := by kernel_rfl
  have v2 : List.lookup (Str.ofString "InvalidList") isi_ValueError = some true := by kernel_rfl
  rw [sem__law_caught, funF2]
  rcases hf with ⟨rfl, rfl⟩ | ⟨rfl, rfl⟩ <;> rcases hc with ⟨rfl, rfl⟩ | ⟨rfl, rfl⟩ | ⟨rfl, rfl⟩ <;>
    simp [b__law_caught, l1, l2, e, m0, m1, m2, t00, t01, t02, t10, t11, t12, t20, t21, t22, v0, v1, v2, enum3, lc_cons, r, caughtD, wipeSl]
end K30
set_option Elab.async false
set_option linter.all false
set_option maxRecDepth 100000
set_option maxHeartbeats 4000000
namespace K30
open PySem PP
/-! ## a saying judged -/
theorem kid_fine {g c : Sg} {i : Int} {j : Nat} (h : kid g i = some c) (f : Fine j g.d) : Fine j c.d := by
  have sub : ∀ {ds : List PyData} {x : PyData}, Fine j (.tuple ds) → x ∈ ds → Fine j x := fun {ds x} f hx => by
    cases f with
    | tuple _ h => exact (h x hx).mono (by omega)
  cases g with
  | leaf w r => cases h
  | neg a =>
    simp only [kid] at h
    split at h
    · cases h; exact sub f (by simp)
    · cases h
  | bin w a b =>
    simp only [kid] at h
    split at h
    · cases h; exact sub f (by simp)
    · split at h
      · cases h; exact sub f (by simp)
      · cases h
  | qu w x k a =>
    simp only [kid] at h
    split at h
    · cases h; exact sub f (by simp)
    · cases h
theorem at_fine {j : Nat} : ∀ (p : List Int) {g h : Sg}, at_ p g = some h → Fine j g.d → Fine j h.d
  | [], g, h, e, f => by cases e; exact f
  | i :: r, g, h, e, f => by
    unfold at_ at e
    cases hk : kid g i with
    | none => rw [hk] at e; cases e
    | some c => rw [hk] at e; exact at_fine r e (kid_fine hk f)
structure Good (k : Nat) (g : Sg) : Prop where
  ok : g.ok
  sy : SY k g.d
  kk : k ≤ 45
  fine : Fine 40 g.d
  dp : g.dp ≤ 8
  size : g.size ≤ 600
abbrev due (g : Sg) (b : Bool) : List PyData := out [] (g.sg (.bool b))
theorem sg_sgn (g : Sg) : ∀ s, SgnP s → ∀ q ∈ g.sg s, SgnP q.2 := by
  induction g with
  | leaf w r =>
    intro s hs q hq
    simp only [Sg.sg, List.mem_singleton] at hq
    subst hq
    exact hs
  | neg a ih =>
    intro s hs q hq
    simp only [Sg.sg, List.mem_cons, List.mem_map] at hq
    rcases hq with rfl | ⟨r, hr, rfl⟩
    · exact hs
    · exact ih _ (flip_sgn hs) r hr
  | bin w a b iha ihb =>
    intro s hs q hq
    simp only [Sg.sg, List.mem_cons, List.mem_append, List.mem_map] at hq
    rcases hq with rfl | ⟨r, hr, rfl⟩ | ⟨r, hr, rfl⟩
    · exact hs
    · exact iha _ (one_sgn hs) r hr
    · exact ihb _ (two_sgn hs) r hr
  | qu w x k a ih =>
    intro s hs q hq
    simp only [Sg.sg, List.mem_cons, List.mem_map] at hq
    rcases hq with rfl | ⟨r, hr, rfl⟩
    · exact hs
    · exact ih _ hs r hr
theorem sgn_fine {s : PyData} (h : SgnP s) {k : Nat} : Fine k s := by
  rcases h with rfl | ⟨b, rfl⟩
  · exact .none
  · exact .bool
theorem sg_place {g : Sg} {s : PyData} {q : List Int × PyData} (h : q ∈ g.sg s) : q.1 ∈ g.ps := by
  rw [← sg_fst g s]
  exact List.mem_map_of_mem h
theorem due_fine {k : Nat} {g : Sg} (G : Good k g) (b : Bool) : Fine 3 (.list (due g b)) := by
  have hz := G.size
  have hd := G.dp
  refine .list (by rw [out_len, Sg.sg_len]; simp; omega) fun d hd' => ?_
  obtain ⟨q, hq, rfl⟩ := List.mem_map.mp hd'
  refine .tuple (by simp) fun x hx => ?_
  simp only [List.mem_cons, List.not_mem_nil, or_false] at hx
  rcases hx with rfl | rfl
  · exact fine_t _ (by have := (ps_small g q.1 (sg_place hq)).1; simpa using by omega)
  · exact sgn_fine (sg_sgn g _ (.inr ⟨b, rfl⟩) q hq)
/-! ### the parts of what is told -/
theorem lc_place {sl : Sl} {S : SS} (h : 12 ≤ sl.length) (l : List (List Int × PyData)) (hl : l.length ≤ 1000) :
    lcLoop (gTp 2 (gsCons (gNm 6) (gsCons (gNm 11) gsNil))) fYes (fVar 6) sl (out [] l) [] S = some (l.map fun q => tD q.1, S) := by
  rw [lc_map (fun d => match d with | .tuple [a, _] => a | _ => .none) (out [] l) (fun d hd => by
    obtain ⟨q, _, rfl⟩ := List.mem_map.mp hd
    refine ⟨(sl.set 6 (.p (.py (tD q.1)))).set 11 (.p (.py q.2)), by simp, ?_⟩
    rw [ap_Var, List.getElem?_set_ne (by decide), List.getElem?_set_self (by omega)]
    rfl) (by rw [out_len]; simp; omega)]
  simp [out]
theorem lc_late {sl : Sl} {S : SS} (h : 12 ≤ sl.length) (p : List Int) (l : List (List Int × PyData)) (hl : l.length ≤ 1000) :
    lcLoop (gTp 2 (gsCons (gNm 6) (gsCons (gNm 11) gsNil))) fYes (fVar 11) sl (out p l) [] S = some (l.map fun q => q.2, S) := by
  rw [lc_map (fun d => match d with | .tuple [_, a] => a | _ => .none) (out p l) (fun d hd => by
    obtain ⟨q, _, rfl⟩ := List.mem_map.mp hd
    refine ⟨(sl.set 6 (.p (.py (tD (p ++ q.1))))).set 11 (.p (.py q.2)), rfl, ?_⟩
    rw [ap_Var, List.getElem?_set_self (by rw [List.length_set]; omega)]) (by rw [out_len]; simp; omega)]
  simp [out, Function.comp_def]
def r1 (L : Nat → FF) : FS := (fThen (fSet 3 (fCallF 3 (L 23) (faCons (fVar 1) (faCons (fVar 2) (faCons (fLit .pure (.tuple [])) faNil)))))
    (fThen (fSet 4 (fCallF 2 (L 11) (faCons (fVar 1) (faCons (fVar 2) faNil))))
    (fThen (fIfS (fLend 4 (fOrT (fNotT (fTb (fCallF 2 (L 19) (faCons (fFz (fSeq .list .fresh (faCons (fVar 4) (faCons (fFz (fCallK [1, 0] 2 2 (L 11) (faCons (fVar 2) (faCons (fVar 1) faNil)))) faNil)))) (faCons (fFz (fSeq .list .fresh (faCons (fVar 3) (faCons (fVar 3) faNil)))) faNil))))) (fTb (fBin neP (fLc (fiSeq (fVar 4)) (gTp 2 (gsCons (gNm 6) (gsCons (gNm 11) gsNil))) fYes (fVar 6) [6, 11]) (fCall sortP (faCons (fLc (fiSeq (fVar 4)) (gTp 2 (gsCons (gNm 6) (gsCons (gNm 11) gsNil))) fYes (fVar 6) [6, 11]) faNil)))))) (fThen (fRet (fC (.bool false)))
    fNil) fNil)
    (fThen (fIfS (fTb (fBin neP (fSl (fLc (fiSeq (fFz (fCallF 2 (L 11) (faCons (fSeq .tuple .pure (faCons (fC (.str "not")) (faCons (fVar 1) faNil))) (faCons (fVar 2) faNil))))) (gTp 2 (gsCons (gNm 6) (gsCons (gNm 11) gsNil))) fYes (fVar 11) [6, 11]) (foSome (fC (.int (1)))) foNone) (fLc (fiSeq (fFz (fCallF 2 (L 11) (faCons (fVar 1) (faCons (fNot (fVar 2)) faNil))))) (gTp 2 (gsCons (gNm 6) (gsCons (gNm 11) gsNil))) fYes (fVar 11) [6, 11]))) (fThen (fRet (fC (.bool false)))
    fNil) fNil)
    (fThen (fApp 4 (faCons (fC .none) faNil))
    fNil)))))
theorem pick10 {α : Type} {a b : α} : pick [1, 0] [a, b] = [b, a] := rfl
theorem neg_sy {k : Nat} {g : Sg} (G : Good k g) : SY (k + 3) (Sg.neg g).d := by
  have h := G.sy
  have := sy_mk (k := k + 1) (w := "not") (ds := [g.d]) ["saying"] (by kernel_rfl) (.cons (fit_saying h) .nil) (by simp) (by simp [PyData.plainAll, G.fine.plain])
  exact this
theorem r1_ok {k n : Nat} {g : Sg} (G : Good k g) (hn : 60 ≤ n) (b : Bool) {S : SS} (hb : boxInts S = true) {x0 x3 x4 x5 x6 x7 x8 x9 x10 x11 x12 : Slot} :
    ∃ y3 y4, r1 (sem n) [x0, .p (.py g.d), .p (.py (.bool b)), x3, x4, x5, x6, x7, x8, x9, x10, x11, x12] S = some (.nx [x0, .p (.py g.d), .p (.py (.bool b)), y3, y4, x5, x6, x7, x8, x9, x10, x11, x12] S) := by
  have kk := G.kk
  have hz := G.size
  have hd := G.dp
  have e1 := law_signs_ok g G.ok (.bool b) (.inr ⟨b, rfl⟩) [] n S (by omega) (by simp; omega) (by omega)
  have e2 : ∀ c : Bool, sem n 11 [.py g.d, .py (.bool c)] S = some (.val .fresh (.py (.list (due g c))) S) := fun c => signs_of_ok G.ok G.sy c n S (by omega) (by omega) (by omega) (by omega)
  have e3 : sem n 11 [.py (.tuple [.str "not", g.d]), .py (.bool b)] S = some (.val .fresh (.py (.list (due (.neg g) b))) S) := signs_of_ok (g := .neg g) G.ok (neg_sy G) b n S (by omega) (by simp [Sg.dp]; omega) (by simp [Sg.dp]; omega) (by simp [Sg.size]; omega)
  have f1 : Fine 4 (.list [.list (due g b), .list (due g b)]) := .list (by simp) fun d hd => by
    simp only [List.mem_cons, List.not_mem_nil, or_false] at hd
    rcases hd with rfl | rfl <;> exact due_fine G b
  have e4 := sameK f1 (by omega) n S (by omega)
  have len : (g.sg (.bool b)).length ≤ 1000 := by rw [Sg.sg_len]; omega
  have pl : (g.sg (.bool b)).map (fun q => tD q.1) = g.ps.map tD := by rw [← sg_fst g (.bool b), List.map_map]; rfl
  have so := sort_ok g (by omega)
  have fp : Fine 2 (.list (g.ps.map tD)) := .list (by rw [List.length_map, ← sg_fst g (.bool b), List.length_map, Sg.sg_len]; simp; omega) fun d hd' => by
    obtain ⟨p, hp, rfl⟩ := List.mem_map.mp hd'
    exact fine_t p (by have := (ps_small g p hp).1; omega)
  have n1 := neP_refl fp (by omega)
  refine ⟨.p (.py (.list (due g b))), .own (.list (due g b ++ [.none])), ?_⟩
  unfold r1
  refine then_nx (sl' := [x0, .p (.py g.d), .p (.py (.bool b)), .p (.py (.list (due g b))), x4, x5, x6, x7, x8, x9, x10, x11, x12]) (S' := S) ?_ (then_nx (sl' := [x0, .p (.py g.d), .p (.py (.bool b)), .p (.py (.list (due g b))), .own (.list (due g b)), x5, x6, x7, x8, x9, x10, x11, x12]) (S' := S) ?_
    (then_nx (sl' := [x0, .p (.py g.d), .p (.py (.bool b)), .p (.py (.list (due g b))), .own (.list (due g b)), x5, x6, x7, x8, x9, x10, x11, x12]) (S' := S) ?_ (then_nx (sl' := [x0, .p (.py g.d), .p (.py (.bool b)), .p (.py (.list (due g b))), .own (.list (due g b)), x5, x6, x7, x8, x9, x10, x11, x12]) (S' := S) ?_
    (then_nx (sl' := [x0, .p (.py g.d), .p (.py (.bool b)), .p (.py (.list (due g b))), .own (.list (due g b ++ [.none])), x5, x6, x7, x8, x9, x10, x11, x12]) (S' := S) ?_ rfl))))
  · simp at e1
    simp [e1]
  · simp [e2]
  · have lc := fun sl (h : 12 ≤ List.length sl) => lc_place (S := S) (sl := sl) h (g.sg (.bool b)) len
    simp [lockSl, e2, e4, pick10, hb, wipeSl, lc, pl, so, n1]
  · have lc := fun sl (h : 12 ≤ List.length sl) => lc_late (S := S) (sl := sl) h [] (g.sg (.bool !b)) (by rw [Sg.sg_len]; omega)
    have lc' := fun sl (h : 12 ≤ List.length sl) => lc_late (S := S) (sl := sl) h [] ((Sg.neg g).sg (.bool b)) (by rw [Sg.sg_len]; simp [Sg.size]; omega)
    have sg1 : ((Sg.neg g).sg (.bool b)).map (fun q => q.2) = .bool b :: (g.sg (.bool !b)).map (fun q => q.2) := by simp [Sg.sg, flip, Function.comp_def]
    have fl : Fine 1 (.list ((g.sg (.bool !b)).map fun q => q.2)) := .list (by rw [List.length_map, Sg.sg_len]; simp; omega) fun d hd' => by
      obtain ⟨q, hq, rfl⟩ := List.mem_map.mp hd'
      exact sgn_fine (sg_sgn g _ (.inr ⟨_, rfl⟩) q hq)
    have n2 := neP_refl fl (by omega)
    simp [e2, e3, wipeSl, lc, lc', sg1, slP, cut1, n2]
  · have : (due g b).length < 100000 := by rw [out_len, Sg.sg_len]; omega
    simp [this]
end K30
set_option Elab.async false
set_option linter.all false
set_option maxRecDepth 100000
set_option maxHeartbeats 4000000
namespace K30
open PySem PP
/-! ### lists from behind -/
/-! ### the places, one by one -/
def r2 (L : Nat → FF) : FS := (fThen (fSet 7 (fCallF 2 (L 24) (faCons (fVar 1) (faCons (fVar 6) faNil))))
    (fThen (fIfS (fNotT (fTb (fCallF 2 (L 19) (faCons (fFz (fSeq .list .fresh (faCons (fCallF 2 (L 13) (faCons (fVar 1) (faCons (fVar 6) faNil))) (faCons (fCallK [1, 0] 2 2 (L 13) (faCons (fVar 6) (faCons (fVar 1) faNil))) faNil)))) (faCons (fFz (fSeq .list .fresh (faCons (fVar 7) (faCons (fVar 7) faNil)))) faNil))))) (fThen (fRet (fC (.bool false)))
    fNil) fNil)
    fNil))
theorem r2_ok {k n : Nat} {g : Sg} (G : Good k g) (hn : 60 ≤ n) {S : SS} {p : List Int} (hp : p ∈ g.ps) {x0 x2 x3 x4 x5 x7 x8 x9 x10 x11 x12 : Slot} :
    ∃ y7, r2 (sem n) [x0, .p (.py g.d), x2, x3, x4, x5, .p (.py (tD p)), x7, x8, x9, x10, x11, x12] S = some (.nx [x0, .p (.py g.d), x2, x3, x4, x5, .p (.py (tD p)), y7, x8, x9, x10, x11, x12] S) := by
  have kk := G.kk
  obtain ⟨h, e⟩ := ps_at g p hp
  obtain ⟨m, rfl⟩ : ∃ m, n = m + 1 := ⟨n - 1, by omega⟩
  have e1 := law_part_ok e m S
  have e2 := part_at_ok G.ok G.sy e (m + 1) S (by omega)
  have f1 : Fine 41 (.list [h.d, h.d]) := .list (by simp) fun d hd => by
    simp only [List.mem_cons, List.not_mem_nil, or_false] at hd
    rcases hd with rfl | rfl <;> exact at_fine p e G.fine
  have e3 := sameK f1 (by omega) (m + 1) S (by omega)
  refine ⟨.p (.py h.d), ?_⟩
  simp [r2, e1, e2, e3, pick10]
/-! ### what is no place -/
def BAD (d : PyData) : Prop := (isTy .tuple d = false ∧ reprOk d = true) ∨ (∃ x, d = .tuple [x] ∧ (isTy .bool x || !isTy .int x) = true ∧ reprOk d = true) ∨ ∃ p : List Int, d = tD p ∧ p.length ≤ 100 ∧ ∀ i ∈ p, -40 ≤ i ∧ i ≤ 40
def r3 (L : Nat → FF) : FS := (fThen (fIfS (fAndT (fOrT (fNotT (fTb (fIsi .tuple (fVar 10)))) (fTb (fBin (inP true) (fCall reprP (faCons (fVar 10) faNil)) (fLc (fiSeq (fVar 5)) (gNm 6) fYes (fCall reprP (faCons (fVar 6) faNil)) [6])))) (fTb (fBin neP (fCallF 2 (L 25) (faCons (fFn "part_at") (faCons (fFz (fSeq .list .fresh (faCons (fVar 1) (faCons (fVar 10) faNil)))) faNil))) (fSeq .list .fresh (faCons (fFz (fLit .fresh (.list [.int (2)]))) (faCons (fC (.bool true)) (faCons (fCall reprP (faCons (fVar 10) faNil)) faNil))))))) (fThen (fRet (fC (.bool false)))
    fNil) fNil)
    fNil)
theorem caught_fine (i : Int) (d : PyData) : Fine 2 (caughtD i d) := .list (by simp) fun x hx => by
  simp only [List.mem_cons, List.not_mem_nil, or_false] at hx
  rcases hx with rfl | rfl | rfl
  · exact .list (by simp) fun y hy => by
      simp only [List.mem_cons, List.not_mem_nil, or_false] at hy
      subst hy
      exact .int
  · exact .bool
  · exact .str
theorem inOk_strs {s : Str} {ss : List Str} : inOk (.str s) (ss.map .str) = true := by
  unfold inOk
  rw [plainAll_of (by intro d hd; obtain ⟨j, _, rfl⟩ := List.mem_map.mp hd; rfl)]
  simp [PyData.plain, PyData.depth, DEEP]
theorem r3_ok {k n : Nat} {g : Sg} (G : Good k g) (hn : 60 ≤ n) {S : SS} {d : PyData} (hd : BAD d) {x0 x2 x3 x4 x6 x7 x8 x9 x11 x12 : Slot} :
    r3 (sem n) [x0, .p (.py g.d), x2, x3, x4, .p (.py (.list (g.ps.map tD))), x6, x7, x8, x9, .p (.py d), x11, x12] S = some (.nx [x0, .p (.py g.d), x2, x3, x4, .p (.py (.list (g.ps.map tD))), x6, x7, x8, x9, .p (.py d), x11, x12] S) := by
  have kk := G.kk
  have gd := G.dp
  obtain ⟨m, rfl⟩ : ∃ m, n = m + 2 := ⟨n - 2, by omega⟩
  have ro : reprOk d = true := by
    rcases hd with ⟨_, h⟩ | ⟨_, _, _, h⟩ | ⟨p, rfl, h1, h2⟩
    · exact h
    · exact h
    · exact repr_t h2 (by omega)
  have rd := reprP_of ro
  have lc : ∀ sl : Sl, 7 ≤ sl.length → lcLoop (gNm 6) fYes (fCall reprP (faCons (fVar 6) faNil)) sl (g.ps.map tD) [] S = some ((g.ps.map fun p => (tD p).shown).map .str, S) := by
    intro sl hsl
    rw [lc_map (fun d => .str d.shown) (g.ps.map tD) (fun x hx => by
      obtain ⟨p, hp, rfl⟩ := List.mem_map.mp hx
      obtain ⟨s1, s2⟩ := ps_small g p hp
      have r := reprP_of (repr_t (p := p) (fun i hi => by have := s2 i hi; omega) (by omega))
      refine ⟨sl.set 6 (.p (.py (tD p))), rfl, ?_⟩
      have v : fVar 6 (sl.set 6 (.p (.py (tD p)))) S = some (.val .pure (.py (tD p)) S) := by
        rw [ap_Var, List.getElem?_set_self (by omega)]
      simp only [ap_Call, ap_faCons, v, ap_faNil, conts_cons, conts_nil, cont_py, r]) (by
      rw [List.length_map, ← sg_fst g .none, List.length_map, Sg.sg_len]
      have := G.size
      simp only [LIM_eq]
      omega)]
    simp [Function.comp_def]
  have lcs := lc [x0, .p (.py g.d), x2, x3, x4, .p (.py (.list (g.ps.map tD))), .un, x7, x8, x9, .p (.py d), x11, x12] (by simp)
  have io := inP_list (neg := true) (inOk_strs (s := d.shown) (ss := g.ps.map fun p => (tD p).shown))
  -- the call
  have key : (∃ p, d = tD p ∧ p ∈ g.ps) ∨ sem (m + 2) 25 [.fn "part_at", .py (.list [g.d, d])] S = some (.val .pure (.py (caughtD 2 d)) S) := by
    have no : sem m 12 [.py g.d, .py d] S = some (.val .pure (.py (.bool false)) S) → sem (m + 2) 25 [.fn "part_at", .py (.list [g.d, d])] S = some (.val .pure (.py (caughtD 2 d)) S) := fun h =>
      caught_ok (m := 0) (n := m + 1) (.inr ⟨rfl, rfl⟩) (.inr (.inr ⟨rfl, rfl⟩)) ro (part_at_bad G.sy (m + 1) S (by omega) h)
    obtain ⟨j, rfl⟩ : ∃ j, m = j + 1 := ⟨m - 1, by omega⟩
    rcases hd with ⟨h, _⟩ | ⟨x, rfl, h, _⟩ | ⟨p, rfl, h1, h2⟩
    · exact .inr (no (is_place_not h j S))
    · exact .inr (no (is_place_odd h j S))
    · cases ha : (at_ p g).isSome with
      | true => exact .inl ⟨p, rfl, at_mem p g ha⟩
      | false =>
        have := is_place_ok G.ok p j S
        rw [ha] at this
        exact .inr (no this)
  generalize hR : (g.ps.map fun p => (tD p).shown).map PyData.str = R at lcs io
  rcases key with ⟨p, rfl, hp⟩ | e
  · have an : R.any (fun y => PyData.eqv y (.str (tD p).shown)) = true := by
      rw [← hR, List.any_eq_true]
      exact ⟨.str (tD p).shown, List.mem_map.mpr ⟨_, List.mem_map.mpr ⟨p, hp, rfl⟩, rfl⟩, by simp [PyData.eqv]⟩
    rw [an] at io
    have ht : isTy .tuple (tD p) = true := rfl
    simp only [r3, ap_Then, ap_IfS, ap_AndT, ap_OrT, ap_NotT, ap_Tb, ap_Isi, ap_VarS, ap_Var0, bindE_val, cont_py, ht, tE_b, tN_b, tOr_b, ap_Bin, ap_Call, ap_faCons, ap_faNil, conts_cons, conts_nil, rd, ap_Lc, ap_iSeq, wipeSl, List.set_cons_succ, List.set_cons_zero, lcs, io]
    simp
  · have ne := neP_refl (caught_fine 2 d) (by omega)
    unfold caughtD at ne e
    cases ht : isTy .tuple d with
    | false => simp [r3, ht, e, rd, ne]
    | true => simp [r3, ht, e, rd, ne, wipeSl, lcs, io]
end K30
set_option Elab.async false
set_option linter.all false
set_option maxRecDepth 100000
set_option maxHeartbeats 4000000
namespace K30
open PySem PP
theorem for_r2 {k n : Nat} {g : Sg} (G : Good k g) (hn : 60 ≤ n) {S : SS} {x0 x2 x3 x4 x5 x8 x9 x10 x11 x12 : Slot} : ∀ (ps : List (List Int)) (x6 x7 : Slot), (∀ p ∈ ps, p ∈ g.ps) →
    ∃ y6 y7, forLoop (gNm 6) (r2 (sem n)) (ps.map tD) [x0, .p (.py g.d), x2, x3, x4, x5, x6, x7, x8, x9, x10, x11, x12] S = some (.nx [x0, .p (.py g.d), x2, x3, x4, x5, y6, y7, x8, x9, x10, x11, x12] S)
  | [], x6, x7, _ => ⟨x6, x7, rfl⟩
  | p :: ps, x6, x7, h => by
    obtain ⟨y7, e⟩ := r2_ok G hn (S := S) (h p (List.mem_cons_self ..)) (x0 := x0) (x2 := x2) (x3 := x3) (x4 := x4) (x5 := x5) (x7 := x7) (x8 := x8) (x9 := x9) (x10 := x10) (x11 := x11) (x12 := x12)
    obtain ⟨y6', y7', e2⟩ := for_r2 G hn (S := S) (x0 := x0) (x2 := x2) (x3 := x3) (x4 := x4) (x5 := x5) (x8 := x8) (x9 := x9) (x10 := x10) (x11 := x11) (x12 := x12) ps (.p (.py (tD p))) y7 fun q hq => h q (List.mem_cons_of_mem _ hq)
    refine ⟨y6', y7', ?_⟩
    rw [List.map_cons, for_cons]
    simp only [ap_Nm, List.set_cons_succ, List.set_cons_zero]
    rw [e]
    exact e2
theorem for_r3 {k n : Nat} {g : Sg} (G : Good k g) (hn : 60 ≤ n) {S : SS} {x0 x2 x3 x4 x6 x7 x8 x9 x11 x12 : Slot} : ∀ (ds : List PyData) (x10 : Slot), (∀ d ∈ ds, BAD d) →
    ∃ y10, forLoop (gNm 10) (r3 (sem n)) ds [x0, .p (.py g.d), x2, x3, x4, .p (.py (.list (g.ps.map tD))), x6, x7, x8, x9, x10, x11, x12] S = some (.nx [x0, .p (.py g.d), x2, x3, x4, .p (.py (.list (g.ps.map tD))), x6, x7, x8, x9, y10, x11, x12] S)
  | [], x10, _ => ⟨x10, rfl⟩
  | d :: ds, x10, h => by
    have e := r3_ok G hn (S := S) (h d (List.mem_cons_self ..)) (x0 := x0) (x2 := x2) (x3 := x3) (x4 := x4) (x6 := x6) (x7 := x7) (x8 := x8) (x9 := x9) (x11 := x11) (x12 := x12)
    obtain ⟨y10, e2⟩ := for_r3 G hn (S := S) (x0 := x0) (x2 := x2) (x3 := x3) (x4 := x4) (x6 := x6) (x7 := x7) (x8 := x8) (x9 := x9) (x11 := x11) (x12 := x12) ds (.p (.py d)) fun q hq => h q (List.mem_cons_of_mem _ hq)
    refine ⟨y10, ?_⟩
    rw [for_cons]
    simp only [ap_Nm, List.set_cons_succ, List.set_cons_zero]
    rw [e]
    exact e2
def bads (last : List Int) : List PyData := [.none, .int 1, .str "1", .list [], .list [.int 1], .dict [], tD [0], tD [7], tD [-1], .tuple [.none], .tuple [.str "1"], .tuple [.tuple [.int 1]], tD (last ++ [0]), tD (last ++ [1]), tD (last ++ [3]), tD [4]]
theorem bads_ok {last : List Int} (h1 : last.length ≤ 50) (h2 : ∀ i ∈ last, -30 ≤ i ∧ i ≤ 30) : ∀ d ∈ bads last, BAD d := by
  have tp : ∀ i : Int, -40 ≤ i ∧ i ≤ 40 → BAD (tD (last ++ [i])) := fun i hi => .inr (.inr ⟨_, rfl, by simp; omega, fun j hj => by
    rcases List.mem_append.mp hj with hj | hj
    · have := h2 j hj; omega
    · rw [List.mem_singleton] at hj; subst hj; exact hi⟩)
  have t1 : ∀ i : Int, -40 ≤ i ∧ i ≤ 40 → BAD (tD [i]) := fun i hi => .inr (.inr ⟨_, rfl, by simp, fun j hj => by
    rw [List.mem_singleton] at hj; subst hj; exact hi⟩)
  intro d hd
  simp only [bads, List.mem_cons, List.not_mem_nil, or_false] at hd
  rcases hd with rfl | rfl | rfl | rfl | rfl | rfl | rfl | rfl | rfl | rfl | rfl | rfl | rfl | rfl | rfl | rfl
  · exact .inl ⟨rfl, by decide +kernel⟩
  · exact .inl ⟨rfl, by decide +kernel⟩
  · exact .inl ⟨rfl, by decide +kernel⟩
  · exact .inl ⟨rfl, by decide +kernel⟩
  · exact .inl ⟨rfl, by decide +kernel⟩
  · exact .inl ⟨rfl, by decide +kernel⟩
  · exact t1 0 (by omega)
  · exact t1 7 (by omega)
  · exact t1 (-1) (by omega)
  · exact .inr (.inl ⟨_, rfl, rfl, by decide +kernel⟩)
  · exact .inr (.inl ⟨_, rfl, rfl, by decide +kernel⟩)
  · exact .inr (.inl ⟨_, rfl, rfl, by decide +kernel⟩)
  · exact tp 0 (by omega)
  · exact tp 1 (by omega)
  · exact tp 3 (by omega)
  · exact t1 4 (by omega)
/-! ### a place with its last step bent -/
def nineD : PyData → PyData
  | .tuple xs => .tuple (xs.dropLast ++ [match xs.getLast? with | some (.int i) => .int (i + 9) | _ => .none])
  | _ => .none
theorem nine_eq {p : List Int} (h : p ≠ []) : nineD (tD p) = tD (p.dropLast ++ [p.getLast h + 9]) := by
  simp only [nineD, tD, List.map_append, List.map_dropLast]
  congr 2
  rw [List.getLast?_map, List.getLast?_eq_getLast h]
  rfl
theorem tail_ne {g : Sg} {p : List Int} (h : p ∈ g.ps.tail) : p ≠ [] ∧ p ∈ g.ps := by
  have hp := ps_pair g
  obtain ⟨r, hr⟩ : ∃ r, g.ps = [] :: r := by cases g <;> exact ⟨_, rfl⟩
  rw [hr] at h hp ⊢
  rw [List.tail_cons] at h
  refine ⟨?_, List.mem_cons_of_mem _ h⟩
  have := (List.pairwise_cons.mp hp).1 p h
  cases this
  simp
theorem nine_bad {g : Sg} (hd : g.dp ≤ 8) : ∀ d ∈ (g.ps.tail.map tD).map nineD, BAD d := by
  intro d hd'
  obtain ⟨x, hx, rfl⟩ := List.mem_map.mp hd'
  obtain ⟨p, hp, rfl⟩ := List.mem_map.mp hx
  obtain ⟨hn, hm⟩ := tail_ne hp
  obtain ⟨s1, s2⟩ := ps_small g p hm
  rw [nine_eq hn]
  refine .inr (.inr ⟨_, rfl, by simp; omega, fun i hi => ?_⟩)
  rcases List.mem_append.mp hi with hi | hi
  · have := s2 i ((List.dropLast_sublist p).subset hi); omega
  · rw [List.mem_singleton] at hi
    subst hi
    have := s2 _ (List.getLast_mem hn)
    omega
def nf : FE := (fFz (fBin addP (fSl (fVar 6) foNone (foSome (fLit .pure (.int (-1))))) (fSeq .tuple .pure (faCons (fFz (fBin addP (fIx (fVar 6) (fLit .pure (.int (-1)))) (fC (.int (9))))) faNil))))
theorem nf_ok {g : Sg} (hd : g.dp ≤ 8) {p : List Int} (hp : p ∈ g.ps.tail) {sl : Sl} (hs : 7 ≤ sl.length) {S : SS} : nf (sl.set 6 (.p (.py (tD p)))) S = some (.val .pure (.py (nineD (tD p))) S) := by
  obtain ⟨hn, hm⟩ := tail_ne hp
  obtain ⟨s1, s2⟩ := ps_small g p hm
  have v : fVar 6 (sl.set 6 (.p (.py (tD p)))) S = some (.val .pure (.py (tD p)) S) := by
    rw [ap_Var, List.getElem?_set_self (by omega)]
  have hn' : p.map PyData.int ≠ [] := by simpa using hn
  have e1 : ixP (tD p) (.int (-1)) = some (.int (p.getLast hn)) := by
    rw [tD, ixP_tlast hn', List.getLast_map]
  have e2 : slP (tD p) none (some (-1)) = some (.pure, .tuple ((p.map .int).dropLast)) := by
    show some (Tg.pure, PyData.tuple (cutD _ none (some (-1)))) = _
    rw [cut_init]
  have e3 : addP (.tuple ((p.map PyData.int).dropLast)) (.tuple [.int (p.getLast hn + 9)]) = some (.pure, .tuple ((p.map PyData.int).dropLast ++ [.int (p.getLast hn + 9)])) := addP_t (by simp; omega)
  rw [nine_eq hn]
  unfold nf
  simp only [ap_Fz, ap_Bin, ap_Sl, v, bindE_val, ap_oNone, ap_oSome, ap_Lit, cont_py, e2, ap_Seq, ap_faCons, ap_faNil, ap_Ix, e1, Option.map_some, ap_C, addP_int, pys_cons, pys_nil, List.length_cons, List.length_nil, LIM_eq]
  simp [e3, tD]
end K30
set_option Elab.async false
set_option linter.all false
set_option maxRecDepth 100000
set_option maxHeartbeats 4000000
namespace K30
open PySem PP
theorem inOk_places {g : Sg} (hd : g.dp ≤ 8) : inOk (tD [1]) (g.ps.map tD) = true := by
  have f : ∀ d ∈ g.ps.map tD, Fine 1 d := fun d hd' => by
    obtain ⟨p, hp, rfl⟩ := List.mem_map.mp hd'
    exact fine_t p (by have := (ps_small g p hp).1; omega)
  unfold inOk
  rw [plainAll_of fun d hd' => (f d hd').plain, (fine_t [1] (by simp)).plain]
  have := depthAll_of fun d hd' => (f d hd').depth
  simp only [Bool.true_and, decide_eq_true_eq, DEEP]
  omega
def odds : List PyData := [.none, .int 0, .int 1, .str "True", .list [], .tuple []]
theorem odds_ok : ∀ d ∈ odds, isTy .bool d = false ∧ reprOk d = true := by
  intro d hd
  simp only [odds, List.mem_cons, List.not_mem_nil, or_false] at hd
  rcases hd with rfl | rfl | rfl | rfl | rfl | rfl <;> exact ⟨rfl, by decide +kernel⟩
theorem right_ok {k n : Nat} {g : Sg} (G : Good k g) (hn : 60 ≤ n) (j : Nat) {S : SS} (hb : boxInts S = true) : sem (n + 1) 26 [.box j, .py g.d] S = some (.val .pure (.py (.bool true)) S) := by
  have kk := G.kk
  have gd := G.dp
  have gz := G.size
  have plen : g.ps.length ≤ 600 := by rw [← sg_fst g .none, List.length_map, Sg.sg_len]; exact gz
  rw [sem__law_right, funF2]
  unfold b__law_right
  let x0 : Slot := .p (.box j)
  let xs : Slot := .p (.py g.d)
  -- for sign in [True, False]
  obtain ⟨y3, y4, a1⟩ := r1_ok G hn true hb (x0 := x0) (x3 := .un) (x4 := .un) (x5 := .un) (x6 := .un) (x7 := .un) (x8 := .un) (x9 := .un) (x10 := .un) (x11 := .un) (x12 := .un)
  obtain ⟨z3, z4, a2⟩ := r1_ok G hn false hb (x0 := x0) (x3 := y3) (x4 := y4) (x5 := .un) (x6 := .un) (x7 := .un) (x8 := .un) (x9 := .un) (x10 := .un) (x11 := .un) (x12 := .un)
  have l1 : forLoop (gNm 2) (r1 (sem n)) [.bool true, .bool false] [x0, xs, .un, .un, .un, .un, .un, .un, .un, .un, .un, .un, .un] S = some (.nx [x0, xs, .p (.py (.bool false)), z3, z4, .un, .un, .un, .un, .un, .un, .un, .un] S) := by
    rw [for_cons]
    simp only [ap_Nm, List.set_cons_succ, List.set_cons_zero]
    rw [a1]
    dsimp only
    rw [for_cons]
    simp only [ap_Nm, List.set_cons_succ, List.set_cons_zero]
    rw [a2]
    rfl
  -- places
  have e1 := law_signs_ok g G.ok (.bool true) (.inr ⟨true, rfl⟩) [] n S (by omega) (by simp; omega) (by omega)
  simp only [List.map_nil] at e1
  have lc := fun sl (h : 12 ≤ List.length sl) => lc_place (S := S) (sl := sl) h (g.sg (.bool true)) (by rw [Sg.sg_len]; omega)
  have pl : (g.sg (.bool true)).map (fun q => tD q.1) = g.ps.map tD := by rw [← sg_fst g (.bool true), List.map_map]; rfl
  simp only [pl] at lc
  let P : Slot := .p (.py (.list (g.ps.map tD)))
  obtain ⟨y6, y7, l2⟩ := for_r2 G hn (S := S) (x0 := x0) (x2 := .p (.py (.bool false))) (x3 := z3) (x4 := z4) (x5 := P) (x8 := .un) (x9 := .un) (x10 := .un) (x11 := .un) (x12 := .un) g.ps .un .un fun p hp => hp
  have hne : g.ps ≠ [] := fun e => by have := ps_nil g; rw [e] at this; cases this
  have hne' : g.ps.map tD ≠ [] := by simpa using hne
  let last := g.ps.getLast hne
  have hl := List.getLast_mem hne
  obtain ⟨s1, s2⟩ := ps_small g last hl
  have il : ixP (.list (g.ps.map tD)) (.int (-1)) = some (tD last) := by rw [ixP_llast hne', List.getLast_map]
  have i0 : ixP (.list (g.ps.map tD)) (.int 0) = some (tD []) := by
    obtain ⟨r, hr⟩ : ∃ r, g.ps = [] :: r := by cases g <;> exact ⟨_, rfl⟩
    rw [hr, List.map_cons, ixP_l0]
  have ad : ∀ i : Int, addP (tD last) (.tuple [.int i]) = some (.pure, tD (last ++ [i])) := fun i => by
    rw [addP_t (by simp; omega)]; simp [tD]
  have a4 : addP (tD []) (.tuple [.int 4]) = some (.pure, tD [4]) := rfl
  -- the bent places
  have cut : slP (.list (g.ps.map tD)) (some 1) none = some (.fresh, .list (g.ps.tail.map tD)) := by
    obtain ⟨r, hr⟩ : ∃ r, g.ps = [] :: r := by cases g <;> exact ⟨_, rfl⟩
    rw [hr]
    show some (Tg.fresh, PyData.list (cutD _ _ _)) = _
    rw [List.map_cons, cut1]; rfl
  have ln : ∀ sl : Sl, 7 ≤ sl.length → lcLoop (gNm 6) fYes nf sl (g.ps.tail.map tD) [] S = some ((g.ps.tail.map tD).map nineD, S) := fun sl hsl =>
    lc_map nineD _ (fun x hx => by
      obtain ⟨p, hp, rfl⟩ := List.mem_map.mp hx
      exact ⟨_, rfl, nf_ok gd hp hsl⟩) (by simp; omega)
  let X : List PyData := if (g.ps.map tD).any (fun y => PyData.eqv y (tD [1])) = true then [.tuple [.bool true]] else []
  have hX : X.length ≤ 1 := by show (if _ then _ else _ : List PyData).length ≤ 1; split <;> simp
  have bX : ∀ d ∈ X, BAD d := fun d hd => by
    have : d = .tuple [.bool true] := by
      have hd' : d ∈ (if (g.ps.map tD).any (fun y => PyData.eqv y (tD [1])) = true then [PyData.tuple [.bool true]] else []) := hd
      split at hd'
      · simpa using hd'
      · cases hd'
    subst this
    exact .inr (.inl ⟨_, rfl, rfl, by decide +kernel⟩)
  obtain ⟨y10, l3⟩ := for_r3 G hn (S := S) (x0 := x0) (x2 := .p (.py (.bool false))) (x3 := z3) (x4 := z4) (x6 := y6) (x7 := y7) (x8 := .p (.py (tD last))) (x9 := .p (.py (.list (bads last)))) (x11 := .un) (x12 := .un) (bads last ++ X ++ (g.ps.tail.map tD).map nineD) .un (fun d hd => by
    rcases List.mem_append.mp hd with hd | hd
    · rcases List.mem_append.mp hd with hd | hd
      · exact bads_ok (by omega) (fun i hi => by have := s2 i hi; omega) d hd
      · exact bX d hd
    · exact nine_bad gd d hd)
  have io := inP_list (neg := false) (inOk_places gd)
  have ap1 : addP (.list (bads last)) (.list X) = some (.fresh, .list (bads last ++ X)) := addP_l (by simp [bads]; omega)
  have ap2 : addP (.list (bads last ++ X)) (.list ((g.ps.tail.map tD).map nineD)) = some (.fresh, .list (bads last ++ X ++ (g.ps.tail.map tD).map nineD)) := addP_l (by simp [bads]; omega)
  -- the last row
  have lo : ∀ sl : Sl, 13 ≤ sl.length → sl[1]? = some xs → lcLoop (gNm 12) (fTb (fBin neP (fCallF 2 (sem n 25) (faCons (fFn "signs_of") (faCons (fFz (fSeq .list .fresh (faCons (fVar 1) (faCons (fVar 12) faNil)))) faNil))) (fSeq .list .fresh (faCons (fFz (fLit .fresh (.list [.int (1)]))) (faCons (fC (.bool true)) (faCons (fCall reprP (faCons (fVar 12) faNil)) faNil)))))) (fVar 12) sl odds [] S = some ([], S) := by
    intro sl hsl h1
    rw [lc_pure (fun _ => false) (fun d => d) odds [] (fun d hd => by
      obtain ⟨o1, o2⟩ := odds_ok d hd
      refine ⟨sl.set 12 (.p (.py d)), rfl, ?_, fun z => by cases z⟩
      have v12 : fVar 12 (sl.set 12 (.p (.py d))) S = some (.val .pure (.py d) S) := by
        rw [ap_Var, List.getElem?_set_self (by omega)]
      have v1 : fVar 1 (sl.set 12 (.p (.py d))) S = some (.val .pure (.py g.d) S) := by
        rw [ap_Var, List.getElem?_set_ne (by decide), h1]
      obtain ⟨m, rfl⟩ : ∃ m, n = m + 1 := ⟨n - 1, by omega⟩
      have ec := caught_ok (m := 0) (n := m) (a := g.d) (b := d) (S := S) (.inl ⟨rfl, rfl⟩) (.inr (.inl ⟨rfl, rfl⟩)) o2 (signs_of_bad G.sy o1 m S (by omega))
      have ne := neP_refl (caught_fine 1 d) (by omega)
      have rd := reprP_of o2
      unfold caughtD at ec ne
      simp [v12, v1, ec, ne, rd]) (by simp [odds])]
    simp
  have eq0 : eqP (.list []) (.list []) = some (.pure, .bool true) := eqP_refl (k := 1) (.list (by simp) fun d hd => nomatch hd) (by omega)
  refine (congrArg outF (then_nx (for_nx (ds := [.bool true, .bool false]) (S1 := S) (by simp) l1) (then_nx (sl' := [x0, xs, .p (.py (.bool false)), z3, z4, P, .un, .un, .un, .un, .un, .un, .un]) (S' := S) ?s2 (then_nx (for_nx (ds := g.ps.map tD) (S1 := S) (by simp [P]) l2) (then_nx (sl' := [x0, xs, .p (.py (.bool false)), z3, z4, P, y6, y7, .p (.py (tD last)), .un, .un, .un, .un]) (S' := S) ?s4
    (then_nx (sl' := [x0, xs, .p (.py (.bool false)), z3, z4, P, y6, y7, .p (.py (tD last)), .p (.py (.list (bads last))), .un, .un, .un]) (S' := S) ?s5 (then_nx (for_nx (ds := bads last ++ X ++ (g.ps.tail.map tD).map nineD) (S1 := S) ?s6 l3) (then_rt (t := .pure) (v := .py (.bool true)) (S' := S) ?s7)))))))).trans rfl
  case s2 => simp [e1, wipeSl, lc, lockSl, P, xs]
  case s4 => simp [P, xs, il]
  case s5 =>
    have a4' : addP (.tuple []) (.tuple [.int 4]) = some (.pure, .tuple [.int 4]) := rfl
    simp only [tD, List.map_append, List.map_cons, List.map_nil] at ad i0
    simp [ad, P, i0, a4', bads, tD]
  case s6 =>
    unfold nf at ln
    have io' : inP false (.tuple [.int 1]) (.list (g.ps.map tD)) = _ := io
    cases hany : (g.ps.map tD).any (fun y => PyData.eqv y (tD [1])) with
    | true =>
      have hXe : X = [.tuple [.bool true]] := if_pos hany
      rw [hany] at io'
      rw [hXe] at ap1 ap2 ⊢
      simp [-List.map_map, -List.map_tail, -List.append_assoc, P, xs, io', ap1, ap2, cut, wipeSl, ln]
    | false =>
      have hXe : X = [] := if_neg (by rw [hany]; decide)
      rw [hany] at io'
      rw [hXe] at ap1 ap2 ⊢
      simp [-List.map_map, -List.map_tail, -List.append_assoc, -List.append_nil, P, xs, io', ap1, ap2, cut, wipeSl, ln]
  case s7 =>
    have lo' := lo [x0, .p (.py g.d), .p (.py (.bool false)), z3, z4, .p (.py (.list (g.ps.map tD))), y6, y7, .p (.py (tD last)), .p (.py (.list (bads last))), y10, .un, .un] (by simp) rfl
    unfold odds at lo'
    simp [wipeSl, lo', eq0, P, xs]
end K30
set_option Elab.async false
set_option linter.all false
set_option maxRecDepth 100000
set_option maxHeartbeats 4000000
namespace K30
open PySem PP
/-! ## the drawn sayings -/
theorem eqP_S {a b : Str} : eqP (.str a) (.str b) = some (.pure, .bool (a == b)) := by
  rw [eqP_of (by unfold eqOk; simp [PyData.plain, PyData.depth, DEEP])]; simp [PyData.eqv]
theorem eqL0 {xs : List PyData} (h : PyData.plainAll xs = true) : eqP (.list xs) (.list []) = some (.pure, .bool xs.isEmpty) := by
  rw [eqP_of (by unfold eqOk; simp [PyData.plain, PyData.depth, PyData.plainAll, PyData.depthAll, DEEP, h])]
  cases xs <;> simp [PyData.eqv, PyData.eqvAll]
theorem neL0 {xs : List PyData} (h : PyData.plainAll xs = true) : neP (.list xs) (.list []) = some (.pure, .bool (!xs.isEmpty)) := by
  rw [neP_of (by unfold eqOk; simp [PyData.plain, PyData.depth, PyData.plainAll, PyData.depthAll, DEEP, h])]
  cases xs <;> simp [PyData.eqv, PyData.eqvAll]
structure NL (names : List PyData) : Prop where
  el : ∀ d ∈ names, ∃ (i : Nat) (kind : String), i < 10 ∧ d = .tuple [.str (xname i), .str (Str.ofString kind)] ∧ NM kind
  len : names.length ≤ 8
def TD (k j : Nat) (d : PyData) : Prop := TM k d ∧ Fine j d
theorem TD.mono {k j k' j' : Nat} {d : PyData} (h : TD k j d) (l : k ≤ k') (m : j ≤ j') : TD k' j' d := ⟨fun n hn => h.1 n (by omega), h.2.mono m⟩
theorem td_of {k j : Nat} {x : Str} (hx : NM x) {ts : List PyData} (hl : ts.length ≤ 1000) (h : ∀ t ∈ ts, TD k j t) : TD (max 4 (k + 1) + 2) (j + 2) (.tuple [.str "of", .str x, .tuple ts]) := by
  have f : Fine (j + 1) (.tuple ts) := .tuple (by simp; omega) fun d hd => (h d hd).2
  refine ⟨tm_mk (k := max 4 (k + 1)) (w := "of") ["name", "terms"] (by kernel_rfl) (.cons ((fit_name hx).mono (by omega)) (.cons ((fit_terms hl fun d hd => (h d hd).1).mono (by omega)) .nil)) (by simp) (by simp [PyData.plainAll, PyData.plain, f.plain]; have := f.plain; simpa [PyData.plain] using this), .tuple (by simp) fun d hd => ?_⟩
  simp only [List.mem_cons, List.not_mem_nil, or_false] at hd
  rcases hd with rfl | rfl | rfl
  · exact .str
  · exact .str
  · exact f
theorem td_var {i : Nat} (hi : i < 10) : TD 6 1 (.tuple [.str "var", .str (xname i)]) := by
  refine ⟨tm_mk (k := 4) (w := "var") ["name"] (by kernel_rfl) (.cons (fit_name (nm_x i hi)) .nil) (by simp) (by simp [PyData.plainAll, PyData.plain]), .tuple (by simp) fun d hd => ?_⟩
  simp only [List.mem_cons, List.not_mem_nil, or_false] at hd
  rcases hd with rfl | rfl <;> exact .str
theorem td_a : TD 6 3 (.tuple [.str "of", .str "a", .tuple []]) := (td_of (k := 0) (j := 1) nm_a (ts := []) (by simp) fun _ h => nomatch h).mono (by omega) (by omega)
theorem td_b : TD 6 3 (.tuple [.str "of", .str "b", .tuple []]) := (td_of (k := 0) (j := 1) nm_b (ts := []) (by simp) fun _ h => nomatch h).mono (by omega) (by omega)
theorem td_d : TD 6 3 (.tuple [.str "of", .str "d", .tuple []]) := (td_of (k := 0) (j := 1) nm_d (ts := []) (by simp) fun _ h => nomatch h).mono (by omega) (by omega)
theorem td_one {k j : Nat} {x : Str} (hx : NM x) {t : PyData} (hk : 4 ≤ k) (h : TD k j t) : TD (k + 3) (j + 2) (.tuple [.str "of", .str x, .tuple [t]]) :=
  (td_of hx (ts := [t]) (by simp) fun d hd => by rw [List.mem_singleton] at hd; subst hd; exact h).mono (by omega) (by omega)
def knownD (kind : Str) (names : List PyData) : List PyData := (names.filter fun d => match d with | .tuple [_, .str s] => s == kind | _ => false).map fun d => match d with | .tuple [a, _] => .tuple [.str "var", a] | _ => .none
theorem known_lc {names : List PyData} (h : NL names) {kind : Str} {sl : Sl} (hs : 6 ≤ sl.length) (h2 : sl[2]? = some (.p (.py (.str kind)))) {S : SS} :
    lcLoop (gTp 2 (gsCons (gNm 4) (gsCons (gNm 5) gsNil))) (fTb (fBin eqP (fVar 5) (fVar 2))) (fSeq .tuple .pure (faCons (fC (.str "var")) (faCons (fVar 4) faNil))) sl names [] S = some (knownD kind names, S) := by
  rw [lc_pure (fun d => match d with | .tuple [_, .str s] => s == kind | _ => false) (fun d => match d with | .tuple [a, _] => .tuple [.str "var", a] | _ => .none) names [] (fun d hd => by
    obtain ⟨i, k, _, rfl, _⟩ := h.el d hd
    refine ⟨(sl.set 4 (.p (.py (.str (xname i))))).set 5 (.p (.py (.str (Str.ofString k)))), rfl, ?_, fun _ => ?_⟩
    · have v5 : fVar 5 ((sl.set 4 (.p (.py (.str (xname i))))).set 5 (.p (.py (.str (Str.ofString k))))) S = some (.val .pure (.py (.str (Str.ofString k))) S) := by
        rw [ap_Var, List.getElem?_set_self (by rw [List.length_set]; omega)]
      have v2 : fVar 2 ((sl.set 4 (.p (.py (.str (xname i))))).set 5 (.p (.py (.str (Str.ofString k))))) S = some (.val .pure (.py (.str kind)) S) := by
        rw [ap_Var, List.getElem?_set_ne (by decide), List.getElem?_set_ne (by decide), h2]
      simp [v5, v2, eqP_S]
    · have v4 : fVar 4 ((sl.set 4 (.p (.py (.str (xname i))))).set 5 (.p (.py (.str (Str.ofString k))))) S = some (.val .pure (.py (.str (xname i))) S) := by
        rw [ap_Var, List.getElem?_set_ne (by decide), List.getElem?_set_self (by omega)]
      simp [v4]) (by have := h.len; simp; omega)]
  rfl
theorem known_len {names : List PyData} (h : NL names) (kind : Str) : (knownD kind names).length ≤ 8 := by
  unfold knownD
  rw [List.length_map]
  exact Nat.le_trans (List.length_filter_le _ _) h.len
theorem known_td {names : List PyData} (h : NL names) (kind : Str) : ∀ d ∈ knownD kind names, TD 6 1 d := by
  intro d hd
  unfold knownD at hd
  obtain ⟨x, hx, rfl⟩ := List.mem_map.mp hd
  obtain ⟨i, k, hi, rfl, _⟩ := h.el x (List.mem_filter.mp hx).1
  exact td_var hi
/-- a thing of kind p -/
theorem thing_p (n : Nat) (k B : Nat) (names : List PyData) (S S0 : SS) (h : NL names) (hg : Gs k (B + 60) S0 S) : ∃ d S', sem (n + 4) 20 [.box k, .py (.list names), .py (.str "p")] S = some (.val .pure (.py d) S') ∧ TD 9 5 d ∧ Gs k B S0 S' := by
  rw [sem__law_named_thing, funF3]
  unfold b__law_named_thing
  have lc := known_lc h (kind := "p") (sl := [.p (.box k), .p (.py (.list names)), .p (.py (.str "p")), .un, .un, .un]) (by simp) rfl (S := S)
  have ktd := known_td h "p"
  have kpl : PyData.plainAll (knownD "p" names) = true := plainAll_of fun d hd => (ktd d hd).2.plain
  have kl := known_len h "p"
  generalize knownD "p" names = K at lc ktd kpl kl
  have s1 : ∀ r, outF (fThen (fLock 3 (fSet 3 (fLc (fiSeq (fVar 1)) (gTp 2 (gsCons (gNm 4) (gsCons (gNm 5) gsNil))) (fTb (fBin eqP (fVar 5) (fVar 2))) (fSeq .tuple .pure (faCons (fC (.str "var")) (faCons (fVar 4) faNil))) [4, 5]))) r
      ([.p (.box k), .p (.py (.list names)), .p (.py (.str "p")), .un, .un, .un]) S) = outF (r [.p (.box k), .p (.py (.list names)), .p (.py (.str "p")), .p (.py (.list K)), .un, .un] S) := fun r =>
    congrArg outF (then_nx (by simp [wipeSl, lc, lockSl]) rfl)
  refine Exists.imp (fun d => Exists.imp fun S' (h : outF _ = some (.val .pure (.py d) S') ∧ TD 9 5 d ∧ Gs k B S0 S') => ⟨(s1 _).trans h.1, h.2⟩) ?_
  have ne := neL0 kpl
  have eq := eqL0 kpl
  cases K with
  | nil =>
    -- no name of the kind
    obtain ⟨r, S1, e1, r0, r1, g1⟩ := randK (n + 1) k (B + 40) 2 S S0 (hg.mono (by omega)) (by decide) (by decide)
    by_cases hr : r = 0
    · subst hr
      exact ⟨_, S1, by simp [ne, e1], td_a.mono (by omega) (by omega), g1.mono (by omega)⟩
    · exact ⟨_, S1, by simp [ne, eq, e1, hr], td_one nm_f (by omega) td_b, g1.mono (by omega)⟩
  | cons a K =>
    obtain ⟨r, S1, e1, r0, r1, g1⟩ := randK (n + 1) k (B + 40) 3 S S0 (hg.mono (by omega)) (by decide) (by decide)
    by_cases hr : 0 < r
    · obtain ⟨x, S2, e2, hx, g2⟩ := pickK n k (B + 20) (a :: K) S1 S0 (g1.mono (by omega)) (by simp) (by omega)
      exact ⟨x, S2, by simp [ne, e1, hr, e2], (ktd x hx).mono (by omega) (by omega), g2.mono (by omega)⟩
    · obtain ⟨r', S2, e2, r0', r1', g2⟩ := randK (n + 1) k (B + 20) 2 S1 S0 (g1.mono (by omega)) (by decide) (by decide)
      by_cases hr' : r' = 0
      · subst hr'
        exact ⟨_, S2, by simp [ne, e1, hr, e2], td_a.mono (by omega) (by omega), g2.mono (by omega)⟩
      · exact ⟨_, S2, by simp [ne, eq, e1, hr, e2, hr'], (td_one nm_f (by omega) (ktd a (List.mem_cons_self ..))).mono (by omega) (by omega), g2.mono (by omega)⟩
/-- a thing of kind q -/
theorem thing_q (n : Nat) (k B : Nat) (names : List PyData) (S S0 : SS) (h : NL names) (hg : Gs k (B + 100) S0 S) : ∃ d S', sem (n + 5) 20 [.box k, .py (.list names), .py (.str "q")] S = some (.val .pure (.py d) S') ∧ TD 12 7 d ∧ Gs k B S0 S' := by
  rw [sem__law_named_thing, funF3]
  unfold b__law_named_thing
  have lc := known_lc h (kind := "q") (sl := [.p (.box k), .p (.py (.list names)), .p (.py (.str "q")), .un, .un, .un]) (by simp) rfl (S := S)
  have ktd := known_td h "q"
  have kpl : PyData.plainAll (knownD "q" names) = true := plainAll_of fun d hd => (ktd d hd).2.plain
  have kl := known_len h "q"
  generalize knownD "q" names = K at lc ktd kpl kl
  have s1 : ∀ r, outF (fThen (fLock 3 (fSet 3 (fLc (fiSeq (fVar 1)) (gTp 2 (gsCons (gNm 4) (gsCons (gNm 5) gsNil))) (fTb (fBin eqP (fVar 5) (fVar 2))) (fSeq .tuple .pure (faCons (fC (.str "var")) (faCons (fVar 4) faNil))) [4, 5]))) r
      ([.p (.box k), .p (.py (.list names)), .p (.py (.str "q")), .un, .un, .un]) S) = outF (r [.p (.box k), .p (.py (.list names)), .p (.py (.str "q")), .p (.py (.list K)), .un, .un] S) := fun r =>
    congrArg outF (then_nx (by simp [wipeSl, lc, lockSl]) rfl)
  refine Exists.imp (fun d => Exists.imp fun S' (h : outF _ = some (.val .pure (.py d) S') ∧ TD 12 7 d ∧ Gs k B S0 S') => ⟨(s1 _).trans h.1, h.2⟩) ?_
  have ne := neL0 kpl
  have low : ∀ (S1 : SS), Gs k (B + 60) S0 S1 → ∀ T : Prop, (∀ r S2, sem (n + 4) 15 [.box k, .py (.int 2)] S1 = some (.val .pure (.py (.int r)) S2) → Gs k (B + 60) S0 S2 → T) → True := fun _ _ _ _ => trivial
  have fin : ∀ (r : Int) (S1 S2 : SS), sem (n + 4) 15 [.box k, .py (.int 2)] S1 = some (.val .pure (.py (.int r)) S2) → Gs k (B + 60) S0 S2 →
      ∃ d S', fIf (fTb (fBin eqP (fCallF 2 (sem (n + 4) 15) (faCons (fVar 0) (faCons (fC (.int (2))) faNil))) (fC (.int (0))))) (fLit .pure (.tuple [.str "of", .str "d", .tuple []])) (fSeq .tuple .pure (faCons (fC (.str "of")) (faCons (fC (.str "h")) (faCons (fSeq .tuple .pure (faCons (fCallF 3 (sem (n + 4) 20) (faCons (fVar 0) (faCons (fVar 1) (faCons (fC (.str "p")) faNil)))) faNil)) faNil))))
        [.p (.box k), .p (.py (.list names)), .p (.py (.str "q")), .p (.py (.list K)), .un, .un] S1 = some (.val .pure (.py d) S') ∧ TD 12 7 d ∧ Gs k B S0 S' := by
    intro r S1 S2 e g
    by_cases hr : r = 0
    · subst hr
      exact ⟨_, S2, by simp [e], td_d.mono (by omega) (by omega), g.mono (by omega)⟩
    · obtain ⟨d, S3, e3, td, g3⟩ := thing_p n k B names S2 S0 h g
      exact ⟨_, S3, by simp [e, hr, e3], td_one nm_h (by omega) td, g3⟩
  cases K with
  | nil =>
    obtain ⟨r, S1, e1, r0, r1, g1⟩ := randK (n + 2) k (B + 60) 2 S S0 (hg.mono (by omega)) (by decide) (by decide)
    obtain ⟨d, S', e2, td, g2⟩ := fin r S S1 e1 g1
    refine ⟨d, S', ?_, td, g2⟩
    refine (congrArg outF (then_nx (sl' := [.p (.box k), .p (.py (.list names)), .p (.py (.str "q")), .p (.py (.list [])), .un, .un]) (S' := S) ?_ (then_nx (sl' := [.p (.box k), .p (.py (.list names)), .p (.py (.str "q")), .p (.py (.list [])), .un, .un]) (S' := S) ?_ (then_rt (t := .pure) (v := .py d) (S' := S') ?_)))).trans rfl
    · simp [ne]
    · simp
    · rw [ap_Ret, e2]; rfl
  | cons a K =>
    obtain ⟨r, S1, e1, r0, r1, g1⟩ := randK (n + 2) k (B + 80) 3 S S0 (hg.mono (by omega)) (by decide) (by decide)
    by_cases hr : 0 < r
    · obtain ⟨x, S2, e2, hx, g2⟩ := pickK (n + 1) k (B + 20) (a :: K) S1 S0 (g1.mono (by omega)) (by simp) (by omega)
      exact ⟨x, S2, by simp [ne, e1, hr, e2], (ktd x hx).mono (by omega) (by omega), g2.mono (by omega)⟩
    · obtain ⟨r', S2, e2, r0', r1', g2⟩ := randK (n + 2) k (B + 60) 2 S1 S0 (g1.mono (by omega)) (by decide) (by decide)
      obtain ⟨d, S', e3, td, g3⟩ := fin r' S1 S2 e2 g2
      refine ⟨d, S', ?_, td, g3⟩
      refine (congrArg outF (then_nx (sl' := [.p (.box k), .p (.py (.list names)), .p (.py (.str "q")), .p (.py (.list (a :: K))), .un, .un]) (S' := S1) ?_ (then_nx (sl' := [.p (.box k), .p (.py (.list names)), .p (.py (.str "q")), .p (.py (.list (a :: K))), .un, .un]) (S' := S1) ?_ (then_rt (t := .pure) (v := .py d) (S' := S') ?_)))).trans rfl
      · simp [ne, e1, hr]
      · simp
      · rw [ap_Ret, e3]; rfl
/-! ### leaves -/
def LF (d : PyData) : Prop := ∃ w r, d = (Sg.leaf w r).d ∧ (Sg.leaf w r).ok ∧ SY 15 d ∧ Fine 10 d
theorem lf_mk {w : String} {ds : List PyData} (xs : List String) (ok : w ∈ ["is", "same", "ahead", "in", "within", "upto", "yes", "no"]) (hw : t_SAYINGS.lookup (Str.ofString w) = some (.tuple (xs.map fun x => .str (Str.ofString x)))) (h : FITS 13 ds xs) (hl : ds.length ≤ 1000) (hf : ∀ d ∈ ds, Fine 9 d) : LF (.tuple (.str (Str.ofString w) :: ds)) :=
  ⟨w, ds, rfl, ok, sy_mk xs hw h hl (plainAll_of fun d hd => (hf d hd).plain), .tuple (by simp; omega) fun d hd => by
    rcases List.mem_cons.mp hd with rfl | hd
    · exact .str
    · exact hf d hd⟩
theorem TD.fit {k j : Nat} {d : PyData} (h : TD k j d) (l : k ≤ 12) : FIT 13 d "term" := (fit_term h.1).mono (by omega)
theorem td_only {k j : Nat} {d : PyData} (h : TD k j d) : TD (k + 3) (j + 1) (.tuple [.str "only", d]) :=
  ⟨tm_mk (k := k + 1) (w := "only") ["term"] (by kernel_rfl) (.cons (fit_term h.1) .nil) (by simp) (by simp [PyData.plainAll, h.2.plain]), .tuple (by simp) fun x hx => by
    simp only [List.mem_cons, List.not_mem_nil, or_false] at hx
    rcases hx with rfl | rfl
    · exact .str
    · exact h.2⟩
theorem td_whole (i : Int) : TD 4 1 (.tuple [.str "whole", .int i]) :=
  ⟨tm_mk (k := 2) (w := "whole") ["number"] (by kernel_rfl) (.cons fit_number .nil) (by simp) (by simp [PyData.plainAll, PyData.plain]), .tuple (by simp) fun x hx => by
    simp only [List.mem_cons, List.not_mem_nil, or_false] at hx
    rcases hx with rfl | rfl
    · exact .str
    · exact .int⟩
theorem fine_one {j : Nat} {d : PyData} (h : Fine j d) : Fine (j + 1) (.tuple [d]) := .tuple (by simp) fun x hx => by rw [List.mem_singleton] at hx; subst hx; exact h
theorem fine_two {j : Nat} {a b : PyData} (h : Fine j a) (g : Fine j b) : Fine (j + 1) (.tuple [a, b]) := .tuple (by simp) fun x hx => by
  simp only [List.mem_cons, List.not_mem_nil, or_false] at hx
  rcases hx with rfl | rfl
  · exact h
  · exact g
theorem lf_r {a : PyData} (h : TD 9 5 a) : LF (.tuple [.str "is", .str "r", .tuple [a]]) :=
  lf_mk (w := "is") ["name", "terms"] (by simp) (by kernel_rfl) (.cons ((fit_name nm_r).mono (by omega)) (.cons ((fit_terms (k := 12) (by simp) fun d hd => by rw [List.mem_singleton] at hd; subst hd; exact (h.mono (k' := 12) (by omega) (Nat.le_refl _)).1).mono (by omega)) .nil)) (by simp) fun d hd => by
    simp only [List.mem_cons, List.not_mem_nil, or_false] at hd
    rcases hd with rfl | rfl
    · exact .str
    · exact (fine_one h.2).mono (by omega)
theorem lf_likes {a b : PyData} (h : TD 9 5 a) (g : TD 12 7 b) : LF (.tuple [.str "is", .str "likes", .tuple [a, b]]) :=
  lf_mk (w := "is") ["name", "terms"] (by simp) (by kernel_rfl) (.cons ((fit_name nm_likes).mono (by omega)) (.cons ((fit_terms (k := 12) (by simp) fun d hd => by
    simp only [List.mem_cons, List.not_mem_nil, or_false] at hd
    rcases hd with rfl | rfl
    · exact (h.mono (k' := 12) (by omega) (Nat.le_refl _)).1
    · exact g.1).mono (by omega)) .nil)) (by simp) fun d hd => by
    simp only [List.mem_cons, List.not_mem_nil, or_false] at hd
    rcases hd with rfl | rfl
    · exact .str
    · exact (fine_two (h.2.mono (by omega)) g.2).mono (by omega)
theorem lf_same {a b : PyData} (h : TD 9 5 a) (g : TD 9 5 b) : LF (.tuple [.str "same", a, b]) :=
  lf_mk (w := "same") ["term", "term"] (by simp) (by kernel_rfl) (.cons (h.fit (by omega)) (.cons (g.fit (by omega)) .nil)) (by simp) fun d hd => by
    simp only [List.mem_cons, List.not_mem_nil, or_false] at hd
    rcases hd with rfl | rfl
    · exact h.2.mono (by omega)
    · exact g.2.mono (by omega)
theorem lf_ahead {a b : PyData} (h : TD 9 5 a) (g : TD 9 5 b) : LF (.tuple [.str "ahead", .str "older", a, b]) :=
  lf_mk (w := "ahead") ["name", "term", "term"] (by simp) (by kernel_rfl) (.cons ((fit_name nm_older).mono (by omega)) (.cons (h.fit (by omega)) (.cons (g.fit (by omega)) .nil))) (by simp) fun d hd => by
    simp only [List.mem_cons, List.not_mem_nil, or_false] at hd
    rcases hd with rfl | rfl | rfl
    · exact .str
    · exact h.2.mono (by omega)
    · exact g.2.mono (by omega)
theorem lf_in {a b : PyData} (h : TD 9 5 a) (g : TD 9 5 b) : LF (.tuple [.str "in", a, .tuple [.str "of", .str "s", .tuple [b]]]) :=
  lf_mk (w := "in") ["term", "term"] (by simp) (by kernel_rfl) (.cons (h.fit (by omega)) (.cons ((td_one nm_s (by omega) g).fit (by omega)) .nil)) (by simp) fun d hd => by
    simp only [List.mem_cons, List.not_mem_nil, or_false] at hd
    rcases hd with rfl | rfl
    · exact h.2.mono (by omega)
    · exact (td_one nm_s (by omega) g).2.mono (by omega)
theorem lf_within {a b : PyData} (h : TD 9 5 a) (g : TD 9 5 b) : LF (.tuple [.str "within", .tuple [.str "of", .str "s", .tuple [a]], .tuple [.str "only", b]]) :=
  lf_mk (w := "within") ["term", "term"] (by simp) (by kernel_rfl) (.cons ((td_one nm_s (by omega) h).fit (by omega)) (.cons ((td_only g).fit (by omega)) .nil)) (by simp) fun d hd => by
    simp only [List.mem_cons, List.not_mem_nil, or_false] at hd
    rcases hd with rfl | rfl
    · exact (td_one nm_s (by omega) h).2.mono (by omega)
    · exact (td_only g).2.mono (by omega)
theorem lf_upto {a : PyData} (h : TD 9 5 a) (i : Int) : LF (.tuple [.str "upto", .tuple [.str "of", .str "n", .tuple [a]], .tuple [.str "whole", .int i]]) :=
  lf_mk (w := "upto") ["term", "term"] (by simp) (by kernel_rfl) (.cons ((td_one nm_n (by omega) h).fit (by omega)) (.cons ((td_whole i).fit (by omega)) .nil)) (by simp) fun d hd => by
    simp only [List.mem_cons, List.not_mem_nil, or_false] at hd
    rcases hd with rfl | rfl
    · exact (td_one nm_n (by omega) h).2.mono (by omega)
    · exact (td_whole i).2.mono (by omega)
theorem lf_yes : LF (.tuple [.str "yes"]) := lf_mk (w := "yes") [] (by simp) (by kernel_rfl) .nil (by simp) fun d hd => nomatch hd
theorem lf_no : LF (.tuple [.str "no"]) := lf_mk (w := "no") [] (by simp) (by kernel_rfl) .nil (by simp) fun d hd => nomatch hd
theorem leaf_ok (n : Nat) (k B : Nat) (names : List PyData) (S S0 : SS) (h : NL names) (hg : Gs k (B + 300) S0 S) : ∃ d S', sem (n + 6) 21 [.box k, .py (.list names)] S = some (.val .pure (.py d) S') ∧ LF d ∧ Gs k B S0 S' := by
  obtain ⟨way, S1, e1, w0, w1, g1⟩ := randK (n + 3) k (B + 280) 8 S S0 (hg.mono (by omega)) (by decide) (by decide)
  obtain ⟨a, S2, e2, ta, g2⟩ := thing_p (n + 1) k (B + 220) names S1 S0 h (g1.mono (by omega))
  obtain ⟨b, S3, e3, tb, g3⟩ := thing_p (n + 1) k (B + 160) names S2 S0 h (g2.mono (by omega))
  rw [sem__law_leaf_saying, funF2]
  unfold b__law_leaf_saying
  have pre : ∀ r, outF (fThen (fSet 2 (fCallF 2 (sem (n + 5) 15) (faCons (fVar 0) (faCons (fC (.int (8))) faNil))))
    (fThen (fPar 3 4 (fCallF 3 (sem (n + 5) 20) (faCons (fVar 0) (faCons (fVar 1) (faCons (fC (.str "p")) faNil)))) (fCallF 3 (sem (n + 5) 20) (faCons (fVar 0) (faCons (fVar 1) (faCons (fC (.str "p")) faNil))))) r)
      [.p (.box k), .p (.py (.list names)), .un, .un, .un] S) = outF (r [.p (.box k), .p (.py (.list names)), .p (.py (.int way)), .p (.py a), .p (.py b)] S3) := fun r =>
    congrArg outF (then_nx (sl' := [.p (.box k), .p (.py (.list names)), .p (.py (.int way)), .un, .un]) (S' := S1) (by simp [e1]) (then_nx (by simp [e2, e3]) rfl))
  refine Exists.imp (fun d => Exists.imp fun S' (h : outF _ = some (.val .pure (.py d) S') ∧ LF d ∧ Gs k B S0 S') => ⟨(pre _).trans h.1, h.2⟩) ?_
  by_cases h0 : way = 0
  · subst h0
    exact ⟨_, S3, by simp, lf_r ta, g3.mono (by omega)⟩
  by_cases h1 : way < 2
  · obtain ⟨c, S4, e4, tc, g4⟩ := thing_q n k (B + 60) names S3 S0 h (g3.mono (by omega))
    exact ⟨_, S4, by simp [h0, h1, e4], lf_likes ta tc, g4.mono (by omega)⟩
  by_cases h2 : way = 2
  · subst h2
    exact ⟨_, S3, by simp, lf_same ta tb, g3.mono (by omega)⟩
  by_cases h3 : way < 4
  · exact ⟨_, S3, by simp [h1, h2, h3], lf_ahead ta tb, g3.mono (by omega)⟩
  by_cases h4 : way = 4
  · subst h4
    exact ⟨_, S3, by simp, lf_in ta tb, g3.mono (by omega)⟩
  by_cases h5 : way < 6
  · exact ⟨_, S3, by simp [h1, h3, h4, h5], lf_within ta tb, g3.mono (by omega)⟩
  by_cases h6 : way = 6
  · subst h6
    obtain ⟨c, S4, e4, _, _, g4⟩ := randK (n + 3) k (B + 140) 5 S3 S0 (g3.mono (by omega)) (by decide) (by decide)
    exact ⟨_, S4, by simp [e4], lf_upto ta c, g4.mono (by omega)⟩
  · obtain ⟨x, S4, e4, hx, g4⟩ := pickK (n + 2) k (B + 140) [.tuple [.str "yes"], .tuple [.str "no"]] S3 S0 (g3.mono (by omega)) (by simp) (by simp)
    refine ⟨x, S4, by simp [h1, h3, h5, h6, e4], ?_, g4.mono (by omega)⟩
    simp only [List.mem_cons, List.not_mem_nil, or_false] at hx
    rcases hx with rfl | rfl
    · exact lf_yes
    · exact lf_no
end K30
set_option Elab.async false
set_option linter.all false
set_option maxRecDepth 100000
set_option maxHeartbeats 4000000
namespace K30
open PySem PP
/-- a drawn saying of at most D steps -/
def SD (D : Nat) (d : PyData) : Prop := ∃ g : Sg, d = g.d ∧ g.ok ∧ SY (15 + 3 * D) d ∧ Fine (10 + D) d ∧ g.dp ≤ D ∧ g.size + 1 ≤ 2 ^ (D + 1)
theorem SD.mono {D : Nat} {d : PyData} (h : SD D d) : SD (D + 1) d := by
  obtain ⟨g, e, ok, sy, f, dp, sz⟩ := h
  refine ⟨g, e, ok, fun n hn => sy n (by omega), f.mono (by omega), by omega, ?_⟩
  have : 2 ^ (D + 1) ≤ 2 ^ (D + 1 + 1) := Nat.pow_le_pow_right (by decide) (by omega)
  omega
theorem LF.sd {D : Nat} {d : PyData} (h : LF d) : SD D d := by
  obtain ⟨w, r, e, ok, sy, f⟩ := h
  refine ⟨_, e, ok, fun n hn => sy n (by omega), f.mono (by omega), by simp [Sg.dp], ?_⟩
  have : 2 ^ 1 ≤ 2 ^ (D + 1) := Nat.pow_le_pow_right (by decide) (by omega)
  simp only [Sg.size]
  omega
theorem sd_not {D : Nat} {d : PyData} (h : SD D d) : SD (D + 1) (.tuple [.str "not", d]) := by
  obtain ⟨g, rfl, ok, sy, f, dp, sz⟩ := h
  refine ⟨.neg g, rfl, ok, fun n hn => sy_mk (k := 15 + 3 * D + 1) (w := "not") ["saying"] (by kernel_rfl) (.cons (fit_saying sy) .nil) (by simp) (by simp [PyData.plainAll, f.plain]) n (by omega), (fine_two .str f).mono (by omega), by simp [Sg.dp]; omega, ?_⟩
  rw [Nat.pow_succ]
  simp only [Sg.size]
  have := Nat.two_pow_pos (D + 1)
  omega
theorem sd_bin {D : Nat} {w : String} {a b : PyData} (hw : w ∈ ["and", "or", "then", "alike"]) (h : SD D a) (h' : SD D b) : SD (D + 1) (.tuple [.str (Str.ofString w), a, b]) := by
  obtain ⟨g, rfl, ok, sy, f, dp, sz⟩ := h
  obtain ⟨g', rfl, ok', sy', f', dp', sz'⟩ := h'
  have lk : t_SAYINGS.lookup (Str.ofString w) = some (.tuple (["saying", "saying"].map fun x => .str (Str.ofString x))) := by
    simp only [List.mem_cons, List.not_mem_nil, or_false] at hw
    rcases hw with rfl | rfl | rfl | rfl <;> kernel_rfl
  refine ⟨.bin w g g', rfl, ⟨hw, ok, ok'⟩, fun n hn => sy_mk (k := 15 + 3 * D + 1) ["saying", "saying"] lk (.cons (fit_saying sy) (.cons (fit_saying sy') .nil)) (by simp) (by simp [PyData.plainAll, f.plain, f'.plain]) n (by omega), (Fine.tuple (by simp) fun x hx => ?_ : Fine (10 + D + 1) _), by simp [Sg.dp]; omega, ?_⟩
  · simp only [List.mem_cons, List.not_mem_nil, or_false] at hx
    rcases hx with rfl | rfl | rfl
    · exact .str
    · exact f
    · exact f'
  · rw [Nat.pow_succ]
    simp only [Sg.size]
    omega
theorem sd_qu {D : Nat} {w : String} {x : Str} {kd : String} {a : PyData} (hw : w ∈ ["each", "some"]) (hx : NM x) (hk : NM kd) (h : SD D a) : SD (D + 1) (.tuple [.str (Str.ofString w), .str x, .str (Str.ofString kd), a]) := by
  obtain ⟨g, rfl, ok, sy, f, dp, sz⟩ := h
  have lk : t_SAYINGS.lookup (Str.ofString w) = some (.tuple (["name", "name", "saying"].map fun x => .str (Str.ofString x))) := by
    simp only [List.mem_cons, List.not_mem_nil, or_false] at hw
    rcases hw with rfl | rfl <;> kernel_rfl
  refine ⟨.qu w (.str x) (.str (Str.ofString kd)) g, rfl, ⟨hw, ok⟩, fun n hn => sy_mk (k := 15 + 3 * D + 1) ["name", "name", "saying"] lk (.cons ((fit_name hx).mono (by omega)) (.cons ((fit_name hk).mono (by omega)) (.cons (fit_saying sy) .nil))) (by simp) (by simp [PyData.plainAll, PyData.plain, f.plain]) n (by omega), (Fine.tuple (by simp) fun y hy => ?_ : Fine (10 + D + 1) _), by simp [Sg.dp]; omega, ?_⟩
  · simp only [List.mem_cons, List.not_mem_nil, or_false] at hy
    rcases hy with rfl | rfl | rfl | rfl
    · exact .str
    · exact .str
    · exact .str
    · exact f
  · rw [Nat.pow_succ]
    simp only [Sg.size]
    have := Nat.two_pow_pos (D + 1)
    omega
def cst : Nat → Nat
  | 0 => 400
  | D + 1 => 2 * cst D + 500
theorem cst_pos (D : Nat) : 400 ≤ cst D := by
  induction D with
  | zero => exact Nat.le_refl _
  | succ D ih => simp only [cst]; omega
theorem xn_add {i : Nat} (h : i < 10) : addP (.str "x") (.str (toString (i : Int) : String)) = some (.pure, .str (xname i)) := by
  match i, h with
  | 0, _ => kernel_rfl
  | 1, _ => kernel_rfl
  | 2, _ => kernel_rfl
  | 3, _ => kernel_rfl
  | 4, _ => kernel_rfl
  | 5, _ => kernel_rfl
  | 6, _ => kernel_rfl
  | 7, _ => kernel_rfl
  | 8, _ => kernel_rfl
  | 9, _ => kernel_rfl
theorem strP_small {i : Nat} (h : i < 10) : strP [.int (i : Int)] = some (.pure, .str (toString (i : Int) : String)) := if_pos (by
  have : LG 10 (i : Int) := .of_lt (by omega)
  unfold LG at this
  omega)
theorem saying_ok : ∀ (D : Nat) (n : Nat) (k B : Nat) (names : List PyData) (S S0 : SS), NL names → names.length + D ≤ 8 → 7 + D ≤ n → Gs k (B + cst D) S0 S →
    ∃ d S', sem n 22 [.box k, .py (.int (D : Nat)), .py (.list names)] S = some (.val .pure (.py d) S') ∧ SD D d ∧ Gs k B S0 S' := by
  intro D
  induction D with
  | zero =>
    intro n k B names S S0 h hl hn hg
    obtain ⟨n, rfl⟩ : ∃ m, n = m + 7 := ⟨n - 7, by omega⟩
    have c0 : cst 0 = 400 := rfl
    obtain ⟨way, S1, e1, w0, w1, g1⟩ := randK (n + 4) k (B + 380) 8 S S0 (hg.mono (by omega)) (by decide) (by decide)
    obtain ⟨d, S2, e2, lf, g2⟩ := leaf_ok n k (B + 80) names S1 S0 h (g1.mono (by omega))
    refine ⟨d, S2, ?_, lf.sd, g2.mono (by omega)⟩
    rw [sem__law_saying, funF3]
    simp [b__law_saying, e1, e2]
  | succ D ih =>
    intro n k B names S S0 h hl hn hg
    obtain ⟨n, rfl⟩ : ∃ m, n = m + 8 := ⟨n - 8, by omega⟩
    have cs : cst (D + 1) = 2 * cst D + 500 := rfl
    obtain ⟨way, S1, e1, w0, w1, g1⟩ := randK (n + 5) k (B + 2 * cst D + 480) 8 S S0 (hg.mono (by omega)) (by decide) (by decide)
    have hD : ¬ ((D : Int) + 1 = 0) := by omega
    have sub1 : ((D : Int) + 1 - 1) = (D : Int) := by omega
    rw [sem__law_saying, funF3]
    unfold b__law_saying
    by_cases h0 : way = 0
    · subst h0
      obtain ⟨d, S2, e2, lf, g2⟩ := leaf_ok (n + 1) k (B + 100) names S1 S0 h (g1.mono (by have := cst_pos D; omega))
      exact ⟨d, S2, by simp [e1, e2], lf.sd, g2.mono (by omega)⟩
    by_cases h1 : way = 1
    · subst h1
      obtain ⟨d, S2, e2, sd, g2⟩ := ih (n + 7) k (B + 100) names S1 S0 h (by omega) (by omega) (g1.mono (by omega))
      exact ⟨_, S2, by simp [e1, hD, sub1, e2], sd_not sd, g2.mono (by omega)⟩
    by_cases h5 : way < 5
    · obtain ⟨w, S2, e2, hw, g2⟩ := pickK (n + 4) k (B + 2 * cst D + 460) [.str "and", .str "or", .str "then", .str "alike", .str "then"] S1 S0 g1 (by simp) (by simp)
      obtain ⟨a, S3, e3, sa, g3⟩ := ih (n + 7) k (B + cst D + 460) names S2 S0 h (by omega) (by omega) (g2.mono (by omega))
      obtain ⟨b, S4, e4, sb, g4⟩ := ih (n + 7) k (B + 460) names S3 S0 h (by omega) (by omega) (g3.mono (by omega))
      simp only [List.mem_cons, List.not_mem_nil, or_false] at hw
      have : ∃ v : String, w = .str (Str.ofString v) ∧ v ∈ ["and", "or", "then", "alike"] := by
        rcases hw with rfl | rfl | rfl | rfl | rfl <;> exact ⟨_, rfl, by simp⟩
      obtain ⟨v, rfl, hv⟩ := this
      exact ⟨_, S4, by simp [e1, hD, h0, h1, h5, sub1, e2, e3, e4], sd_bin hv sa sb, g4.mono (by omega)⟩
    · obtain ⟨kd, S2, e2, hk, g2⟩ := pickK (n + 4) k (B + 2 * cst D + 460) [.str "p", .str "p", .str "q", .str "col"] S1 S0 g1 (by simp) (by simp)
      obtain ⟨w, S3, e3, hw, g3⟩ := pickK (n + 4) k (B + 2 * cst D + 440) [.str "each", .str "some"] S2 S0 g2 (by simp) (by simp)
      have : ∃ v : String, kd = .str (Str.ofString v) ∧ NM v := by
        simp only [List.mem_cons, List.not_mem_nil, or_false] at hk
        rcases hk with rfl | rfl | rfl | rfl
        · exact ⟨_, rfl, nm_p⟩
        · exact ⟨_, rfl, nm_p⟩
        · exact ⟨_, rfl, nm_q⟩
        · exact ⟨_, rfl, nm_col⟩
      obtain ⟨kv, rfl, hkv⟩ := this
      have : ∃ v : String, w = .str (Str.ofString v) ∧ v ∈ ["each", "some"] := by
        simp only [List.mem_cons, List.not_mem_nil, or_false] at hw
        rcases hw with rfl | rfl <;> exact ⟨_, rfl, by simp⟩
      obtain ⟨v, rfl, hv⟩ := this
      have hln : names.length < 10 := by omega
      have h2 : NL (names ++ [.tuple [.str (xname names.length), .str (Str.ofString kv)]]) := ⟨fun d hd => by
        rcases List.mem_append.mp hd with hd | hd
        · exact h.el d hd
        · rw [List.mem_singleton] at hd
          exact ⟨_, _, hln, hd, hkv⟩, by simp; omega⟩
      obtain ⟨a, S4, e4, sa, g4⟩ := ih (n + 7) k (B + cst D + 440) (names ++ [.tuple [.str (xname names.length), .str (Str.ofString kv)]]) S3 S0 h2 (by simp; omega) (by omega) (g3.mono (by omega))
      have x1 := strP_small hln
      have x2 := xn_add hln
      have x3 : addP (.list names) (.list [.tuple [.str (xname names.length), .str (Str.ofString kv)]]) = some (.fresh, .list (names ++ [.tuple [.str (xname names.length), .str (Str.ofString kv)]])) := addP_l (by simp; omega)
      generalize (toString (names.length : Int) : String) = T at x1 x2
      exact ⟨_, S4, by simp [e1, hD, h0, h1, h5, sub1, e2, e3, e4, x1, x2, x3], sd_qu hv (nm_x _ hln) hkv sa, g4.mono (by omega)⟩
end K30
set_option Elab.async false
set_option linter.all false
set_option maxRecDepth 100000
set_option maxHeartbeats 4000000
namespace K30
open PySem PP
theorem bi_of {B : Nat} {d : PyData} (h : GOk B d) : ∃ ds, d = .list ds ∧ allInt ds = true := by
  obtain ⟨a, b, c, rfl, _⟩ := h
  exact ⟨_, rfl, rfl⟩
theorem bi_app : ∀ {S : SS} {ds : List PyData}, boxInts S = true → allInt ds = true → boxInts (S ++ [.list ds]) = true
  | [], ds, _, g => by simp [boxInts, g]
  | .list x :: r, ds, h, g => by
    simp only [boxInts, Bool.and_eq_true] at h
    simp only [List.cons_append, boxInts, Bool.and_eq_true]
    exact ⟨h.1, bi_app h.2 g⟩
  | .none :: _, _, h, _ => by cases h
  | .bool _ :: _, _, h, _ => by cases h
  | .int _ :: _, _, h, _ => by cases h
  | .str _ :: _, _, h, _ => by cases h
  | .tuple _ :: _, _, h, _ => by cases h
  | .dict _ :: _, _, h, _ => by cases h
theorem bi_set : ∀ {S : SS} {k : Nat} {ds : List PyData}, boxInts S = true → allInt ds = true → boxInts (S.set k (.list ds)) = true
  | [], _, _, _, _ => rfl
  | .list x :: r, 0, ds, h, g => by
    simp only [boxInts, Bool.and_eq_true] at h
    simp only [List.set_cons_zero, boxInts, Bool.and_eq_true]
    exact ⟨g, h.2⟩
  | .list x :: r, k + 1, ds, h, g => by
    simp only [boxInts, Bool.and_eq_true] at h
    simp only [List.set_cons_succ, boxInts, Bool.and_eq_true]
    exact ⟨h.1, bi_set h.2 g⟩
  | .none :: _, _, _, h, _ => by cases h
  | .bool _ :: _, _, _, h, _ => by cases h
  | .int _ :: _, _, _, h, _ => by cases h
  | .str _ :: _, _, _, h, _ => by cases h
  | .tuple _ :: _, _, _, h, _ => by cases h
  | .dict _ :: _, _, _, h, _ => by cases h
theorem bi_gs {k B : Nat} {S S' : SS} (h : boxInts S = true) (g : Gs k B S S') : boxInts S' = true := by
  obtain ⟨d, rfl, _, gd⟩ := g
  obtain ⟨ds, rfl, hd⟩ := bi_of gd
  exact bi_set h hd
def lb (L : Nat → FF) : FS := (fThen (fSetBox 2 (fCallF 2 (L 17) (faCons (fVar 0) (faCons (fVar 1) faNil))))
    (fThen (fIfS (fNotT (fTb (fCallF 2 (L 26) (faCons (fVar 2) (faCons (fCallF 3 (L 22) (faCons (fVar 2) (faCons (fFz (fBin addP (fC (.int (2))) (fCallF 2 (L 15) (faCons (fVar 2) (faCons (fC (.int (5))) faNil))))) (faCons (fFz (fLit .fresh (.list []))) faNil)))) faNil))))) (fThen (fRet (fC (.bool false)))
    fNil) fNil)
    fNil))
theorem lb_ok {ns : List Int} {i : Int} (h0 : 0 ≤ i) (h1 : i ≤ 100) {S : SS} (hb : boxInts S = true) {x2 x3 x4 x5 x6 : Slot} :
    ∃ S', lb (sem 100) [.p (.py (.list (ns.map .int))), .p (.py (.int i)), x2, x3, x4, x5, x6] S = some (.nx [.p (.py (.list (ns.map .int))), .p (.py (.int i)), .p (.box S.length), x3, x4, x5, x6] S') ∧ boxInts S' = true := by
  obtain ⟨d, e1, gd⟩ := genK 98 ns i 1000000 S h0 (by omega) (by decide)
  obtain ⟨ds, rfl, ai⟩ := bi_of gd
  have hb1 := bi_app hb ai
  have g0 : Gs S.length 1000000 (S ++ [.list ds]) (S ++ [.list ds]) := Gs.refl (d := .list ds) (by simp) gd
  obtain ⟨r, S1, e2, r0, r1, g1⟩ := randK 98 S.length 999980 5 (S ++ [.list ds]) (S ++ [.list ds]) (g0.mono (by omega)) (by decide) (by decide)
  obtain ⟨D, rfl⟩ := Int.eq_ofNat_of_zero_le r0
  have hD : D < 5 := by omega
  have hc : cst (2 + D) ≤ 900000 := by
    have : ∀ D, D < 5 → cst (2 + D) ≤ 900000 := by decide
    exact this D hD
  obtain ⟨s, S2, e3, sd, g2⟩ := saying_ok (2 + D) 100 S.length 1000 [] S1 (S ++ [.list ds]) ⟨(fun d hd => nomatch hd), by simp⟩ (by simp; omega) (by omega) (g1.mono (by omega))
  obtain ⟨g, rfl, ok, sy, f, dp, sz⟩ := sd
  have h2 : 2 ^ (2 + D + 1) ≤ 2 ^ 7 := Nat.pow_le_pow_right (by decide) (by omega)
  have G : Good (15 + 3 * (2 + D)) g := ⟨ok, sy, by omega, f.mono (by omega), by omega, by omega⟩
  have hb2 := bi_gs hb1 g2
  have e4 := right_ok G (n := 99) (by decide) S.length hb2
  have e3' : sem 100 22 [.box S.length, .py (.int (2 + (D : Int))), .py (.list [])] S1 = some (.val .pure (.py g.d) S2) := by
    rw [← e3]
    congr 4
  refine ⟨S2, ?_, hb2⟩
  simp [lb, e1, e2, e3', e4]
theorem loop_ok {ns : List Int} : ∀ (ds : List PyData) (x1 x2 : Slot) (S : SS), (∀ d ∈ ds, ∃ i : Int, d = .int i ∧ 0 ≤ i ∧ i ≤ 100) → boxInts S = true →
    ∃ y1 y2 S', forLoop (gNm 1) (lb (sem 100)) ds [.p (.py (.list (ns.map .int))), x1, x2, .un, .un, .un, .un] S = some (.nx [.p (.py (.list (ns.map .int))), y1, y2, .un, .un, .un, .un] S')
  | [], x1, x2, S, _, _ => ⟨x1, x2, S, rfl⟩
  | d :: ds, x1, x2, S, h, hb => by
    obtain ⟨i, rfl, h0, h1⟩ := h d (List.mem_cons_self ..)
    obtain ⟨S1, e, hb1⟩ := lb_ok (ns := ns) h0 h1 hb (x2 := x2) (x3 := .un) (x4 := .un) (x5 := .un) (x6 := .un)
    obtain ⟨y1, y2, S', e2⟩ := loop_ok ds (.p (.py (.int i))) (.p (.box S.length)) S1 (fun d hd => h d (List.mem_cons_of_mem _ hd)) hb1
    refine ⟨y1, y2, S', ?_⟩
    rw [for_cons]
    simp only [ap_Nm, List.set_cons_succ, List.set_cons_zero]
    rw [e]
    exact e2
theorem law_true (ns : List Int) : ∃ t S, sem (100 + 1) 27 [.py (.list (ns.map .int))] [] = some (.val t (.py (.bool true)) S) := by
  obtain ⟨y1, y2, S, e⟩ := loop_ok (ns := ns) (rng 0 4) .un .un [] (fun d hd => by
    obtain ⟨i, hi, rfl⟩ := List.mem_map.mp hd
    have := List.mem_range.mp hi
    exact ⟨_, rfl, by omega, by omega⟩) rfl
  refine ⟨.pure, S, ?_⟩
  rw [sem_law, funF1]
  unfold b_law
  refine (congrArg outF (then_nx (for_nx (ds := rng 0 4) (S1 := []) (by kernel_rfl) e) rfl)).trans ?_
  kernel_rfl
end K30
set_option Elab.async false
set_option linter.all false
set_option maxRecDepth 100000
set_option maxHeartbeats 0
namespace K30
open PySem L2 PySem.Spec PyProof.Rows PP He
abbrev PR : Program := PySem.Challenge.pw_reasonhouse_k30_whole_signs_handed_on
def inC : Stmt → Stmt
  | .ClassDef _ _ _ (st :: _) _ _ _ _ _ _ _ => st
  | s => s
def sIni : Stmt := inC (tp 1)
def D_is_whole : DefD := ⟨("is_whole", none), "is_whole", "is_whole", defArgs (tp 9), defBody (tp 9), defScope (tp 9), [], []⟩
def D_is_signs : DefD := ⟨("is_signs", none), "is_signs", "is_signs", defArgs (tp 10), defBody (tp 10), defScope (tp 10), [], []⟩
def D_is_name : DefD := ⟨("is_name", none), "is_name", "is_name", defArgs (tp 11), defBody (tp 11), defScope (tp 11), [], []⟩
def D_head_of : DefD := ⟨("head_of", none), "head_of", "head_of", defArgs (tp 15), defBody (tp 15), defScope (tp 15), [], []⟩
def D_fits : DefD := ⟨("fits", none), "fits", "fits", defArgs (tp 16), defBody (tp 16), defScope (tp 16), [], []⟩
def D_has_parts : DefD := ⟨("has_parts", none), "has_parts", "has_parts", defArgs (tp 17), defBody (tp 17), defScope (tp 17), [], []⟩
def D_is_term_shape : DefD := ⟨("is_term_shape", none), "is_term_shape", "is_term_shape", defArgs (tp 18), defBody (tp 18), defScope (tp 18), [], []⟩
def D_is_saying_shape : DefD := ⟨("is_saying_shape", none), "is_saying_shape", "is_saying_shape", defArgs (tp 19), defBody (tp 19), defScope (tp 19), [], []⟩
def D_sign_handed_on : DefD := ⟨("sign_handed_on", none), "sign_handed_on", "sign_handed_on", defArgs (tp 22), defBody (tp 22), defScope (tp 22), [], []⟩
def D_signs_within : DefD := ⟨("signs_within", none), "signs_within", "signs_within", defArgs (tp 23), defBody (tp 23), defScope (tp 23), [], []⟩
def D_check_saying_shape : DefD := ⟨("check_saying_shape", none), "check_saying_shape", "check_saying_shape", defArgs (tp 24), defBody (tp 24), defScope (tp 24), [], []⟩
def D_signs_of : DefD := ⟨("signs_of", none), "signs_of", "signs_of", defArgs (tp 25), defBody (tp 25), defScope (tp 25), [], []⟩
def D_is_place_in : DefD := ⟨("is_place_in", none), "is_place_in", "is_place_in", defArgs (tp 26), defBody (tp 26), defScope (tp 26), [], []⟩
def D_part_at : DefD := ⟨("part_at", none), "part_at", "part_at", defArgs (tp 27), defBody (tp 27), defScope (tp 27), [], []⟩
def D__law_hash : DefD := ⟨("_law_hash", none), "_law_hash", "_law_hash", defArgs (tp 29), defBody (tp 29), defScope (tp 29), [], []⟩
def D__law_random : DefD := ⟨("_law_random", none), "_law_random", "_law_random", defArgs (tp 30), defBody (tp 30), defScope (tp 30), [], []⟩
def D__law_cell : DefD := ⟨("_law_cell", none), "_law_cell", "_law_cell", defArgs (tp 31), defBody (tp 31), defScope (tp 31), [], []⟩
def D__law_generator : DefD := ⟨("_law_generator", none), "_law_generator", "_law_generator", defArgs (tp 32), defBody (tp 32), defScope (tp 32), [], []⟩
def D__law_pick : DefD := ⟨("_law_pick", none), "_law_pick", "_law_pick", defArgs (tp 33), defBody (tp 33), defScope (tp 33), [], []⟩
def D__law_same : DefD := ⟨("_law_same", none), "_law_same", "_law_same", defArgs (tp 34), defBody (tp 34), defScope (tp 34), [], []⟩
def D__law_named_thing : DefD := ⟨("_law_named_thing", none), "_law_named_thing", "_law_named_thing", defArgs (tp 35), defBody (tp 35), defScope (tp 35), [], []⟩
def D__law_leaf_saying : DefD := ⟨("_law_leaf_saying", none), "_law_leaf_saying", "_law_leaf_saying", defArgs (tp 36), defBody (tp 36), defScope (tp 36), [], []⟩
def D__law_saying : DefD := ⟨("_law_saying", none), "_law_saying", "_law_saying", defArgs (tp 37), defBody (tp 37), defScope (tp 37), [], []⟩
def D__law_signs : DefD := ⟨("_law_signs", none), "_law_signs", "_law_signs", defArgs (tp 38), defBody (tp 38), defScope (tp 38), [], []⟩
def D__law_part : DefD := ⟨("_law_part", none), "_law_part", "_law_part", defArgs (tp 39), defBody (tp 39), defScope (tp 39), [], []⟩
def D__law_caught : DefD := ⟨("_law_caught", none), "_law_caught", "_law_caught", defArgs (tp 40), defBody (tp 40), defScope (tp 40), [], []⟩
def D__law_right : DefD := ⟨("_law_right", none), "_law_right", "_law_right", defArgs (tp 41), defBody (tp 41), defScope (tp 41), [], []⟩
def D_law : DefD := ⟨("law", none), "law", "law", defArgs (tp 42), defBody (tp 42), defScope (tp 42), [], []⟩
def fn : List DefD := [D_is_whole, D_is_signs, D_is_name, D_head_of, D_fits, D_has_parts, D_is_term_shape, D_is_saying_shape, D_sign_handed_on, D_signs_within, D_check_saying_shape, D_signs_of, D_is_place_in, D_part_at, D__law_hash, D__law_random, D__law_cell, D__law_generator, D__law_pick, D__law_same, D__law_named_thing, D__law_leaf_saying, D__law_saying, D__law_signs, D__law_part, D__law_caught, D__law_right, D_law]
def fa : List Fa := ([.glo "is_whole", .glo "is_signs", .glo "is_name", .glo "head_of", .glo "fits", .glo "has_parts", .glo "is_term_shape", .glo "is_saying_shape", .glo "sign_handed_on", .glo "signs_within", .glo "check_saying_shape", .glo "signs_of", .glo "is_place_in", .glo "part_at", .glo "_law_hash", .glo "_law_random", .glo "_law_cell", .glo "_law_generator", .glo "_law_pick", .glo "_law_same", .glo "_law_named_thing", .glo "_law_leaf_saying", .glo "_law_saying", .glo "_law_signs", .glo "_law_part", .glo "_law_caught", .glo "_law_right", .glo "law", .glo "ReasonError", .glo "InvalidList"] : List Fa) ++ ([.glo "InvalidSaying", .glo "InvalidLiterals", .glo "TERMS", .glo "SAYINGS", .glo "SAYING_PLACES", .free "ValueError", .free "all", .free "bool", .free "dict", .free "enumerate", .free "int", .free "isinstance", .free "len", .free "list", .free "max", .free "range", .free "repr", .free "sorted", .free "str", .free "sum", .free "tuple", .free "zip", .str "SMALL" "abcdefghijklmnopqrstuvwxyz", .str "FIGURES" "0123456789", .int "MOST_NAME" (12)] : List Fa)
def ts : List Tab := [((fun K => ga K "TERMS"), ["var", "any", "none", "whole", "of", "add", "times", "count", "only", "both", "either", "less", "witness"]), ((fun K => ga K "SAYINGS"), ["yes", "no", "is", "same", "upto", "in", "within", "ahead", "not", "and", "or", "then", "alike", "each", "some"]), ((fun K => ga K "SAYING_PLACES"), ["not", "and", "or", "then", "alike", "each", "some"])]
def ex (K : PySem.W.Frag) : Bool := errsB PR K errCs && (tabB K "TERMS" t_TERMS && (tabB K "SAYINGS" t_SAYINGS && (tabB K "SAYING_PLACES" t_SAYING_PLACES && (isiB K isi_InvalidSaying (.ref (ga K "InvalidSaying")) && (isiB K isi_InvalidLiterals (.ref (ga K "InvalidLiterals")) && (isiB K isi_InvalidList (.ref (ga K "InvalidList")) && (isiB K isi_ValueError (.type "ValueError"))))))))
def iv : IniW := iniV (defArgs sIni) (defBody sIni) (defScope sIni)
theorem iniOk : IniOk PR (defArgs sIni) (defBody sIni) (defScope sIni) :=
  ⟨⟨_, _, _, _, _, _, _, _, _, _, _, _, ⟨0, 0, 0, 0⟩, rfl, rfl, _, fun env => rfl⟩, rfl, rfl, rfl, rfl, rfl, rfl, rfl, by decide +kernel, by decide +kernel⟩
section
variable {w : World} {K : PySem.W.Frag} {mg : Str → Option Value} {h : Heap} {base : Heap}
theorem mf (X : K.In h) (G : h.Ns mainGlobals mg) (c : SaysP PR fa fn ts ex iv w K) : MF PR w K mg (ga K "ReasonError") (ma K (ga K "ReasonError") "__init__") := by
  have m0 := c.more
  unfold ex at m0
  obtain ⟨k0, m1⟩ := ba m0
  obtain ⟨k1, m2⟩ := ba m1
  obtain ⟨k2, m3⟩ := ba m2
  obtain ⟨k3, m4⟩ := ba m3
  obtain ⟨k4, m5⟩ := ba m4
  obtain ⟨k5, m6⟩ := ba m5
  obtain ⟨k6, m7⟩ := ba m6
  exact {
    f_ValueError := free_ok X G (c.t.d.fact 35)
    f_all := free_ok X G (c.t.d.fact 36)
    f_bool := free_ok X G (c.t.d.fact 37)
    f_dict := free_ok X G (c.t.d.fact 38)
    f_enumerate := free_ok X G (c.t.d.fact 39)
    f_int := free_ok X G (c.t.d.fact 40)
    f_isinstance := free_ok X G (c.t.d.fact 41)
    f_len := free_ok X G (c.t.d.fact 42)
    f_list := free_ok X G (c.t.d.fact 43)
    f_max := free_ok X G (c.t.d.fact 44)
    f_range := free_ok X G (c.t.d.fact 45)
    f_repr := free_ok X G (c.t.d.fact 46)
    f_sorted := free_ok X G (c.t.d.fact 47)
    f_str := free_ok X G (c.t.d.fact 48)
    f_sum := free_ok X G (c.t.d.fact 49)
    f_tuple := free_ok X G (c.t.d.fact 50)
    f_zip := free_ok X G (c.t.d.fact 51)
    c_SMALL := str_ok X G (c.t.d.fact 52)
    c_FIGURES := str_ok X G (c.t.d.fact 53)
    c_MOST_NAME := int_ok X G (c.t.d.fact 54)
    t_TERMS := tabB_ok (glo_ok X G (c.t.d.fact 32)) (c.t.tab 0) k1
    t_SAYINGS := tabB_ok (glo_ok X G (c.t.d.fact 33)) (c.t.tab 1) k2
    t_SAYING_PLACES := tabB_ok (glo_ok X G (c.t.d.fact 34)) (c.t.tab 2) k3
    g_signs_of := ⟨_, glo_ok X G (c.t.d.fact 11)⟩
    g_part_at := ⟨_, glo_ok X G (c.t.d.fact 13)⟩
    g_ReasonError := glo_ok X G (c.t.d.fact 28)
    errs := errsB_ok X G iniOk c.ini k0
    isi_InvalidSaying := ⟨_, glo_ok X G (c.t.d.fact 30), isiB_ok X G k4⟩
    isi_InvalidLiterals := ⟨_, glo_ok X G (c.t.d.fact 31), isiB_ok X G k5⟩
    isi_InvalidList := ⟨_, glo_ok X G (c.t.d.fact 29), isiB_ok X G k6⟩
    isi_ValueError := isiB_ok X G m7 }
/-- the defs, as they stand -/
structure Fns (K : PySem.W.Frag) (mg : Str → Option Value) : Prop where
  d_is_whole : ∃ fd, FunD K "is_whole" "is_whole" (defArgs (tp 9)) (defBody (tp 9)) (defScope (tp 9)) [] [] (ga K "is_whole") fd
  g_is_whole : mg "is_whole" = some (.ref (ga K "is_whole"))
  d_is_signs : ∃ fd, FunD K "is_signs" "is_signs" (defArgs (tp 10)) (defBody (tp 10)) (defScope (tp 10)) [] [] (ga K "is_signs") fd
  g_is_signs : mg "is_signs" = some (.ref (ga K "is_signs"))
  d_is_name : ∃ fd, FunD K "is_name" "is_name" (defArgs (tp 11)) (defBody (tp 11)) (defScope (tp 11)) [] [] (ga K "is_name") fd
  g_is_name : mg "is_name" = some (.ref (ga K "is_name"))
  d_head_of : ∃ fd, FunD K "head_of" "head_of" (defArgs (tp 15)) (defBody (tp 15)) (defScope (tp 15)) [] [] (ga K "head_of") fd
  g_head_of : mg "head_of" = some (.ref (ga K "head_of"))
  d_fits : ∃ fd, FunD K "fits" "fits" (defArgs (tp 16)) (defBody (tp 16)) (defScope (tp 16)) [] [] (ga K "fits") fd
  g_fits : mg "fits" = some (.ref (ga K "fits"))
  d_has_parts : ∃ fd, FunD K "has_parts" "has_parts" (defArgs (tp 17)) (defBody (tp 17)) (defScope (tp 17)) [] [] (ga K "has_parts") fd
  g_has_parts : mg "has_parts" = some (.ref (ga K "has_parts"))
  d_is_term_shape : ∃ fd, FunD K "is_term_shape" "is_term_shape" (defArgs (tp 18)) (defBody (tp 18)) (defScope (tp 18)) [] [] (ga K "is_term_shape") fd
  g_is_term_shape : mg "is_term_shape" = some (.ref (ga K "is_term_shape"))
  d_is_saying_shape : ∃ fd, FunD K "is_saying_shape" "is_saying_shape" (defArgs (tp 19)) (defBody (tp 19)) (defScope (tp 19)) [] [] (ga K "is_saying_shape") fd
  g_is_saying_shape : mg "is_saying_shape" = some (.ref (ga K "is_saying_shape"))
  d_sign_handed_on : ∃ fd, FunD K "sign_handed_on" "sign_handed_on" (defArgs (tp 22)) (defBody (tp 22)) (defScope (tp 22)) [] [] (ga K "sign_handed_on") fd
  g_sign_handed_on : mg "sign_handed_on" = some (.ref (ga K "sign_handed_on"))
  d_signs_within : ∃ fd, FunD K "signs_within" "signs_within" (defArgs (tp 23)) (defBody (tp 23)) (defScope (tp 23)) [] [] (ga K "signs_within") fd
  g_signs_within : mg "signs_within" = some (.ref (ga K "signs_within"))
  d_check_saying_shape : ∃ fd, FunD K "check_saying_shape" "check_saying_shape" (defArgs (tp 24)) (defBody (tp 24)) (defScope (tp 24)) [] [] (ga K "check_saying_shape") fd
  g_check_saying_shape : mg "check_saying_shape" = some (.ref (ga K "check_saying_shape"))
  d_signs_of : ∃ fd, FunD K "signs_of" "signs_of" (defArgs (tp 25)) (defBody (tp 25)) (defScope (tp 25)) [] [] (ga K "signs_of") fd
  g_signs_of : mg "signs_of" = some (.ref (ga K "signs_of"))
  d_is_place_in : ∃ fd, FunD K "is_place_in" "is_place_in" (defArgs (tp 26)) (defBody (tp 26)) (defScope (tp 26)) [] [] (ga K "is_place_in") fd
  g_is_place_in : mg "is_place_in" = some (.ref (ga K "is_place_in"))
  d_part_at : ∃ fd, FunD K "part_at" "part_at" (defArgs (tp 27)) (defBody (tp 27)) (defScope (tp 27)) [] [] (ga K "part_at") fd
  g_part_at : mg "part_at" = some (.ref (ga K "part_at"))
  d__law_hash : ∃ fd, FunD K "_law_hash" "_law_hash" (defArgs (tp 29)) (defBody (tp 29)) (defScope (tp 29)) [] [] (ga K "_law_hash") fd
  g__law_hash : mg "_law_hash" = some (.ref (ga K "_law_hash"))
  d__law_random : ∃ fd, FunD K "_law_random" "_law_random" (defArgs (tp 30)) (defBody (tp 30)) (defScope (tp 30)) [] [] (ga K "_law_random") fd
  g__law_random : mg "_law_random" = some (.ref (ga K "_law_random"))
  d__law_cell : ∃ fd, FunD K "_law_cell" "_law_cell" (defArgs (tp 31)) (defBody (tp 31)) (defScope (tp 31)) [] [] (ga K "_law_cell") fd
  g__law_cell : mg "_law_cell" = some (.ref (ga K "_law_cell"))
  d__law_generator : ∃ fd, FunD K "_law_generator" "_law_generator" (defArgs (tp 32)) (defBody (tp 32)) (defScope (tp 32)) [] [] (ga K "_law_generator") fd
  g__law_generator : mg "_law_generator" = some (.ref (ga K "_law_generator"))
  d__law_pick : ∃ fd, FunD K "_law_pick" "_law_pick" (defArgs (tp 33)) (defBody (tp 33)) (defScope (tp 33)) [] [] (ga K "_law_pick") fd
  g__law_pick : mg "_law_pick" = some (.ref (ga K "_law_pick"))
  d__law_same : ∃ fd, FunD K "_law_same" "_law_same" (defArgs (tp 34)) (defBody (tp 34)) (defScope (tp 34)) [] [] (ga K "_law_same") fd
  g__law_same : mg "_law_same" = some (.ref (ga K "_law_same"))
  d__law_named_thing : ∃ fd, FunD K "_law_named_thing" "_law_named_thing" (defArgs (tp 35)) (defBody (tp 35)) (defScope (tp 35)) [] [] (ga K "_law_named_thing") fd
  g__law_named_thing : mg "_law_named_thing" = some (.ref (ga K "_law_named_thing"))
  d__law_leaf_saying : ∃ fd, FunD K "_law_leaf_saying" "_law_leaf_saying" (defArgs (tp 36)) (defBody (tp 36)) (defScope (tp 36)) [] [] (ga K "_law_leaf_saying") fd
  g__law_leaf_saying : mg "_law_leaf_saying" = some (.ref (ga K "_law_leaf_saying"))
  d__law_saying : ∃ fd, FunD K "_law_saying" "_law_saying" (defArgs (tp 37)) (defBody (tp 37)) (defScope (tp 37)) [] [] (ga K "_law_saying") fd
  g__law_saying : mg "_law_saying" = some (.ref (ga K "_law_saying"))
  d__law_signs : ∃ fd, FunD K "_law_signs" "_law_signs" (defArgs (tp 38)) (defBody (tp 38)) (defScope (tp 38)) [] [] (ga K "_law_signs") fd
  g__law_signs : mg "_law_signs" = some (.ref (ga K "_law_signs"))
  d__law_part : ∃ fd, FunD K "_law_part" "_law_part" (defArgs (tp 39)) (defBody (tp 39)) (defScope (tp 39)) [] [] (ga K "_law_part") fd
  g__law_part : mg "_law_part" = some (.ref (ga K "_law_part"))
  d__law_caught : ∃ fd, FunD K "_law_caught" "_law_caught" (defArgs (tp 40)) (defBody (tp 40)) (defScope (tp 40)) [] [] (ga K "_law_caught") fd
  g__law_caught : mg "_law_caught" = some (.ref (ga K "_law_caught"))
  d__law_right : ∃ fd, FunD K "_law_right" "_law_right" (defArgs (tp 41)) (defBody (tp 41)) (defScope (tp 41)) [] [] (ga K "_law_right") fd
  g__law_right : mg "_law_right" = some (.ref (ga K "_law_right"))
  d_law : ∃ fd, FunD K "law" "law" (defArgs (tp 42)) (defBody (tp 42)) (defScope (tp 42)) [] [] (ga K "law") fd
  g_law : mg "law" = some (.ref (ga K "law"))
theorem fns (X : K.In h) (G : h.Ns mainGlobals mg) (c : SaysP PR fa fn ts ex iv w K) : Fns K mg where
  d_is_whole := c.t.d.def_ 0 (d := D_is_whole)
  g_is_whole := glo_ok X G (c.t.d.fact 0)
  d_is_signs := c.t.d.def_ 1 (d := D_is_signs)
  g_is_signs := glo_ok X G (c.t.d.fact 1)
  d_is_name := c.t.d.def_ 2 (d := D_is_name)
  g_is_name := glo_ok X G (c.t.d.fact 2)
  d_head_of := c.t.d.def_ 3 (d := D_head_of)
  g_head_of := glo_ok X G (c.t.d.fact 3)
  d_fits := c.t.d.def_ 4 (d := D_fits)
  g_fits := glo_ok X G (c.t.d.fact 4)
  d_has_parts := c.t.d.def_ 5 (d := D_has_parts)
  g_has_parts := glo_ok X G (c.t.d.fact 5)
  d_is_term_shape := c.t.d.def_ 6 (d := D_is_term_shape)
  g_is_term_shape := glo_ok X G (c.t.d.fact 6)
  d_is_saying_shape := c.t.d.def_ 7 (d := D_is_saying_shape)
  g_is_saying_shape := glo_ok X G (c.t.d.fact 7)
  d_sign_handed_on := c.t.d.def_ 8 (d := D_sign_handed_on)
  g_sign_handed_on := glo_ok X G (c.t.d.fact 8)
  d_signs_within := c.t.d.def_ 9 (d := D_signs_within)
  g_signs_within := glo_ok X G (c.t.d.fact 9)
  d_check_saying_shape := c.t.d.def_ 10 (d := D_check_saying_shape)
  g_check_saying_shape := glo_ok X G (c.t.d.fact 10)
  d_signs_of := c.t.d.def_ 11 (d := D_signs_of)
  g_signs_of := glo_ok X G (c.t.d.fact 11)
  d_is_place_in := c.t.d.def_ 12 (d := D_is_place_in)
  g_is_place_in := glo_ok X G (c.t.d.fact 12)
  d_part_at := c.t.d.def_ 13 (d := D_part_at)
  g_part_at := glo_ok X G (c.t.d.fact 13)
  d__law_hash := c.t.d.def_ 14 (d := D__law_hash)
  g__law_hash := glo_ok X G (c.t.d.fact 14)
  d__law_random := c.t.d.def_ 15 (d := D__law_random)
  g__law_random := glo_ok X G (c.t.d.fact 15)
  d__law_cell := c.t.d.def_ 16 (d := D__law_cell)
  g__law_cell := glo_ok X G (c.t.d.fact 16)
  d__law_generator := c.t.d.def_ 17 (d := D__law_generator)
  g__law_generator := glo_ok X G (c.t.d.fact 17)
  d__law_pick := c.t.d.def_ 18 (d := D__law_pick)
  g__law_pick := glo_ok X G (c.t.d.fact 18)
  d__law_same := c.t.d.def_ 19 (d := D__law_same)
  g__law_same := glo_ok X G (c.t.d.fact 19)
  d__law_named_thing := c.t.d.def_ 20 (d := D__law_named_thing)
  g__law_named_thing := glo_ok X G (c.t.d.fact 20)
  d__law_leaf_saying := c.t.d.def_ 21 (d := D__law_leaf_saying)
  g__law_leaf_saying := glo_ok X G (c.t.d.fact 21)
  d__law_saying := c.t.d.def_ 22 (d := D__law_saying)
  g__law_saying := glo_ok X G (c.t.d.fact 22)
  d__law_signs := c.t.d.def_ 23 (d := D__law_signs)
  g__law_signs := glo_ok X G (c.t.d.fact 23)
  d__law_part := c.t.d.def_ 24 (d := D__law_part)
  g__law_part := glo_ok X G (c.t.d.fact 24)
  d__law_caught := c.t.d.def_ 25 (d := D__law_caught)
  g__law_caught := glo_ok X G (c.t.d.fact 25)
  d__law_right := c.t.d.def_ 26 (d := D__law_right)
  g__law_right := glo_ok X G (c.t.d.fact 26)
  d_law := c.t.d.def_ 27 (d := D_law)
  g_law := glo_ok X G (c.t.d.fact 27)
theorem sc_is_whole : FnScope ["value"] ["value"] (defScope (tp 9)) := ⟨rfl, rfl, rfl, by decide +kernel, rfl, by decide +kernel, by decide +kernel⟩
theorem sc_is_signs : FnScope ["value", "signs", "sign"] ["value", "signs"] (defScope (tp 10)) := ⟨rfl, rfl, rfl, by decide +kernel, rfl, by decide +kernel, by decide +kernel⟩
theorem sc_is_name : FnScope ["value"] ["value"] (defScope (tp 11)) := ⟨rfl, rfl, rfl, by decide +kernel, rfl, by decide +kernel, by decide +kernel⟩
theorem sc_head_of : FnScope ["value"] ["value"] (defScope (tp 15)) := ⟨rfl, rfl, rfl, by decide +kernel, rfl, by decide +kernel, by decide +kernel⟩
theorem sc_fits : FnScope ["part", "kind", "term"] ["part", "kind"] (defScope (tp 16)) := ⟨rfl, rfl, rfl, by decide +kernel, rfl, by decide +kernel, by decide +kernel⟩
theorem sc_has_parts : FnScope ["value", "kinds", "part", "kind"] ["value", "kinds"] (defScope (tp 17)) := ⟨rfl, rfl, rfl, by decide +kernel, rfl, by decide +kernel, by decide +kernel⟩
theorem sc_is_term_shape : FnScope ["value", "head"] ["value"] (defScope (tp 18)) := ⟨rfl, rfl, rfl, by decide +kernel, rfl, by decide +kernel, by decide +kernel⟩
theorem sc_is_saying_shape : FnScope ["value", "head"] ["value"] (defScope (tp 19)) := ⟨rfl, rfl, rfl, by decide +kernel, rfl, by decide +kernel, by decide +kernel⟩
theorem sc_sign_handed_on : FnScope ["saying", "at", "sign"] ["saying", "at", "sign"] (defScope (tp 22)) := ⟨rfl, rfl, rfl, by decide +kernel, rfl, by decide +kernel, by decide +kernel⟩
theorem sc_signs_within : FnScope ["saying", "sign", "place", "found", "at"] ["saying", "sign", "place"] (defScope (tp 23)) := ⟨rfl, rfl, rfl, by decide +kernel, rfl, by decide +kernel, by decide +kernel⟩
theorem sc_check_saying_shape : FnScope ["saying"] ["saying"] (defScope (tp 24)) := ⟨rfl, rfl, rfl, by decide +kernel, rfl, by decide +kernel, by decide +kernel⟩
theorem sc_signs_of : FnScope ["saying", "sign"] ["saying", "sign"] (defScope (tp 25)) := ⟨rfl, rfl, rfl, by decide +kernel, rfl, by decide +kernel, by decide +kernel⟩
theorem sc_is_place_in : FnScope ["saying", "place", "part", "at"] ["saying", "place"] (defScope (tp 26)) := ⟨rfl, rfl, rfl, by decide +kernel, rfl, by decide +kernel, by decide +kernel⟩
theorem sc_part_at : FnScope ["saying", "place", "part", "at"] ["saying", "place"] (defScope (tp 27)) := ⟨rfl, rfl, rfl, by decide +kernel, rfl, by decide +kernel, by decide +kernel⟩
theorem sc__law_hash : FnScope ["seed", "index", "mixed"] ["seed", "index"] (defScope (tp 29)) := ⟨rfl, rfl, rfl, by decide +kernel, rfl, by decide +kernel, by decide +kernel⟩
theorem sc__law_random : FnScope ["generator", "bound", "drawn", "turn"] ["generator", "bound"] (defScope (tp 30)) := ⟨rfl, rfl, rfl, by decide +kernel, rfl, by decide +kernel, by decide +kernel⟩
theorem sc__law_cell : FnScope ["script", "index"] ["script", "index"] (defScope (tp 31)) := ⟨rfl, rfl, rfl, by decide +kernel, rfl, by decide +kernel, by decide +kernel⟩
theorem sc__law_generator : FnScope ["script", "index", "seed"] ["script", "index"] (defScope (tp 32)) := ⟨rfl, rfl, rfl, by decide +kernel, rfl, by decide +kernel, by decide +kernel⟩
theorem sc__law_pick : FnScope ["generator", "things"] ["generator", "things"] (defScope (tp 33)) := ⟨rfl, rfl, rfl, by decide +kernel, rfl, by decide +kernel, by decide +kernel⟩
theorem sc__law_same : FnScope ["found", "due", "one", "other", "key"] ["found", "due"] (defScope (tp 34)) := ⟨rfl, rfl, rfl, by decide +kernel, rfl, by decide +kernel, by decide +kernel⟩
theorem sc__law_named_thing : FnScope ["generator", "names", "kind", "known", "name", "late"] ["generator", "names", "kind"] (defScope (tp 35)) := ⟨rfl, rfl, rfl, by decide +kernel, rfl, by decide +kernel, by decide +kernel⟩
theorem sc__law_leaf_saying : FnScope ["generator", "names", "way", "one", "other"] ["generator", "names"] (defScope (tp 36)) := ⟨rfl, rfl, rfl, by decide +kernel, rfl, by decide +kernel, by decide +kernel⟩
theorem sc__law_saying : FnScope ["generator", "depth", "names", "way", "name", "kind"] ["generator", "depth", "names"] (defScope (tp 37)) := ⟨rfl, rfl, rfl, by decide +kernel, rfl, by decide +kernel, by decide +kernel⟩
theorem sc__law_signs : FnScope ["saying", "sign", "place", "found", "word", "contrary"] ["saying", "sign", "place"] (defScope (tp 38)) := ⟨rfl, rfl, rfl, by decide +kernel, rfl, by decide +kernel, by decide +kernel⟩
theorem sc__law_part : FnScope ["saying", "place", "found", "at"] ["saying", "place"] (defScope (tp 39)) := ⟨rfl, rfl, rfl, by decide +kernel, rfl, by decide +kernel, by decide +kernel⟩
theorem sc__law_caught : FnScope ["function", "args", "caught", "error", "truths", "at", "is_such"] ["function", "args"] (defScope (tp 40)) := ⟨rfl, rfl, rfl, by decide +kernel, rfl, by decide +kernel, by decide +kernel⟩
theorem sc__law_right : FnScope ["generator", "saying", "sign", "due", "told", "places", "place", "part", "last", "bads", "bad", "late", "odd"] ["generator", "saying"] (defScope (tp 41)) := ⟨rfl, rfl, rfl, by decide +kernel, rfl, by decide +kernel, by decide +kernel⟩
theorem sc_law : FnScope ["script", "index", "generator", "odds", "odd", "deep", "due"] ["script"] (defScope (tp 42)) := ⟨rfl, rfl, rfl, by decide +kernel, rfl, by decide +kernel, by decide +kernel⟩
theorem oks (M : MF PR w K mg (ga K "ReasonError") (ma K (ga K "ReasonError") "__init__")) (F : Fns K mg) : ∀ n, Oks PR w K mg base n (sem n)
  | 0 => {
      o_is_whole := let ⟨_, D⟩ := F.d_is_whole; ck_of (ps := ["value"]) D F.g_is_whole (fun _ _ _ _ _ _ us hl => match us, hl with | [_], _ => rfl) (fnG_zero spF_none)
      o_is_signs := let ⟨_, D⟩ := F.d_is_signs; ck_of (ps := ["value", "signs"]) D F.g_is_signs (fun _ _ _ _ _ _ us hl => match us, hl with | [_, _], _ => rfl) (fnG_zero spF_none)
      o_is_name := let ⟨_, D⟩ := F.d_is_name; ck_of (ps := ["value"]) D F.g_is_name (fun _ _ _ _ _ _ us hl => match us, hl with | [_], _ => rfl) (fnG_zero spF_none)
      o_head_of := let ⟨_, D⟩ := F.d_head_of; ck_of (ps := ["value"]) D F.g_head_of (fun _ _ _ _ _ _ us hl => match us, hl with | [_], _ => rfl) (fnG_zero spF_none)
      o_fits := let ⟨_, D⟩ := F.d_fits; ck_of (ps := ["part", "kind"]) D F.g_fits (fun _ _ _ _ _ _ us hl => match us, hl with | [_, _], _ => rfl) (fnG_zero spF_none)
      o_has_parts := let ⟨_, D⟩ := F.d_has_parts; ck_of (ps := ["value", "kinds"]) D F.g_has_parts (fun _ _ _ _ _ _ us hl => match us, hl with | [_, _], _ => rfl) (fnG_zero spF_none)
      o_is_term_shape := let ⟨_, D⟩ := F.d_is_term_shape; ck_of (ps := ["value"]) D F.g_is_term_shape (fun _ _ _ _ _ _ us hl => match us, hl with | [_], _ => rfl) (fnG_zero spF_none)
      o_is_saying_shape := let ⟨_, D⟩ := F.d_is_saying_shape; ck_of (ps := ["value"]) D F.g_is_saying_shape (fun _ _ _ _ _ _ us hl => match us, hl with | [_], _ => rfl) (fnG_zero spF_none)
      o_sign_handed_on := let ⟨_, D⟩ := F.d_sign_handed_on; ck_of (ps := ["saying", "at", "sign"]) D F.g_sign_handed_on (fun _ _ _ _ _ _ us hl => match us, hl with | [_, _, _], _ => rfl) (fnG_zero spF_none)
      o_signs_within := let ⟨_, D⟩ := F.d_signs_within; ck_of (ps := ["saying", "sign", "place"]) D F.g_signs_within (fun _ _ _ _ _ _ us hl => match us, hl with | [_, _, _], _ => rfl) (fnG_zero spF_none)
      o_check_saying_shape := let ⟨_, D⟩ := F.d_check_saying_shape; ck_of (ps := ["saying"]) D F.g_check_saying_shape (fun _ _ _ _ _ _ us hl => match us, hl with | [_], _ => rfl) (fnG_zero spF_none)
      o_signs_of := let ⟨_, D⟩ := F.d_signs_of; ck_of (ps := ["saying", "sign"]) D F.g_signs_of (fun _ _ _ _ _ _ us hl => match us, hl with | [_, _], _ => rfl) (fnG_zero spF_none)
      o_is_place_in := let ⟨_, D⟩ := F.d_is_place_in; ck_of (ps := ["saying", "place"]) D F.g_is_place_in (fun _ _ _ _ _ _ us hl => match us, hl with | [_, _], _ => rfl) (fnG_zero spF_none)
      o_part_at := let ⟨_, D⟩ := F.d_part_at; ck_of (ps := ["saying", "place"]) D F.g_part_at (fun _ _ _ _ _ _ us hl => match us, hl with | [_, _], _ => rfl) (fnG_zero spF_none)
      o__law_hash := let ⟨_, D⟩ := F.d__law_hash; ck_of (ps := ["seed", "index"]) D F.g__law_hash (fun _ _ _ _ _ _ us hl => match us, hl with | [_, _], _ => rfl) (fnG_zero spF_none)
      o__law_random := let ⟨_, D⟩ := F.d__law_random; ck_of (ps := ["generator", "bound"]) D F.g__law_random (fun _ _ _ _ _ _ us hl => match us, hl with | [_, _], _ => rfl) (fnG_zero spF_none)
      o__law_cell := let ⟨_, D⟩ := F.d__law_cell; ck_of (ps := ["script", "index"]) D F.g__law_cell (fun _ _ _ _ _ _ us hl => match us, hl with | [_, _], _ => rfl) (fnG_zero spF_none)
      o__law_generator := let ⟨_, D⟩ := F.d__law_generator; ck_of (ps := ["script", "index"]) D F.g__law_generator (fun _ _ _ _ _ _ us hl => match us, hl with | [_, _], _ => rfl) (fnG_zero spF_none)
      o__law_pick := let ⟨_, D⟩ := F.d__law_pick; ck_of (ps := ["generator", "things"]) D F.g__law_pick (fun _ _ _ _ _ _ us hl => match us, hl with | [_, _], _ => rfl) (fnG_zero spF_none)
      o__law_same := let ⟨_, D⟩ := F.d__law_same; ck_of (ps := ["found", "due"]) D F.g__law_same (fun _ _ _ _ _ _ us hl => match us, hl with | [_, _], _ => rfl) (fnG_zero spF_none)
      o__law_named_thing := let ⟨_, D⟩ := F.d__law_named_thing; ck_of (ps := ["generator", "names", "kind"]) D F.g__law_named_thing (fun _ _ _ _ _ _ us hl => match us, hl with | [_, _, _], _ => rfl) (fnG_zero spF_none)
      o__law_leaf_saying := let ⟨_, D⟩ := F.d__law_leaf_saying; ck_of (ps := ["generator", "names"]) D F.g__law_leaf_saying (fun _ _ _ _ _ _ us hl => match us, hl with | [_, _], _ => rfl) (fnG_zero spF_none)
      o__law_saying := let ⟨_, D⟩ := F.d__law_saying; ck_of (ps := ["generator", "depth", "names"]) D F.g__law_saying (fun _ _ _ _ _ _ us hl => match us, hl with | [_, _, _], _ => rfl) (fnG_zero spF_none)
      o__law_signs := let ⟨_, D⟩ := F.d__law_signs; ck_of (ps := ["saying", "sign", "place"]) D F.g__law_signs (fun _ _ _ _ _ _ us hl => match us, hl with | [_, _, _], _ => rfl) (fnG_zero spF_none)
      o__law_part := let ⟨_, D⟩ := F.d__law_part; ck_of (ps := ["saying", "place"]) D F.g__law_part (fun _ _ _ _ _ _ us hl => match us, hl with | [_, _], _ => rfl) (fnG_zero spF_none)
      o__law_caught := let ⟨_, D⟩ := F.d__law_caught; ck_of (ps := ["function", "args"]) D F.g__law_caught (fun _ _ _ _ _ _ us hl => match us, hl with | [_, _], _ => rfl) (fnG_zero spF_none)
      o__law_right := let ⟨_, D⟩ := F.d__law_right; ck_of (ps := ["generator", "saying"]) D F.g__law_right (fun _ _ _ _ _ _ us hl => match us, hl with | [_, _], _ => rfl) (fnG_zero spF_none)
      k_part_at_place_saying := let ⟨_, D⟩ := F.d_part_at; ckk_of (ps := ["saying", "place"]) D F.g_part_at (fun _ _ _ _ _ _ us hl => match us, hl with | [_, _], _ => rfl) (fnG_zero spF_none)
      k_signs_of_sign_saying := let ⟨_, D⟩ := F.d_signs_of; ckk_of (ps := ["saying", "sign"]) D F.g_signs_of (fun _ _ _ _ _ _ us hl => match us, hl with | [_, _], _ => rfl) (fnG_zero spF_none) }
  | n + 1 => {
      o_is_whole := let ⟨_, D⟩ := F.d_is_whole; ck_of (ps := ["value"]) D F.g_is_whole (fun _ _ _ _ _ _ us hl => match us, hl with | [_], _ => rfl) (fnG_D D sc_is_whole fun cdv A outer s H E hr hg => d_is_whole M (oks M F n) (bx_ct hr hg sc_is_whole.nd))
      o_is_signs := let ⟨_, D⟩ := F.d_is_signs; ck_of (ps := ["value", "signs"]) D F.g_is_signs (fun _ _ _ _ _ _ us hl => match us, hl with | [_, _], _ => rfl) (fnG_D D sc_is_signs fun cdv A outer s H E hr hg => d_is_signs M (oks M F n) (bx_ct hr hg sc_is_signs.nd))
      o_is_name := let ⟨_, D⟩ := F.d_is_name; ck_of (ps := ["value"]) D F.g_is_name (fun _ _ _ _ _ _ us hl => match us, hl with | [_], _ => rfl) (fnG_D D sc_is_name fun cdv A outer s H E hr hg => d_is_name M (oks M F n) (bx_ct hr hg sc_is_name.nd))
      o_head_of := let ⟨_, D⟩ := F.d_head_of; ck_of (ps := ["value"]) D F.g_head_of (fun _ _ _ _ _ _ us hl => match us, hl with | [_], _ => rfl) (fnG_D D sc_head_of fun cdv A outer s H E hr hg => d_head_of M (oks M F n) (bx_ct hr hg sc_head_of.nd))
      o_fits := let ⟨_, D⟩ := F.d_fits; ck_of (ps := ["part", "kind"]) D F.g_fits (fun _ _ _ _ _ _ us hl => match us, hl with | [_, _], _ => rfl) (fnG_D D sc_fits fun cdv A outer s H E hr hg => d_fits M (oks M F n) (bx_ct hr hg sc_fits.nd))
      o_has_parts := let ⟨_, D⟩ := F.d_has_parts; ck_of (ps := ["value", "kinds"]) D F.g_has_parts (fun _ _ _ _ _ _ us hl => match us, hl with | [_, _], _ => rfl) (fnG_D D sc_has_parts fun cdv A outer s H E hr hg => d_has_parts M (oks M F n) (bx_ct hr hg sc_has_parts.nd))
      o_is_term_shape := let ⟨_, D⟩ := F.d_is_term_shape; ck_of (ps := ["value"]) D F.g_is_term_shape (fun _ _ _ _ _ _ us hl => match us, hl with | [_], _ => rfl) (fnG_D D sc_is_term_shape fun cdv A outer s H E hr hg => d_is_term_shape M (oks M F n) (bx_ct hr hg sc_is_term_shape.nd))
      o_is_saying_shape := let ⟨_, D⟩ := F.d_is_saying_shape; ck_of (ps := ["value"]) D F.g_is_saying_shape (fun _ _ _ _ _ _ us hl => match us, hl with | [_], _ => rfl) (fnG_D D sc_is_saying_shape fun cdv A outer s H E hr hg => d_is_saying_shape M (oks M F n) (bx_ct hr hg sc_is_saying_shape.nd))
      o_sign_handed_on := let ⟨_, D⟩ := F.d_sign_handed_on; ck_of (ps := ["saying", "at", "sign"]) D F.g_sign_handed_on (fun _ _ _ _ _ _ us hl => match us, hl with | [_, _, _], _ => rfl) (fnG_D D sc_sign_handed_on fun cdv A outer s H E hr hg => d_sign_handed_on M (oks M F n) (bx_ct hr hg sc_sign_handed_on.nd))
      o_signs_within := let ⟨_, D⟩ := F.d_signs_within; ck_of (ps := ["saying", "sign", "place"]) D F.g_signs_within (fun _ _ _ _ _ _ us hl => match us, hl with | [_, _, _], _ => rfl) (fnG_D D sc_signs_within fun cdv A outer s H E hr hg => d_signs_within M (oks M F n) (bx_ct hr hg sc_signs_within.nd))
      o_check_saying_shape := let ⟨_, D⟩ := F.d_check_saying_shape; ck_of (ps := ["saying"]) D F.g_check_saying_shape (fun _ _ _ _ _ _ us hl => match us, hl with | [_], _ => rfl) (fnG_D D sc_check_saying_shape fun cdv A outer s H E hr hg => d_check_saying_shape M (oks M F n) (bx_ct hr hg sc_check_saying_shape.nd))
      o_signs_of := let ⟨_, D⟩ := F.d_signs_of; ck_of (ps := ["saying", "sign"]) D F.g_signs_of (fun _ _ _ _ _ _ us hl => match us, hl with | [_, _], _ => rfl) (fnG_D D sc_signs_of fun cdv A outer s H E hr hg => d_signs_of M (oks M F n) (bx_ct hr hg sc_signs_of.nd))
      o_is_place_in := let ⟨_, D⟩ := F.d_is_place_in; ck_of (ps := ["saying", "place"]) D F.g_is_place_in (fun _ _ _ _ _ _ us hl => match us, hl with | [_, _], _ => rfl) (fnG_D D sc_is_place_in fun cdv A outer s H E hr hg => d_is_place_in M (oks M F n) (bx_ct hr hg sc_is_place_in.nd))
      o_part_at := let ⟨_, D⟩ := F.d_part_at; ck_of (ps := ["saying", "place"]) D F.g_part_at (fun _ _ _ _ _ _ us hl => match us, hl with | [_, _], _ => rfl) (fnG_D D sc_part_at fun cdv A outer s H E hr hg => d_part_at M (oks M F n) (bx_ct hr hg sc_part_at.nd))
      o__law_hash := let ⟨_, D⟩ := F.d__law_hash; ck_of (ps := ["seed", "index"]) D F.g__law_hash (fun _ _ _ _ _ _ us hl => match us, hl with | [_, _], _ => rfl) (fnG_D D sc__law_hash fun cdv A outer s H E hr hg => d__law_hash M (oks M F n) (bx_ct hr hg sc__law_hash.nd))
      o__law_random := let ⟨_, D⟩ := F.d__law_random; ck_of (ps := ["generator", "bound"]) D F.g__law_random (fun _ _ _ _ _ _ us hl => match us, hl with | [_, _], _ => rfl) (fnG_D D sc__law_random fun cdv A outer s H E hr hg => d__law_random M (oks M F n) (bx_ct hr hg sc__law_random.nd))
      o__law_cell := let ⟨_, D⟩ := F.d__law_cell; ck_of (ps := ["script", "index"]) D F.g__law_cell (fun _ _ _ _ _ _ us hl => match us, hl with | [_, _], _ => rfl) (fnG_D D sc__law_cell fun cdv A outer s H E hr hg => d__law_cell M (oks M F n) (bx_ct hr hg sc__law_cell.nd))
      o__law_generator := let ⟨_, D⟩ := F.d__law_generator; ck_of (ps := ["script", "index"]) D F.g__law_generator (fun _ _ _ _ _ _ us hl => match us, hl with | [_, _], _ => rfl) (fnG_D D sc__law_generator fun cdv A outer s H E hr hg => d__law_generator M (oks M F n) (bx_ct hr hg sc__law_generator.nd))
      o__law_pick := let ⟨_, D⟩ := F.d__law_pick; ck_of (ps := ["generator", "things"]) D F.g__law_pick (fun _ _ _ _ _ _ us hl => match us, hl with | [_, _], _ => rfl) (fnG_D D sc__law_pick fun cdv A outer s H E hr hg => d__law_pick M (oks M F n) (bx_ct hr hg sc__law_pick.nd))
      o__law_same := let ⟨_, D⟩ := F.d__law_same; ck_of (ps := ["found", "due"]) D F.g__law_same (fun _ _ _ _ _ _ us hl => match us, hl with | [_, _], _ => rfl) (fnG_D D sc__law_same fun cdv A outer s H E hr hg => d__law_same M (oks M F n) (bx_ct hr hg sc__law_same.nd))
      o__law_named_thing := let ⟨_, D⟩ := F.d__law_named_thing; ck_of (ps := ["generator", "names", "kind"]) D F.g__law_named_thing (fun _ _ _ _ _ _ us hl => match us, hl with | [_, _, _], _ => rfl) (fnG_D D sc__law_named_thing fun cdv A outer s H E hr hg => d__law_named_thing M (oks M F n) (bx_ct hr hg sc__law_named_thing.nd))
      o__law_leaf_saying := let ⟨_, D⟩ := F.d__law_leaf_saying; ck_of (ps := ["generator", "names"]) D F.g__law_leaf_saying (fun _ _ _ _ _ _ us hl => match us, hl with | [_, _], _ => rfl) (fnG_D D sc__law_leaf_saying fun cdv A outer s H E hr hg => d__law_leaf_saying M (oks M F n) (bx_ct hr hg sc__law_leaf_saying.nd))
      o__law_saying := let ⟨_, D⟩ := F.d__law_saying; ck_of (ps := ["generator", "depth", "names"]) D F.g__law_saying (fun _ _ _ _ _ _ us hl => match us, hl with | [_, _, _], _ => rfl) (fnG_D D sc__law_saying fun cdv A outer s H E hr hg => d__law_saying M (oks M F n) (bx_ct hr hg sc__law_saying.nd))
      o__law_signs := let ⟨_, D⟩ := F.d__law_signs; ck_of (ps := ["saying", "sign", "place"]) D F.g__law_signs (fun _ _ _ _ _ _ us hl => match us, hl with | [_, _, _], _ => rfl) (fnG_D D sc__law_signs fun cdv A outer s H E hr hg => d__law_signs M (oks M F n) (bx_ct hr hg sc__law_signs.nd))
      o__law_part := let ⟨_, D⟩ := F.d__law_part; ck_of (ps := ["saying", "place"]) D F.g__law_part (fun _ _ _ _ _ _ us hl => match us, hl with | [_, _], _ => rfl) (fnG_D D sc__law_part fun cdv A outer s H E hr hg => d__law_part M (oks M F n) (bx_ct hr hg sc__law_part.nd))
      o__law_caught := let ⟨_, D⟩ := F.d__law_caught; ck_of (ps := ["function", "args"]) D F.g__law_caught (fun _ _ _ _ _ _ us hl => match us, hl with | [_, _], _ => rfl) (fnG_D D sc__law_caught fun cdv A outer s H E hr hg => d__law_caught M (oks M F n) (bx_ct hr hg sc__law_caught.nd))
      o__law_right := let ⟨_, D⟩ := F.d__law_right; ck_of (ps := ["generator", "saying"]) D F.g__law_right (fun _ _ _ _ _ _ us hl => match us, hl with | [_, _], _ => rfl) (fnG_D D sc__law_right fun cdv A outer s H E hr hg => d__law_right M (oks M F n) (bx_ct hr hg sc__law_right.nd))
      k_part_at_place_saying := let ⟨_, D⟩ := F.d_part_at; ckk_of (ps := ["saying", "place"]) D F.g_part_at (fun _ _ _ _ _ _ us hl => match us, hl with | [_, _], _ => rfl) (fnG_D D sc_part_at fun cdv A outer s H E hr hg => d_part_at M (oks M F n) (bx_ct hr hg sc_part_at.nd))
      k_signs_of_sign_saying := let ⟨_, D⟩ := F.d_signs_of; ckk_of (ps := ["saying", "sign"]) D F.g_signs_of (fun _ _ _ _ _ _ us hl => match us, hl with | [_, _], _ => rfl) (fnG_D D sc_signs_of fun cdv A outer s H E hr hg => d_signs_of M (oks M F n) (bx_ct hr hg sc_signs_of.nd)) }
end
abbrev R : PySem.W.OpenRow := PySem.W.OpenLaw.row PySem.Challenge.rw_reasonhouse_k30_whole_signs_handed_on
abbrev hk : PySem.W.Hook := hookP PR 5 fa fn ts ex iv
def ob (s : PySem.W.SharedT) : AlP := obsPG PR 5 fa fn ts ex (HandSHeadRun.getT s)
theorem ob_eq (s : PySem.W.SharedT) : ob s = hk.obs s.abs := obsPG_eq (HandSHeadRun.getT_eq s)
def loose : List PySem.Str := (["ReasonError", "InvalidList", "InvalidSaying", "InvalidLiterals", "is_whole", "is_signs", "is_name", "head_of", "fits", "has_parts", "is_term_shape", "is_saying_shape", "sign_handed_on", "signs_within", "check_saying_shape", "signs_of", "is_place_in", "part_at", "_law_hash", "_law_random", "_law_cell", "_law_generator", "_law_pick", "_law_same", "_law_named_thing", "_law_leaf_saying", "_law_saying", "_law_signs", "_law_part", "_law_caught"] : List PySem.Str) ++ (["_law_right", "SMALL", "FIGURES", "MOST_NAME", "TERMS", "SAYINGS", "SAYING_PLACES"] : List PySem.Str)
theorem run (w : World) : HandSHeadRun.RunEq R (PySem.W.view R.prog [42]) hk ob 3000 loose w :=
  PySem.W.byRow2 "special-get-raises" (P := fun w => HandSHeadRun.RunEq R (PySem.W.view R.prog [42]) hk ob 3000 loose w) (fun w os => by kernel_rfl) (fun w os => by kernel_rfl) w
end K30
open PySem PySem.W PySem.Calls PyProof.Rows
theorem K30.holds (LV : Nat) (hLV : LV + 1 ≤ 200) (hsp : ∀ ns : List Int, ns.length ≤ 63 → ∃ t S, K30.sem (LV + 1) 27 [.py (.list (ns.map PyData.int))] [] = some (.val t (.py (.bool true)) S)) : PySem.Challenge.rw_reasonhouse_k30_whole_signs_handed_on.Holds := by
  w_on; o_law
  refine HandSHeadRun.head_any (r := OpenLaw.row PySem.Challenge.rw_reasonhouse_k30_whole_signs_handed_on) (q := view (OpenLaw.row PySem.Challenge.rw_reasonhouse_k30_whole_signs_handed_on).prog [42]) (H := K30.hk) (ob := K30.ob) (M := 3000) (loose := K30.loose) (d := HandSHeadRun.topDef (OpenLaw.row PySem.Challenge.rw_reasonhouse_k30_whole_signs_handed_on).prog 42) (kwd := []) K30.ob_eq
    (by kernel_rfl) (fun s => by kernel_rfl) K30.run (by kernel_rfl) (by kernel_rfl) (by kernel_rfl) (by rfl) (by first | assumption | decide +kernel) (by decide +kernel) ⟨rfl, rfl, rfl, rfl, rfl, by decide +kernel⟩ ?hw ?hc
  case hw => w_witness2
  case hc =>
    refine PP.walk_ofGE (l := PySem.Challenge.rw_reasonhouse_k30_whole_signs_handed_on) (n := 63) (k := LV + 1) (x := "script") rfl (by decide) (by kernel_rfl) ((⟨rfl, by decide, by decide⟩ : L2.Room 200 callerA).mono hLV) rfl ?F
    intro w mg fa h Y G hmg0
    obtain ⟨K, KX, c⟩ := Y
    have hmg : mg ("law" : PySem.Str) = some (.ref fa) := by
      have e : (HandSHeadRun.topDef (OpenLaw.row PySem.Challenge.rw_reasonhouse_k30_whole_signs_handed_on).prog 42).name = ("law" : PySem.Str) := by kernel_rfl
      rw [← e]
      exact hmg0
    have M := K30.mf KX G c
    have F := K30.fns KX G c
    obtain ⟨fd, D⟩ := F.d_law
    have e := hmg.symm.trans F.g_law
    cases e
    refine ⟨K, fd, K30.sem (LV + 1) 27, KX, fun s u => ?_, fun base _ _ => PP.fnG_D D K30.sc_law fun cdv A outer s H E hr hg => K30.d_law M (K30.oks M F LV) (PP.bx_ct hr hg K30.sc_law.nd), hsp⟩
    exact D.bindsA (ps := ["script"]) (fun _ _ _ _ _ _ us hl => match us, hl with | [_], _ => rfl) s [u] rfl
theorem PySem.Challenge.cw_reasonhouse_k30_whole_signs_handed_on_holds : PySem.Challenge.rw_reasonhouse_k30_whole_signs_handed_on.Holds := by
  exact K30.holds 100 (by decide) fun ns _ => K30.law_true ns
