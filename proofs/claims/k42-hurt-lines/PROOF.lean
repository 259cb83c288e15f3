import PyProof.Rows.All
import HandS.ForMost
import HandS.IsInst
import HandS.TupAny
import HandS.TupMul
import HandS.Style
import HandS.Walk
import KE.GoesEnum
import KE.KRevSl
import PyProof.ListRange
import HandS.Sort
import HandS.SortRule
import HandS.Exc
import HandS.ExcOwn
import HandS.WordsExc
import HandS.ExcField
import HandS.CallLocal
import HandS.ExcInit
import HandS.ExcSuper
import HandS.Nested
import KE.KExcSuper
import HandS.Iter
import HandS.Deep
import KE.DataMinMax
import KE.SortData
import KE.KDictDisplayH
import PyProof.WalksMore
import PyProof.SumWalkG
import HandS.Dict
import HandS.More
import HandS.SetFor
import HandS.Strs
import HandS.Replace
import HandS.Zip
import HandS.Conv
import KE.KDictPairs
import KE.KDictSum
import KE.DataAny
import PySem.Challenge.RW_changestold_k42_whole_hurt_lines
set_option Elab.async false
set_option linter.all false
set_option maxRecDepth 100000
set_option maxHeartbeats 4000000
/-! DLa: plain data over the abstract heap: data D, frozen part G, mutable part M; judgements of expressions, tests, statements over data. -/
namespace DL
open PySem L2

/-- no star ahead of it -/
def nst : Expr → Bool
  | .Starred _ _ => false
  | _ => true
theorem star1 {e : Expr} {es : List Expr} {env : Env} (h : nst e = true) : starEach (e :: es) env = (false, eval e env) :: starEach es env := by
  cases e <;> first | rfl | exact absurd (show false = true from h) Bool.false_ne_true
theorem star1n {e : Expr} {env : Env} (h : nst e = true) : starEach [e] env = [(false, eval e env)] := star1 h
theorem star2n {a b : Expr} {env : Env} (h : nst a = true) (h2 : nst b = true) : starEach [a, b] env = [(false, eval a env), (false, eval b env)] := by rw [star1 h, star1n h2]
theorem starN {env : Env} {pos : Pos} : ∀ {es : List Expr}, es.all nst = true → (backTo pos (starEach es env)).any (·.1) = false
  | [], _ => rfl
  | e :: es, h => by
    have q := Bool.and_eq_true_iff.mp h
    rw [star1 q.1]
    show (false || (backTo pos (starEach es env)).any (·.1)) = false
    rw [Bool.false_or]
    exact starN q.2
/-- plain data; ptr: a mutable object by its address; scr: the script -/
inductive D where
  | non | bl (b : Bool) | int (i : Int) | str (x : Str) | tup (ds : List D) | lst (ds : List D) | ptr (a : Addr) | scr (ns : List Int)

/-- the top's own tuple at a -/
def KTup (K : PySem.W.Frag) (a : Addr) (xs : List V) : Prop := ∃ (o : Obj) (its : Array Value) (n : Nat), K.lookup a = some o ∧ o.cls = .type "tuple" ∧ o.data = .seq its n ∧ its.size ≤ sizeLine ∧ Vals xs its.toList
def nI : D → Bool
  | .int _ => false
  | _ => true
/-- the tuple at a: told by G, or (if not all are ints) the top's own -/
def TkT (K : PySem.W.Frag) (G : Hp) (a : Addr) (xs : List V) (ds : List D) : Prop := G a = some (.tup xs) ∨ (KTup K a xs ∧ ds.any nI = true)
theorem TkT.of {K : PySem.W.Frag} {G : Hp} {a : Addr} {xs : List V} {ds : List D} (h : G a = some (.tup xs)) : TkT K G a xs ds := .inl h
mutual
/-- the value v is the datum d, its tuples and lists standing in G -/
inductive Rp (K : PySem.W.Frag) (G : Hp) : V → D → Prop
  | non : Rp K G .non .non
  | bl (b : Bool) : Rp K G (.bl b) (.bl b)
  | int (i : Int) : Rp K G (.int i) (.int i)
  | str (x : Str) : Rp K G (.str x) (.str x)
  | tup {a : Addr} {xs : List V} {ds : List D} : TkT K G a xs ds → RpA K G xs ds → Rp K G (.ref a) (.tup ds)
  | lst {a : Addr} {xs : List V} {ds : List D} : G a = some (.lst xs) → RpA K G xs ds → Rp K G (.ref a) (.lst ds)
  | ptr (a : Addr) : Rp K G (.ref a) (.ptr a)
  | scr {a : Addr} {ns : List Int} : SqL K G a (ns.map V.int) → Rp K G (.ref a) (.scr ns)
inductive RpA (K : PySem.W.Frag) (G : Hp) : List V → List D → Prop
  | nil : RpA K G [] []
  | cons {v : V} {d : D} {vs : List V} {ds : List D} : Rp K G v d → RpA K G vs ds → RpA K G (v :: vs) (d :: ds)
end

/-- G' knows all that G knows -/
def Gx (G G' : Hp) : Prop := ∀ a o, G a = some o → G' a = some o
theorem Gx.refl (G : Hp) : Gx G G := fun _ _ h => h
theorem Gx.trans {G G1 G2 : Hp} (a : Gx G G1) (b : Gx G1 G2) : Gx G G2 := fun x o h => b x o (a x o h)
section
variable {K : PySem.W.Frag} {G G' : Hp} {a : Addr} {xs : List V}
theorem Gx.rd {u : HO} (e : Gx G G') (h : Rd G a u) : Rd G' a u := by
  rcases h with h | ⟨o, h⟩
  · exact .inl (e _ _ h)
  · exact .inr ⟨o, e _ _ h⟩
theorem Gx.sl (e : Gx G G') (h : SqL K G a xs) : SqL K G' a xs := by
  rcases h with h | h
  · exact .inl (e.rd h)
  · exact .inr h
theorem Gx.st (e : Gx G G') (h : SqT K G a xs) : SqT K G' a xs := by
  rcases h with h | h
  · exact .inl (e.rd h)
  · exact .inr h
theorem TkT.mono {ds : List D} (h : TkT K G a xs ds) (e : Gx G G') : TkT K G' a xs ds := h.imp (e _ _) id
theorem TkT.sq {H : Hp} {ds : List D} (h : TkT K G a xs ds) (e : Gx G H) : SqT K H a xs := by
  rcases h with h | ⟨h, _⟩
  · exact SqT.of (e _ _ h)
  · exact .inr h
theorem TkT.int {ns : List Int} (h : TkT K G a xs (ns.map .int)) : G a = some (.tup xs) := by
  rcases h with h | ⟨_, h⟩
  · exact h
  · obtain ⟨x, hx, e⟩ := List.any_eq_true.mp h
    obtain ⟨n, _, rfl⟩ := List.mem_map.mp hx
    cases e
mutual
theorem Rp.mono (e : Gx G G') : ∀ {v : V} {d : D}, Rp K G v d → Rp K G' v d
  | _, _, .non => .non
  | _, _, .bl b => .bl b
  | _, _, .int i => .int i
  | _, _, .str x => .str x
  | _, _, .tup h r => .tup (h.mono e) (RpA.mono e r)
  | _, _, .lst h r => .lst (e _ _ h) (RpA.mono e r)
  | _, _, .ptr a => .ptr a
  | _, _, .scr h => .scr (e.sl h)
theorem RpA.mono (e : Gx G G') : ∀ {vs : List V} {ds : List D}, RpA K G vs ds → RpA K G' vs ds
  | _, _, .nil => .nil
  | _, _, .cons h r => .cons (Rp.mono e h) (RpA.mono e r)
end
theorem RpA.length : ∀ {vs : List V} {ds : List D}, RpA K G vs ds → vs.length = ds.length
  | _, _, .nil => rfl
  | _, _, .cons _ r => congrArg (· + 1) r.length
theorem RpA.get : ∀ {vs : List V} {ds : List D} {i : Nat} {d : D}, RpA K G vs ds → ds[i]? = some d → ∃ v, vs[i]? = some v ∧ Rp K G v d
  | _, _, i, _, .nil, h => by simp at h
  | _, _, 0, _, .cons h _, e => by
    simp at e
    subst e
    exact ⟨_, rfl, h⟩
  | _, _, i + 1, d, .cons _ r, e => by
    obtain ⟨v, h1, h2⟩ := RpA.get (i := i) (d := d) r (by simpa using e)
    exact ⟨v, by simpa using h1, h2⟩
theorem RpA.getV : ∀ {vs : List V} {ds : List D} {i : Nat} {v : V}, RpA K G vs ds → vs[i]? = some v → ∃ d, ds[i]? = some d ∧ Rp K G v d
  | _, _, i, _, .nil, h => by simp at h
  | _, _, 0, _, .cons h _, e => by
    simp at e
    subst e
    exact ⟨_, rfl, h⟩
  | _, _, i + 1, d, .cons _ r, e => by
    obtain ⟨v, h1, h2⟩ := RpA.getV (i := i) (v := d) r (by simpa using e)
    exact ⟨v, by simpa using h1, h2⟩
theorem RpA.append : ∀ {vs ws : List V} {ds es : List D}, RpA K G vs ds → RpA K G ws es → RpA K G (vs ++ ws) (ds ++ es)
  | _, _, _, _, .nil, s => s
  | _, _, _, _, .cons h r, s => .cons h (RpA.append r s)
theorem RpA.take : ∀ {vs : List V} {ds : List D} (n : Nat), RpA K G vs ds → RpA K G (vs.take n) (ds.take n)
  | _, _, 0, _ => .nil
  | _, _, _ + 1, .nil => .nil
  | _, _, n + 1, .cons h r => .cons h (RpA.take n r)
theorem RpA.drop : ∀ {vs : List V} {ds : List D} (n : Nat), RpA K G vs ds → RpA K G (vs.drop n) (ds.drop n)
  | _, _, 0, r => r
  | _, _, _ + 1, .nil => .nil
  | _, _, n + 1, .cons _ r => RpA.drop n r
theorem RpA.set {v : V} {d : D} (h : Rp K G v d) : ∀ {vs : List V} {ds : List D} (i : Nat), RpA K G vs ds → RpA K G (vs.set i v) (ds.set i d)
  | _, _, _, .nil => .nil
  | _, _, 0, .cons _ r => .cons h r
  | _, _, i + 1, .cons q r => .cons q (RpA.set h i r)
theorem RpA.reverse : ∀ {vs : List V} {ds : List D}, RpA K G vs ds → RpA K G vs.reverse ds.reverse
  | _, _, .nil => .nil
  | _, _, .cons h r => by
    rw [List.reverse_cons, List.reverse_cons]
    exact (RpA.reverse r).append (.cons h .nil)
theorem RpA.erase : ∀ {vs : List V} {ds : List D} (i : Nat), RpA K G vs ds → RpA K G (vs.eraseIdx i) (ds.eraseIdx i)
  | _, _, _, .nil => .nil
  | _, _, 0, .cons _ r => r
  | _, _, i + 1, .cons q r => .cons q (RpA.erase i r)
theorem RpA.rep {vs : List V} {ds : List D} (h : RpA K G vs ds) : ∀ k : Nat, RpA K G (List.replicate k vs).flatten (List.replicate k ds).flatten
  | 0 => .nil
  | k + 1 => by
    rw [List.replicate_succ, List.replicate_succ, List.flatten_cons, List.flatten_cons]
    exact h.append (RpA.rep h k)
theorem RpA.ints : ∀ {vs : List V} {ns : List Int}, RpA K G vs (ns.map D.int) → vs = ns.map V.int
  | _, [], .nil => rfl
  | _, n :: ns, .cons h r => by
    cases h
    rw [RpA.ints r]
    rfl
theorem rpa_ints : ∀ ns : List Int, RpA K G (ns.map V.int) (ns.map D.int)
  | [] => .nil
  | n :: ns => .cons (.int n) (rpa_ints ns)
theorem RpA.bls : ∀ {vs : List V} {bs : List Bool}, RpA K G vs (bs.map D.bl) → vs = bs.map V.bl
  | _, [], .nil => rfl
  | _, n :: ns, .cons h r => by
    cases h
    rw [RpA.bls r]
    rfl
end

/-! ### what may change -/
inductive MO where
  | lst (ds : List D)
  | ins (C : Addr) (fs : List (Str × D))
  | dic (kvs : List (Key × D))
  | dit (kvs : List (List Int × D))
  | fdc (o : Obj) (vs : List (Key × V)) (kvs : List (Key × D))
  | xd (fs : List (Str × D))
/-- where an exception's way out is told from -/
structure Base where
  G : Hp
  M : Addr → Option MO
  H : Hp
structure Mem where
  f : Addr → Option MO
  b : Base
instance : CoeFun Mem fun _ => Addr → Option MO := ⟨Mem.f⟩
def updM (M : Mem) (a : Addr) (o : Option MO) : Mem := ⟨fun b => if b = a then o else M b, M.b⟩
/-- another base -/
def Mem.rb (M : Mem) (b : Base) : Mem := ⟨M.f, b⟩
theorem updM_same {M : Mem} {a : Addr} {o : Option MO} : updM M a o a = o := if_pos rfl
theorem updM_ne {M : Mem} {a b : Addr} {o : Option MO} (h : b ≠ a) : updM M a o b = M b := if_neg h
def KVd {κ : Type} (K : PySem.W.Frag) (G : Hp) (vs : List (κ × V)) (ds : List (κ × D)) : Prop := vs.map (·.1) = ds.map (·.1) ∧ RpA K G (vs.map (·.2)) (ds.map (·.2))
def MRp (K : PySem.W.Frag) (G H : Hp) (a : Addr) : MO → Prop
  | .lst ds => ∃ xs, H a = some (.lst xs) ∧ RpA K G xs ds
  | .ins C fs => ∃ dx vs, H a = some (.ins C dx vs) ∧ KVd K G vs fs
  | .dic kvs => ∃ vs, H a = some (.dK vs) ∧ KVd K G vs kvs
  | .dit kvs => ∃ vs : List (List Key × V), H a = some (.dT vs) ∧ KVd K G vs (kvs.map fun p => (p.1.map Sum.inl, p.2))
  | .fdc o vs kvs => H a = some (.frz o (.dK vs)) ∧ KVd K G vs kvs
  | .xd fs => ∃ vs, H a = some (.xd vs) ∧ KVd K G vs fs
structure Wd (K : PySem.W.Frag) (G : Hp) (M : Mem) (H : Hp) : Prop where
  sub : Gx G H
  mem : ∀ a mo, M a = some mo → G a = none ∧ MRp K G H a mo
  hist : ∀ a o, M.b.H a = some o → M.b.M a = none → H a = some o ∧ G a = M.b.G a ∧ M a = none
structure Stp (G : Hp) (M : Mem) (H : Hp) (G' : Hp) (M' : Mem) (H' : Hp) : Prop where
  keep : ∀ a o, H a = some o → M a = none → H' a = some o ∧ G' a = G a ∧ M' a = none
  base : M'.b = M.b
section
variable {K : PySem.W.Frag} {G G' G1 G2 H H' H1 H2 : Hp} {M M' M1 M2 : Mem} {a p : Addr}
theorem MRp.there {mo : MO} (h : MRp K G H a mo) : ∃ o, H a = some o := by
  cases mo with
  | lst ds => obtain ⟨xs, e, _⟩ := h; exact ⟨_, e⟩
  | ins C fs => obtain ⟨_, _, e, _⟩ := h; exact ⟨_, e⟩
  | dic kvs => obtain ⟨_, e, _⟩ := h; exact ⟨_, e⟩
  | dit kvs => obtain ⟨_, e, _⟩ := h; exact ⟨_, e⟩
  | fdc o vs kvs => obtain ⟨e, _⟩ := h; exact ⟨_, e⟩
  | xd fs => obtain ⟨_, e, _⟩ := h; exact ⟨_, e⟩
theorem MRp.carry {mo : MO} (h : MRp K G H a mo) (e : Gx G G') (hh : H' a = H a) : MRp K G' H' a mo := by
  cases mo with
  | lst ds => obtain ⟨xs, q, r⟩ := h; exact ⟨xs, by rw [hh]; exact q, r.mono e⟩
  | ins C fs => obtain ⟨dx, vs, q, k, r⟩ := h; exact ⟨dx, vs, by rw [hh]; exact q, k, r.mono e⟩
  | dic kvs => obtain ⟨vs, q, k, r⟩ := h; exact ⟨vs, by rw [hh]; exact q, k, r.mono e⟩
  | dit kvs => obtain ⟨vs, q, k, r⟩ := h; exact ⟨vs, by rw [hh]; exact q, k, r.mono e⟩
  | fdc o vs kvs => obtain ⟨q, k, r⟩ := h; exact ⟨by rw [hh]; exact q, k, r.mono e⟩
  | xd fs => obtain ⟨vs, q, k, r⟩ := h; exact ⟨vs, by rw [hh]; exact q, k, r.mono e⟩
theorem Wd.free (w : Wd K G M H) (h : H p = none) : G p = none ∧ M p = none := by
  refine ⟨?_, ?_⟩
  · cases e : G p with
    | none => rfl
    | some o => rw [w.sub _ _ e] at h; cases h
  · cases e : M p with
    | none => rfl
    | some o =>
      obtain ⟨u, q⟩ := (w.mem _ _ e).2.there
      rw [q] at h; cases h
theorem Stp.refl : Stp G M H G M H := ⟨fun _ _ h m => ⟨h, rfl, m⟩, rfl⟩
theorem Stp.trans (a : Stp G M H G1 M1 H1) (b : Stp G1 M1 H1 G2 M2 H2) : Stp G M H G2 M2 H2 := ⟨fun x o h m => by
  obtain ⟨h1, g1, m1⟩ := a.keep x o h m
  obtain ⟨h2, g2, m2⟩ := b.keep x o h1 m1
  exact ⟨h2, g2.trans g1, m2⟩, b.base.trans a.base⟩
/-- the way from the base, one step longer -/
theorem Wd.far (w : Wd K G M H) (s : Stp G M H G' M' H') : ∀ a o, M'.b.H a = some o → M'.b.M a = none → H' a = some o ∧ G' a = M'.b.G a ∧ M' a = none := fun x o h m => by
  rw [s.base] at h m ⊢
  obtain ⟨h1, g1, m1⟩ := w.hist x o h m
  obtain ⟨h2, g2, m2⟩ := s.keep x o h1 m1
  exact ⟨h2, g2.trans g1, m2⟩
theorem Wd.fresh (w : Wd K G M H) (h : H p = none) {o : HO} (e : M.b.H p = some o) (m : M.b.M p = none) : False := by
  rw [(w.hist p o e m).1] at h
  cases h
theorem Stp.gx (s : Stp G M H G' M' H') (w : Wd K G M H) : Gx G G' := fun x o h => by
  have m : M x = none := by
    cases e : M x with
    | none => rfl
    | some mo => rw [(w.mem _ _ e).1] at h; cases h
  rw [(s.keep x o (w.sub _ _ h) m).2.1, h]
theorem gx_new (w : Wd K G M H) (h : H p = none) {o : HO} : Gx G (upd G p o) := fun x u e => by
  rw [upd_ne (ne_of_none e (w.free h).1)]
  exact e
/-- a new frozen object -/
theorem Wd.new (w : Wd K G M H) (h : H p = none) {o : HO} : Wd K (upd G p o) M (upd H p o) ∧ Stp G M H (upd G p o) M (upd H p o) := by
  have g := w.free h
  have st : Stp G M H (upd G p o) M (upd H p o) := ⟨fun x u e m => by
    have hx : x ≠ p := ne_of_none e h
    exact ⟨by rw [upd_ne hx]; exact e, upd_ne hx, m⟩, rfl⟩
  refine ⟨⟨fun x u e => ?_, fun x mo e => ?_, w.far st⟩, st⟩
  · by_cases hx : x = p
    · subst hx; rw [upd_same] at e ⊢; exact e
    · rw [upd_ne hx] at e ⊢; exact w.sub _ _ e
  · have hx : x ≠ p := fun z => by subst z; rw [g.2] at e; cases e
    obtain ⟨h1, h2⟩ := w.mem _ _ e
    exact ⟨by rw [upd_ne hx]; exact h1, h2.carry (gx_new w h) (upd_ne hx)⟩
/-- a new mutable object -/
theorem Wd.newM (w : Wd K G M H) (h : H p = none) {o : HO} {mo : MO} (r : MRp K G (upd H p o) p mo) : Wd K G (updM M p (some mo)) (upd H p o) ∧ Stp G M H G (updM M p (some mo)) (upd H p o) := by
  have g := w.free h
  have st : Stp G M H G (updM M p (some mo)) (upd H p o) := ⟨fun x u e m => by
    have hx : x ≠ p := ne_of_none e h
    exact ⟨by rw [upd_ne hx]; exact e, rfl, by rw [updM_ne hx]; exact m⟩, rfl⟩
  refine ⟨⟨fun x u e => ?_, fun x m e => ?_, w.far st⟩, st⟩
  · rw [upd_ne (ne_of_none (w.sub _ _ e) h)]; exact w.sub _ _ e
  · by_cases hx : x = p
    · subst hx; rw [updM_same] at e; cases e; exact ⟨g.1, r⟩
    · rw [updM_ne hx] at e
      obtain ⟨h1, h2⟩ := w.mem _ _ e
      exact ⟨h1, h2.carry (Gx.refl G) (upd_ne hx)⟩
/-- a mutable object written -/
theorem Wd.write (w : Wd K G M H) {m0 mo : MO} (hm : M p = some m0) {o : HO} (r : MRp K G (upd H p o) p mo) : Wd K G (updM M p (some mo)) (upd H p o) ∧ Stp G M H G (updM M p (some mo)) (upd H p o) := by
  have g := (w.mem _ _ hm).1
  have st : Stp G M H G (updM M p (some mo)) (upd H p o) := ⟨fun x u e m => by
    have hx : x ≠ p := fun z => by subst z; rw [hm] at m; cases m
    exact ⟨by rw [upd_ne hx]; exact e, rfl, by rw [updM_ne hx]; exact m⟩, rfl⟩
  refine ⟨⟨fun x u e => ?_, fun x m e => ?_, w.far st⟩, st⟩
  · rw [upd_ne (ne_of_none e g)]; exact w.sub _ _ e
  · by_cases hx : x = p
    · subst hx; rw [updM_same] at e; cases e; exact ⟨g, r⟩
    · rw [updM_ne hx] at e
      obtain ⟨h1, h2⟩ := w.mem _ _ e
      exact ⟨h1, h2.carry (Gx.refl G) (upd_ne hx)⟩

/-- a mutable list that nobody writes any more -/
theorem Wd.freeze (w : Wd K G M H) {ds : List D} (hm : M p = some (.lst ds)) : ∃ xs, H p = some (.lst xs) ∧ RpA K G xs ds ∧ Wd K (upd G p (.lst xs)) (updM M p none) H ∧ Stp G M H (upd G p (.lst xs)) (updM M p none) H ∧ Gx G (upd G p (.lst xs)) := by
  obtain ⟨g, xs, e, r⟩ := w.mem _ _ hm
  have gx : Gx G (upd G p (.lst xs)) := fun x u q => by rw [upd_ne (ne_of_none q g)]; exact q
  have st : Stp G M H (upd G p (.lst xs)) (updM M p none) H := ⟨fun x u q m => by
    have hx : x ≠ p := fun z => by subst z; rw [hm] at m; cases m
    exact ⟨q, upd_ne hx, by rw [updM_ne hx]; exact m⟩, rfl⟩
  refine ⟨xs, e, r, ⟨fun x u q => ?_, fun x m q => ?_, w.far st⟩, st, gx⟩
  · by_cases hx : x = p
    · subst hx; rw [upd_same] at q; cases q; exact e
    · rw [upd_ne hx] at q; exact w.sub _ _ q
  · have hx : x ≠ p := fun z => by subst z; rw [updM_same] at q; cases q
    rw [updM_ne hx] at q
    obtain ⟨h1, h2⟩ := w.mem _ _ q
    exact ⟨by rw [upd_ne hx]; exact h1, h2.carry gx rfl⟩
end

/-! ### the judgements -/
abbrev Sg := List (Option D)
structure SRp (K : PySem.W.Frag) (G : Hp) (sg : Sg) (σ : L2.St) : Prop where
  len : σ.length = sg.length
  at_ : ∀ (i : Nat) (d : D), sg[i]? = some (some d) → ∃ v, σ[i]? = some (some v) ∧ Rp K G v d
theorem SRp.mono {K : PySem.W.Frag} {G G' : Hp} {sg : Sg} {σ : L2.St} (e : Gx G G') (r : SRp K G sg σ) : SRp K G' sg σ := ⟨r.len, fun i d h => let ⟨v, a, b⟩ := r.at_ i d h; ⟨v, a, b.mono e⟩⟩
theorem SRp.set {K : PySem.W.Frag} {G : Hp} {sg : Sg} {σ : L2.St} {v : V} {d : D} (r : SRp K G sg σ) (i : Nat) (h : Rp K G v d) : SRp K G (sg.set i (some d)) (σ.set i (some v)) := by
  refine ⟨by simp [r.len], fun j e q => ?_⟩
  by_cases hj : i = j
  · subst hj
    by_cases hl : i < sg.length
    · rw [List.getElem?_set_self hl] at q
      cases q
      exact ⟨v, List.getElem?_set_self (by rw [r.len]; exact hl), h⟩
    · rw [List.getElem?_eq_none (by simpa using hl)] at q; cases q
  · rw [List.getElem?_set_ne hj] at q ⊢
    exact r.at_ j e q
/-- the end of an evaluation -/
def PV (K : PySem.W.Frag) (G : Hp) (M : Mem) (H : Hp) (Q : D → Mem → Prop) : VK := fun v H' => ∃ d G' M', Stp G M H G' M' H' ∧ Wd K G' M' H' ∧ Rp K G' v d ∧ Q d M'
def PB (K : PySem.W.Frag) (G : Hp) (M : Mem) (H : Hp) (Q : Bool → Mem → Prop) : Bool → Hp → Prop := fun b H' => ∃ G' M', Stp G M H G' M' H' ∧ Wd K G' M' H' ∧ Q b M'
def PL (K : PySem.W.Frag) (G : Hp) (M : Mem) (H : Hp) (Q : List D → Mem → Prop) : List V → Hp → Prop := fun vs H' => ∃ ds G' M', Stp G M H G' M' H' ∧ Wd K G' M' H' ∧ RpA K G' vs ds ∧ Q ds M'
def PN (K : PySem.W.Frag) (G : Hp) (M : Mem) (H : Hp) (Q : Sg → Mem → Prop) : L2.St → Hp → Prop := fun σ' H' => ∃ sg' G' M', Stp G M H G' M' H' ∧ Wd K G' M' H' ∧ SRp K G' sg' σ' ∧ Q sg' M'
structure EndsD where
  nx : Sg → Mem → Prop
  rt : D → Mem → Prop
  bk : Sg → Mem → Prop := fun _ _ => False
  ct : Sg → Mem → Prop := fun _ _ => False
def toE (K : PySem.W.Frag) (G : Hp) (M : Mem) (H : Hp) (E : EndsD) : Ends := { nx := PN K G M H E.nx, rt := PV K G M H E.rt, bk := PN K G M H E.bk, ct := PN K G M H E.ct }

/-- the weakest readings -/
structure tW (X : Cx) (e : Expr) (σ : L2.St) (H : Hp) (R : VK) : Prop where
  run : ∀ pins s, Inv X pins σ H s → wpAny (model X.prog X.w) X.A (eval e X.env) (EP X pins σ R) X.xe s
structure tWT (X : Cx) (e : Expr) (σ : L2.St) (H : Hp) (R : Bool → Hp → Prop) : Prop where
  run : ∀ pins s, Inv X pins σ H s → wpAny (model X.prog X.w) X.A (isTrue e X.env (eval e X.env)) (TP X pins σ R) X.xe s
structure tWW (X : Cx) (e : Expr) (σ : L2.St) (H : Hp) (R : Bool → Hp → Prop) : Prop where
  run : ∀ whole pins s, Inv X pins σ H s → wpAny (model X.prog X.w) X.A (isTrue e X.env whole) (TP X pins σ R) X.xe s
structure tWA (X : Cx) (es : List Expr) (σ : L2.St) (H : Hp) (R : List V → Hp → Prop) : Prop where
  run : ∀ pos pins s, Inv X pins σ H s → wpAny (model X.prog X.w) X.A (spliced (backTo pos (starEach es X.env))) (AP X pins σ R) X.xe s
structure tWS (X : Cx) (st : Stmt) (D : Ends) (σ : L2.St) (H : Hp) : Prop where
  run : ∀ pins s, Inv X pins σ H s → wpAny (model X.prog X.w) X.A (exec st X.env) (SP X pins D) X.xe s
structure tWSs (X : Cx) (st : List Stmt) (D : Ends) (σ : L2.St) (H : Hp) : Prop where
  run : ∀ pins s, Inv X pins σ H s → wpAny (model X.prog X.w) X.A (execs st X.env) (SP X pins D) X.xe s
structure gW (X : Cx) (tg : Expr) (v : V) (σ : L2.St) (H : Hp) (R : L2.St → Hp → Prop) : Prop where
  run : ∀ pins s u, Inv X pins σ H s → RelV v u → wpAny (model X.prog X.w) X.A (assign tg X.env u) (fun _ s' => ∃ σ' H', Inv X pins σ' H' s' ∧ R σ' H') X.xe s
section
variable {X : Cx}
theorem pe_w {e : Expr} : PE X e (tW X e) := ⟨fun pins s σ H Q I h => h.run pins s I⟩
theorem pt_w {e : Expr} : PT X e (tWT X e) := ⟨fun pins s σ H Q I h => h.run pins s I⟩
theorem pw_w {e : Expr} : PW X e (tWW X e) := ⟨fun wh pins s σ H Q I h => h.run wh pins s I⟩
theorem pa_w {es : List Expr} : PA X es (tWA X es) := ⟨fun pos pins s σ H Q I h => h.run pos pins s I⟩
theorem ps_w {st : Stmt} : PS X st (tWS X st) := ⟨fun pins s σ H Q I h => h.run pins s I⟩
theorem pss_w {st : List Stmt} : PSs X st (tWSs X st) := ⟨fun pins s σ H Q I h => h.run pins s I⟩
theorem pg_w {tg : Expr} : PG X tg (gW X tg) := ⟨fun pins s σ H v u Q I r h => h.run pins s u I r⟩

/-- e evaluates so that Q holds of its datum and the mutable part -/
def WE (X : Cx) (e : Expr) (sg : Sg) (M : Mem) (Q : D → Mem → Prop) : Prop := ∀ σ H G, Wd X.K G M H → SRp X.K G sg σ → tW X e σ H (PV X.K G M H Q)
def WT (X : Cx) (e : Expr) (sg : Sg) (M : Mem) (Q : Bool → Mem → Prop) : Prop := ∀ σ H G, Wd X.K G M H → SRp X.K G sg σ → tWT X e σ H (PB X.K G M H Q)
def WW (X : Cx) (e : Expr) (sg : Sg) (M : Mem) (Q : Bool → Mem → Prop) : Prop := ∀ σ H G, Wd X.K G M H → SRp X.K G sg σ → tWW X e σ H (PB X.K G M H Q)
def WA (X : Cx) (es : List Expr) (sg : Sg) (M : Mem) (Q : List D → Mem → Prop) : Prop := ∀ σ H G, Wd X.K G M H → SRp X.K G sg σ → tWA X es σ H (PL X.K G M H Q)
def WS (X : Cx) (st : Stmt) (sg : Sg) (M : Mem) (E : EndsD) : Prop := ∀ σ H G, Wd X.K G M H → SRp X.K G sg σ → tWS X st (toE X.K G M H E) σ H
def WSs (X : Cx) (st : List Stmt) (sg : Sg) (M : Mem) (E : EndsD) : Prop := ∀ σ H G, Wd X.K G M H → SRp X.K G sg σ → tWSs X st (toE X.K G M H E) σ H
/-- .. to one datum, nothing changing -/
abbrev EE (X : Cx) (e : Expr) (sg : Sg) (M : Mem) (d : D) : Prop := WE X e sg M fun x M' => x = d ∧ M' = M
abbrev ET (X : Cx) (e : Expr) (sg : Sg) (M : Mem) (b : Bool) : Prop := WT X e sg M fun x M' => x = b ∧ M' = M
abbrev EA (X : Cx) (es : List Expr) (sg : Sg) (M : Mem) (ds : List D) : Prop := WA X es sg M fun x M' => x = ds ∧ M' = M

theorem tW.imp {e : Expr} {σ : L2.St} {H : Hp} {R R' : VK} (h : tW X e σ H R) (k : ∀ v H', R v H' → R' v H') : tW X e σ H R' := ⟨fun pins s I => thn (h.run pins s I) fun u s' ⟨v, H', J, r, q⟩ => ⟨v, H', J, r, k v H' q⟩⟩
theorem tWT.imp {e : Expr} {σ : L2.St} {H : Hp} {R R' : Bool → Hp → Prop} (h : tWT X e σ H R) (k : ∀ v H', R v H' → R' v H') : tWT X e σ H R' := ⟨fun pins s I => thn (h.run pins s I) fun u s' ⟨H', J, q⟩ => ⟨H', J, k u H' q⟩⟩
theorem tWW.imp {e : Expr} {σ : L2.St} {H : Hp} {R R' : Bool → Hp → Prop} (h : tWW X e σ H R) (k : ∀ v H', R v H' → R' v H') : tWW X e σ H R' := ⟨fun wh pins s I => thn (h.run wh pins s I) fun u s' ⟨H', J, q⟩ => ⟨H', J, k u H' q⟩⟩
theorem tWA.imp {es : List Expr} {σ : L2.St} {H : Hp} {R R' : List V → Hp → Prop} (h : tWA X es σ H R) (k : ∀ v H', R v H' → R' v H') : tWA X es σ H R' := ⟨fun pos pins s I => thn (h.run pos pins s I) fun u s' ⟨v, H', J, r, q⟩ => ⟨v, H', J, r, k v H' q⟩⟩
theorem SP.imp {pins : List (Addr × Obj)} {D D' : Ends} {f : Flow} {s : Shared} (h : SP X pins D f s) (k1 : ∀ σ H, D.nx σ H → D'.nx σ H) (k2 : ∀ v H, D.rt v H → D'.rt v H) (k3 : ∀ σ H, D.bk σ H → D'.bk σ H) (k4 : ∀ σ H, D.ct σ H → D'.ct σ H) : SP X pins D' f s := by
  cases f with
  | next => obtain ⟨σ, H, I, q⟩ := h; exact ⟨σ, H, I, k1 _ _ q⟩
  | brk => obtain ⟨σ, H, I, q⟩ := h; exact ⟨σ, H, I, k3 _ _ q⟩
  | cont => obtain ⟨σ, H, I, q⟩ := h; exact ⟨σ, H, I, k4 _ _ q⟩
  | ret u => obtain ⟨v, σ, H, I, r, q⟩ := h; exact ⟨v, σ, H, I, r, k2 _ _ q⟩
theorem tWS.imp {st : Stmt} {σ : L2.St} {H : Hp} {D D' : Ends} (h : tWS X st D σ H) (k1 : ∀ σ H, D.nx σ H → D'.nx σ H) (k2 : ∀ v H, D.rt v H → D'.rt v H) (k3 : ∀ σ H, D.bk σ H → D'.bk σ H) (k4 : ∀ σ H, D.ct σ H → D'.ct σ H) : tWS X st D' σ H := ⟨fun pins s I => thn (h.run pins s I) fun f s' q => SP.imp q k1 k2 k3 k4⟩
theorem tWSs.imp {st : List Stmt} {σ : L2.St} {H : Hp} {D D' : Ends} (h : tWSs X st D σ H) (k1 : ∀ σ H, D.nx σ H → D'.nx σ H) (k2 : ∀ v H, D.rt v H → D'.rt v H) (k3 : ∀ σ H, D.bk σ H → D'.bk σ H) (k4 : ∀ σ H, D.ct σ H → D'.ct σ H) : tWSs X st D' σ H := ⟨fun pins s I => thn (h.run pins s I) fun f s' q => SP.imp q k1 k2 k3 k4⟩

section
variable {K : PySem.W.Frag} {G H H' : Hp} {M : Mem}
theorem PV.imp {Q Q' : D → Mem → Prop} {v : V} (h : PV K G M H Q v H') (k : ∀ d M', Q d M' → Q' d M') : PV K G M H Q' v H' := let ⟨d, G', M', s, w, r, q⟩ := h; ⟨d, G', M', s, w, r, k _ _ q⟩
theorem PV.base {Q : D → Mem → Prop} {v : V} {G1 H1 : Hp} {M1 : Mem} (s : Stp G M H G1 M1 H1) (h : PV K G1 M1 H1 Q v H') : PV K G M H Q v H' := let ⟨d, G', M', s', w, r, q⟩ := h; ⟨d, G', M', s.trans s', w, r, q⟩
theorem PB.base {Q : Bool → Mem → Prop} {v : Bool} {G1 H1 : Hp} {M1 : Mem} (s : Stp G M H G1 M1 H1) (h : PB K G1 M1 H1 Q v H') : PB K G M H Q v H' := let ⟨G', M', s', w, q⟩ := h; ⟨G', M', s.trans s', w, q⟩
theorem PL.base {Q : List D → Mem → Prop} {v : List V} {G1 H1 : Hp} {M1 : Mem} (s : Stp G M H G1 M1 H1) (h : PL K G1 M1 H1 Q v H') : PL K G M H Q v H' := let ⟨d, G', M', s', w, r, q⟩ := h; ⟨d, G', M', s.trans s', w, r, q⟩
theorem PN.base {Q : Sg → Mem → Prop} {σ : L2.St} {G1 H1 : Hp} {M1 : Mem} (s : Stp G M H G1 M1 H1) (h : PN K G1 M1 H1 Q σ H') : PN K G M H Q σ H' := let ⟨d, G', M', s', w, r, q⟩ := h; ⟨d, G', M', s.trans s', w, r, q⟩
theorem PV.here {Q : D → Mem → Prop} {v : V} {d : D} (w : Wd K G M H) (r : Rp K G v d) (q : Q d M) : PV K G M H Q v H := ⟨d, G, M, Stp.refl, w, r, q⟩
theorem PB.here {Q : Bool → Mem → Prop} {b : Bool} (w : Wd K G M H) (q : Q b M) : PB K G M H Q b H := ⟨G, M, Stp.refl, w, q⟩
end
theorem WE.imp {e : Expr} {sg : Sg} {M : Mem} {Q Q' : D → Mem → Prop} (h : WE X e sg M Q) (k : ∀ d M', Q d M' → Q' d M') : WE X e sg M Q' := fun σ H G w r => (h σ H G w r).imp fun v H' p => p.imp k
theorem WT.imp {e : Expr} {sg : Sg} {M : Mem} {Q Q' : Bool → Mem → Prop} (h : WT X e sg M Q) (k : ∀ d M', Q d M' → Q' d M') : WT X e sg M Q' := fun σ H G w r => (h σ H G w r).imp fun v H' ⟨G', M', a, b, q⟩ => ⟨G', M', a, b, k _ _ q⟩
theorem WW.imp {e : Expr} {sg : Sg} {M : Mem} {Q Q' : Bool → Mem → Prop} (h : WW X e sg M Q) (k : ∀ d M', Q d M' → Q' d M') : WW X e sg M Q' := fun σ H G w r => (h σ H G w r).imp fun v H' ⟨G', M', a, b, q⟩ => ⟨G', M', a, b, k _ _ q⟩
theorem WA.imp {es : List Expr} {sg : Sg} {M : Mem} {Q Q' : List D → Mem → Prop} (h : WA X es sg M Q) (k : ∀ d M', Q d M' → Q' d M') : WA X es sg M Q' := fun σ H G w r => (h σ H G w r).imp fun v H' ⟨d, G', M', a, b, c, q⟩ => ⟨d, G', M', a, b, c, k _ _ q⟩
structure EndsD.Le (E E' : EndsD) : Prop where
  nx : ∀ sg M, E.nx sg M → E'.nx sg M
  rt : ∀ d M, E.rt d M → E'.rt d M
  bk : ∀ sg M, E.bk sg M → E'.bk sg M
  ct : ∀ sg M, E.ct sg M → E'.ct sg M
theorem PN.imp {K : PySem.W.Frag} {G H H' : Hp} {M : Mem} {Q Q' : Sg → Mem → Prop} {σ : L2.St} (h : PN K G M H Q σ H') (k : ∀ d M', Q d M' → Q' d M') : PN K G M H Q' σ H' := let ⟨d, G', M', s, w, r, q⟩ := h; ⟨d, G', M', s, w, r, k _ _ q⟩
theorem WS.imp {st : Stmt} {sg : Sg} {M : Mem} {E E' : EndsD} (h : WS X st sg M E) (k : E.Le E') : WS X st sg M E' := fun σ H G w r => (h σ H G w r).imp (fun _ _ q => PN.imp q k.nx) (fun _ _ q => PV.imp q k.rt) (fun _ _ q => PN.imp q k.bk) (fun _ _ q => PN.imp q k.ct)
theorem WSs.imp {st : List Stmt} {sg : Sg} {M : Mem} {E E' : EndsD} (h : WSs X st sg M E) (k : E.Le E') : WSs X st sg M E' := fun σ H G w r => (h σ H G w r).imp (fun _ _ q => PN.imp q k.nx) (fun _ _ q => PV.imp q k.rt) (fun _ _ q => PN.imp q k.bk) (fun _ _ q => PN.imp q k.ct)
/-- a rule of the layer below, by its reading -/
theorem WE.of {e : Expr} {t : TE} {sg : Sg} {M : Mem} {Q : D → Mem → Prop} (h : PE X e t) (k : ∀ σ H G, Wd X.K G M H → SRp X.K G sg σ → t σ H (PV X.K G M H Q)) : WE X e sg M Q := fun σ H G w r => ⟨fun pins s I => h.run pins s σ H _ I (k σ H G w r)⟩
theorem WT.of {e : Expr} {t : TT} {sg : Sg} {M : Mem} {Q : Bool → Mem → Prop} (h : PT X e t) (k : ∀ σ H G, Wd X.K G M H → SRp X.K G sg σ → t σ H (PB X.K G M H Q)) : WT X e sg M Q := fun σ H G w r => ⟨fun pins s I => h.run pins s σ H _ I (k σ H G w r)⟩
theorem WW.of {e : Expr} {t : TT} {sg : Sg} {M : Mem} {Q : Bool → Mem → Prop} (h : PW X e t) (k : ∀ σ H G, Wd X.K G M H → SRp X.K G sg σ → t σ H (PB X.K G M H Q)) : WW X e sg M Q := fun σ H G w r => ⟨fun wh pins s I => h.run wh pins s σ H _ I (k σ H G w r)⟩
theorem WA.of {es : List Expr} {t : TA} {sg : Sg} {M : Mem} {Q : List D → Mem → Prop} (h : PA X es t) (k : ∀ σ H G, Wd X.K G M H → SRp X.K G sg σ → t σ H (PL X.K G M H Q)) : WA X es sg M Q := fun σ H G w r => ⟨fun pos pins s I => h.run pos pins s σ H _ I (k σ H G w r)⟩
theorem WS.of {st : Stmt} {t : TS} {sg : Sg} {M : Mem} {E : EndsD} (h : PS X st t) (k : ∀ σ H G, Wd X.K G M H → SRp X.K G sg σ → t (toE X.K G M H E) σ H) : WS X st sg M E := fun σ H G w r => ⟨fun pins s I => h.run pins s σ H _ I (k σ H G w r)⟩
theorem WSs.of {st : List Stmt} {t : TS} {sg : Sg} {M : Mem} {E : EndsD} (h : PSs X st t) (k : ∀ σ H G, Wd X.K G M H → SRp X.K G sg σ → t (toE X.K G M H E) σ H) : WSs X st sg M E := fun σ H G w r => ⟨fun pins s I => h.run pins s σ H _ I (k σ H G w r)⟩
theorem toE_base {K : PySem.W.Frag} {G H G1 H1 : Hp} {M M1 : Mem} {E : EndsD} {st : List Stmt} {σ : L2.St} {H0 : Hp} (s : Stp G M H G1 M1 H1) (h : tWSs X st (toE K G1 M1 H1 E) σ H0) : tWSs X st (toE K G M H E) σ H0 := h.imp (fun _ _ q => PN.base s q) (fun _ _ q => PV.base s q) (fun _ _ q => PN.base s q) (fun _ _ q => PN.base s q)
end
end DL
set_option Elab.async false
set_option linter.all false
set_option maxRecDepth 100000
set_option maxHeartbeats 4000000
/-! DLb: rules for expressions over data. -/
namespace DL
open PySem L2
section
variable {X : Cx} {sg : Sg} {M : Mem} {Q : D → Mem → Prop} {Qb : Bool → Mem → Prop} {pos : Pos} {K : PySem.W.Frag}

/-! ### names, constants -/
theorem we_v (i : Nat) {x : Str} {d : D} (hs : sg[i]? = some (some d)) (q : Q d M) (hN : X.N[i]? = some x := by rfl) (hv : Vis X.env.scope x := by first | exact Or.inl rfl | exact Or.inr (Or.inl rfl) | exact Or.inr (Or.inr rfl))
    (hd : (x == ("__debug__" : Str)) = false := by decide) (hcd : (x == ("__classdict__" : Str)) = false := by decide) : WE X (.Name x pos) sg M Q :=
  WE.of (pe_var hN hv hd hcd) fun σ H G w r => by
    obtain ⟨v, e, rp⟩ := r.at_ i d hs
    exact ⟨v, e, PV.here w rp q⟩
theorem we_int {i : Int} {j : Nat} (q : Q (.int i) M) : WE X (.Constant (.int i) j pos) sg M Q := WE.of pe_int fun σ H G w r => PV.here w (.int i) q
theorem we_bl {b : Bool} {j : Nat} (q : Q (.bl b) M) : WE X (.Constant (.bool b) j pos) sg M Q := WE.of pe_bl fun σ H G w r => PV.here w (.bl b) q
theorem we_non {j : Nat} (q : Q .non M) : WE X (.Constant .none j pos) sg M Q := WE.of pe_non fun σ H G w r => PV.here w .non q
theorem we_str {x : Str} {j : Nat} (q : Q (.str x) M) : WE X (.Constant (.str x) j pos) sg M Q := WE.of pe_str fun σ H G w r => PV.here w (.str x) q
/-- a module's constant int -/
theorem we_gi {x : Str} {i : Int} {t : Tok} (hm : X.mg x = some (.int i t)) (q : Q (.int i) M) (hg : Gl X x := by rfl) (hd : (x == ("__debug__" : Str)) = false := by decide) : WE X (.Name x pos) sg M Q := WE.of (pe_glob (v := .int i) hg hm (show ∃ t', Value.int i t = Value.int i t' from ⟨t, rfl⟩) hd) fun σ H G w r => PV.here w (.int i) q
theorem we_gs {x y : Str} {t : Tok} (hm : X.mg x = some (.str y t)) (q : Q (.str y) M) (hg : Gl X x := by rfl) (hd : (x == ("__debug__" : Str)) = false := by decide) : WE X (.Name x pos) sg M Q := WE.of (pe_glob (v := .str y) hg hm (show ∃ t', Value.str y t = Value.str y t' from ⟨t, rfl⟩) hd) fun σ H G w r => PV.here w (.str y) q

/-! ### two-place operators -/
def OpD (K : PySem.W.Frag) (r : R2) (x y : D) (M : Mem) (Q : D → Mem → Prop) : Prop := ∀ (G H : Hp) (v u : V) (R : VK), Wd K G M H → Rp K G v x → Rp K G u y → (∀ z H', PV K G M H Q z H' → R z H') → r v u H R
theorem two {a b : Expr} {r : R2} {Qa : D → Mem → Prop} (ha : WE X a sg M Qa) (hb : ∀ x M1, Qa x M1 → WE X b sg M1 fun y M2 => OpD X.K r x y M2 Q) {σ : L2.St} {H G : Hp} (w : Wd X.K G M H) (s : SRp X.K G sg σ) : tOp r (tW X a) (tW X b) σ H (PV X.K G M H Q) :=
  (ha σ H G w s).imp fun v H1 ⟨x, G1, M1, st, w1, r1, q1⟩ => (hb x M1 q1 σ H1 G1 w1 (s.mono (st.gx w))).imp fun u H2 ⟨y, G2, M2, st2, w2, r2, q2⟩ => q2 G2 H2 v u _ w2 (r1.mono (st2.gx w1)) r2 fun z H' h => h.base (st.trans st2)
theorem we_op {op : Operator} {a b : Expr} {r : R2} {Qa : D → Mem → Prop} (ho : OpR X (binaryOp op) r) (ha : WE X a sg M Qa) (hb : ∀ x M1, Qa x M1 → WE X b sg M1 fun y M2 => OpD X.K r x y M2 Q) : WE X (.BinOp a op b pos) sg M Q := WE.of (pe_op ho pe_w pe_w) fun σ H G w s => two ha hb w s
theorem ee_op {op : Operator} {a b : Expr} {r : R2} {x y : D} (ho : OpR X (binaryOp op) r) (ha : EE X a sg M x) (hb : EE X b sg M y) (hr : OpD X.K r x y M Q) : WE X (.BinOp a op b pos) sg M Q := we_op ho ha fun x' M1 ⟨e1, e2⟩ => by
  subst e1; subst e2
  exact hb.imp fun y' M2 ⟨e1, e2⟩ => by subst e1; subst e2; exact hr
theorem we_cmp {op : CmpOp} {a b : Expr} {r : R2} {Qa : D → Mem → Prop} (ho : OpR X (compareOp op) r) (ha : WE X a sg M Qa) (hb : ∀ x M1, Qa x M1 → WE X b sg M1 fun y M2 => OpD X.K r x y M2 Q) (hm : behindInMarks op b = false := by first | exact nomark _ | rfl) : WE X (.Compare a [op] [b] pos) sg M Q := WE.of (pe_cmpR ho pe_w pe_w hm) fun σ H G w s => two ha hb w s
theorem ee_cmp {op : CmpOp} {a b : Expr} {r : R2} {x y : D} (ho : OpR X (compareOp op) r) (ha : EE X a sg M x) (hb : EE X b sg M y) (hr : OpD X.K r x y M Q) (hm : behindInMarks op b = false := by first | exact nomark _ | rfl) : WE X (.Compare a [op] [b] pos) sg M Q := we_cmp ho ha (fun x' M1 ⟨e1, e2⟩ => by
  subst e1; subst e2
  exact hb.imp fun y' M2 ⟨e1, e2⟩ => by subst e1; subst e2; exact hr) hm
/-- a comparison as a test -/
theorem wt_cmp {op : CmpOp} {a b : Expr} {r : R2} {Qa : D → Mem → Prop} (ho : OpR X (compareOp op) r) (ha : WE X a sg M Qa) (hb : ∀ x M1, Qa x M1 → WE X b sg M1 fun y M2 => OpD X.K r x y M2 fun z M3 => ∃ k, z = .bl k ∧ Qb k M3) (hm : behindInMarks op b = false := by first | exact nomark _ | rfl) : WT X (.Compare a [op] [b] pos) sg M Qb :=
  WT.of (pt_cmpR ho pe_w pe_w hm) fun σ H G w s => by
    refine (ha σ H G w s).imp fun v H1 ⟨x, G1, M1, st, w1, r1, q1⟩ => (hb x M1 q1 σ H1 G1 w1 (s.mono (st.gx w))).imp fun u H2 ⟨y, G2, M2, st2, w2, r2, q2⟩ => q2 G2 H2 v u _ w2 (r1.mono (st2.gx w1)) r2 fun z H' h => ?_
    obtain ⟨d, G', M', s', w', r', k, rfl, q⟩ := h
    cases r'
    exact ⟨k, rfl, G', M', (st.trans st2).trans s', w', q⟩
theorem et_cmp {op : CmpOp} {a b : Expr} {r : R2} {x y : D} (ho : OpR X (compareOp op) r) (ha : EE X a sg M x) (hb : EE X b sg M y) (hr : OpD X.K r x y M fun z M3 => ∃ k, z = .bl k ∧ Qb k M3) (hm : behindInMarks op b = false := by first | exact nomark _ | rfl) : WT X (.Compare a [op] [b] pos) sg M Qb := wt_cmp ho ha (fun x' M1 ⟨e1, e2⟩ => by
  subst e1; subst e2
  exact hb.imp fun y' M2 ⟨e1, e2⟩ => by subst e1; subst e2; exact hr) hm
/-- a < b < c -/
def tri (X : Cx) (a b c : Expr) (r r' : R2) (sg : Sg) (M : Mem) (Q : Bool → Mem → Prop) : Prop := WE X a sg M fun x M1 => WE X b sg M1 fun y M2 => OpD X.K r x y M2 fun z M3 => ∃ k, z = .bl k ∧ (k = false → Q false M3) ∧ (k = true → WE X c sg M3 fun u M4 => OpD X.K r' y u M4 fun z M5 => ∃ k, z = .bl k ∧ Q k M5)
theorem tri_run {a b c : Expr} {r r' : R2} (h : tri X a b c r r' sg M Qb) {σ : L2.St} {H G : Hp} {R : VK} (w : Wd X.K G M H) (s : SRp X.K G sg σ) (hR : ∀ k H', PB X.K G M H Qb k H' → R (.bl k) H') : tChain r r' (tW X a) (tW X b) (tW X c) σ H R := by
  refine (h σ H G w s).imp fun v H1 ⟨x, G1, M1, st, w1, r1, q1⟩ => (q1 σ H1 G1 w1 (s.mono (st.gx w))).imp fun u H2 ⟨y, G2, M2, st2, w2, r2, q2⟩ => q2 G2 H2 v u _ w2 (r1.mono (st2.gx w1)) r2 fun z H' h => ?_
  obtain ⟨d, G3, M3, st3, w3, r3, k, rfl, q0, q1'⟩ := h
  cases r3
  refine ⟨k, rfl, ?_⟩
  cases k with
  | false => exact hR false H' ⟨G3, M3, (st.trans st2).trans st3, w3, q0 rfl⟩
  | true =>
    refine (q1' rfl σ H' G3 w3 (s.mono (((st.trans st2).trans st3).gx w))).imp fun t H4 ⟨z, G4, M4, st4, w4, r4, q4⟩ => q4 G4 H4 u t _ w4 (r2.mono ((st3.trans st4).gx w2)) r4 fun z' H5 h5 => ?_
    obtain ⟨d, G5, M5, st5, w5, r5, k, rfl, q5⟩ := h5
    cases r5
    exact hR k H5 ⟨G5, M5, (((st.trans st2).trans st3).trans st4).trans st5, w5, q5⟩
theorem we_chain {op op' : CmpOp} {a b c : Expr} {r r' : R2} (ho : OpR X (compareOp op) r) (ho' : OpR X (compareOp op') r') (h : tri X a b c r r' sg M fun k M1 => Q (.bl k) M1) (hm : lastMarks [op, op'] [b, c] = false := by with_unfolding_all rfl) : WE X (.Compare a [op, op'] [b, c] pos) sg M Q :=
  WE.of (pe_chain ho ho' pe_w pe_w pe_w hm) fun σ H G w s => tri_run h w s fun k H' ⟨G', M', st, w', q⟩ => ⟨.bl k, G', M', st, w', .bl k, q⟩
theorem wt_chain {op op' : CmpOp} {a b c : Expr} {r r' : R2} (ho : OpR X (compareOp op) r) (ho' : OpR X (compareOp op') r') (h : tri X a b c r r' sg M Qb) (hm : lastMarks [op, op'] [b, c] = false := by with_unfolding_all rfl) : WT X (.Compare a [op, op'] [b, c] pos) sg M Qb :=
  WT.of (pt_chain ho ho' pe_w pe_w pe_w hm) fun σ H G w s => tri_run h w s fun k H' q => ⟨k, rfl, q⟩
/-- three ints -/
theorem tri_I {a b c : Expr} {p p' : Int → Int → Bool} {i j l : Int} (ha : EE X a sg M (.int i)) (hb : EE X b sg M (.int j)) (hc : EE X c sg M (.int l)) (q : Qb (p i j && p' j l) M) : tri X a b c (rI0 fun i j => .bl (p i j)) (rI0 fun i j => .bl (p' i j)) sg M Qb :=
  ha.imp fun x M1 ⟨e1, e2⟩ => by
    subst e1; subst e2
    exact hb.imp fun y M2 ⟨e1, e2⟩ => by
      subst e1; subst e2
      intro G H v u R w rx ry k
      cases rx; cases ry
      refine ⟨i, j, rfl, rfl, k _ _ (PV.here w (.bl _) ⟨p i j, rfl, fun e => ?_, fun e => hc.imp fun z M3 ⟨e1, e2⟩ => ?_⟩)⟩
      · rw [e] at q; exact q
      · subst e1; subst e2
        intro G H v u R w rx ry k
        cases rx; cases ry
        refine ⟨j, l, rfl, rfl, k _ _ (PV.here w (.bl _) ⟨p' j l, rfl, ?_⟩)⟩
        rw [e, Bool.true_and] at q; exact q
/-! the operators by data -/
theorem od_I0 {f : Int → Int → Int} {i j : Int} (q : Q (.int (f i j)) M) : OpD K (rI0 fun i j => .int (f i j)) (.int i) (.int j) M Q := fun G H v u R w rx ry k => by
  cases rx; cases ry
  exact ⟨i, j, rfl, rfl, k _ _ (PV.here w (.int _) q)⟩
theorem od_I {C : Int → Int → Prop} {f : Int → Int → Int} {i j : Int} (c : C i j) (q : Q (.int (f i j)) M) : OpD K (rI C fun i j => .int (f i j)) (.int i) (.int j) M Q := fun G H v u R w rx ry k => by
  cases rx; cases ry
  exact ⟨i, j, rfl, rfl, c, k _ _ (PV.here w (.int _) q)⟩
theorem od_B0 {f : Int → Int → Bool} {i j : Int} (q : Q (.bl (f i j)) M) : OpD K (rI0 fun i j => .bl (f i j)) (.int i) (.int j) M Q := fun G H v u R w rx ry k => by
  cases rx; cases ry
  exact ⟨i, j, rfl, rfl, k _ _ (PV.here w (.bl _) q)⟩
theorem od_catS {x y : Str} (h : x.length + y.length ≤ sizeLine) (q : Q (.str (x ++ y)) M) : OpD K (fun x y H Q => ∃ i j, x = .str i ∧ y = .str j ∧ i.length + j.length ≤ sizeLine ∧ Q (.str (i ++ j)) H) (.str x) (.str y) M Q := fun G H v u R w rx ry k => by
  cases rx; cases ry
  exact ⟨x, y, rfl, rfl, h, k _ _ (PV.here w (.str _) q)⟩
theorem new_tup {G H : Hp} {p : Addr} {xs : List V} {ds : List D} (w : Wd K G M H) (hp : H p = none) (r : RpA K G xs ds) (q : Q (.tup ds) M) : PV K G M H Q (.ref p) (upd H p (.tup xs)) := by
  obtain ⟨w', st⟩ := w.new hp (o := .tup xs)
  exact ⟨_, _, _, st, w', .tup (.of upd_same) (r.mono (gx_new w hp)), q⟩
theorem new_lst {G H : Hp} {p : Addr} {xs : List V} {ds : List D} (w : Wd K G M H) (hp : H p = none) (r : RpA K G xs ds) (q : Q (.lst ds) M) : PV K G M H Q (.ref p) (upd H p (.lst xs)) := by
  obtain ⟨w', st⟩ := w.new hp (o := .lst xs)
  exact ⟨_, _, _, st, w', .lst upd_same (r.mono (gx_new w hp)), q⟩
/-- .. that may change -/
theorem new_lstM {G H : Hp} {p : Addr} {xs : List V} {ds : List D} (w : Wd K G M H) (hp : H p = none) (r : RpA K G xs ds) (q : ∀ p, M p = none → Q (.ptr p) (updM M p (some (.lst ds)))) : PV K G M H Q (.ref p) (upd H p (.lst xs)) := by
  obtain ⟨w', st⟩ := w.newM hp (o := .lst xs) (mo := .lst ds) ⟨xs, upd_same, r⟩
  exact ⟨_, _, _, st, w', .ptr p, q p (w.free hp).2⟩
theorem od_catT {ds es : List D} (h : ds.length + es.length ≤ sizeLine) (q : Q (.tup (ds ++ es)) M) : OpD K (rCatA K) (.tup ds) (.tup es) M Q := fun G H v u R w rx ry k => by
  cases rx with
  | tup h1 r1 =>
    cases ry with
    | tup h2 r2 =>
      refine ⟨_, _, _, _, rfl, rfl, h1.sq w.sub, h2.sq w.sub, by rw [r1.length, r2.length]; exact h, fun e => ?_, fun e e2 => ?_, fun e e2 p hp => ?_⟩
      · subst e
        cases r1
        exact k _ _ (PV.here w (.tup h2 r2) q)
      · subst e2
        cases r2
        rw [List.append_nil] at q
        exact k _ _ (PV.here w (.tup h1 r1) q)
      · exact k _ _ (new_tup w hp (r1.append r2) q)
/-- a list as it stands: frozen, or one that may change -/
def LsD (M : Mem) (x : D) (ds : List D) : Prop := x = .lst ds ∨ ∃ p, x = .ptr p ∧ M p = some (.lst ds)
theorem LsD.at {x : D} {ds : List D} {v : V} {G H : Hp} (h : LsD M x ds) (w : Wd K G M H) (r : Rp K G v x) : ∃ a xs, v = .ref a ∧ H a = some (.lst xs) ∧ RpA K G xs ds := by
  rcases h with rfl | ⟨p, rfl, e⟩
  · cases r with
    | lst h1 r1 => exact ⟨_, _, rfl, w.sub _ _ h1, r1⟩
  · cases r
    obtain ⟨_, xs, h1, r1⟩ := w.mem _ _ e
    exact ⟨_, _, rfl, h1, r1⟩
theorem od_cat {x y : D} {ds es : List D} (hx : LsD M x ds) (hy : LsD M y es) (h : ds.length + es.length ≤ sizeLine) (q : Q (.lst (ds ++ es)) M) : OpD K rCat x y M Q := fun G H v u R w rx ry k => by
  obtain ⟨a, xs, rfl, h1, r1⟩ := hx.at w rx
  obtain ⟨b, ys, rfl, h2, r2⟩ := hy.at w ry
  exact ⟨a, b, xs, ys, rfl, rfl, h1, h2, by rw [r1.length, r2.length]; exact h, fun p hp => k _ _ (new_lst w hp (r1.append r2) q)⟩
theorem od_repT {ds : List D} {i : Int} (h0 : ds ≠ []) (h1 : 2 ≤ i) (h2 : i ≤ 1000) (h3 : ds.length ≤ 1000) (q : Q (.tup (List.replicate i.toNat ds).flatten) M) : OpD K (rRepT K) (.tup ds) (.int i) M Q := fun G H v u R w rx ry k => by
  cases ry
  cases rx with
  | tup e1 r1 => exact ⟨_, _, _, rfl, rfl, e1.sq w.sub, fun e => h0 (by subst e; cases r1; rfl), h1, h2, by rw [r1.length]; exact h3, fun p hp => k _ _ (new_tup w hp (r1.rep _) q)⟩
theorem od_rep {x : D} {ds : List D} {i : Int} (hx : LsD M x ds) (h1 : -(2 ^ 63) ≤ i) (h2 : i < 2 ^ 63) (h3 : ds.length * i.toNat ≤ sizeLine) (q : Q (.lst (List.replicate i.toNat ds).flatten) M) : OpD K rRep x (.int i) M Q := fun G H v u R w rx ry k => by
  cases ry
  obtain ⟨a, xs, rfl, e1, r1⟩ := hx.at w rx
  exact ⟨a, i, xs, rfl, rfl, e1, h1, h2, by rw [r1.length]; exact h3, fun p hp => k _ _ (new_lst w hp (r1.rep _) q)⟩
/-- is None, is not None -/
def isNon : D → Bool
  | .non => true
  | _ => false
theorem Rp.non_iff {G : Hp} {v : V} {d : D} (r : Rp K G v d) : decide (v = .non) = isNon d := by cases r <;> rfl
theorem od_isN {x : D} (q : Q (.bl (isNon x)) M) : OpD K (fun x y H Q => y = .non ∧ Q (.bl (decide (x = .non))) H) x .non M Q := fun G H v u R w rx ry k => by
  cases ry
  refine ⟨rfl, k _ _ ?_⟩
  rw [rx.non_iff]
  exact PV.here w (.bl _) q
theorem od_notN {x : D} (q : Q (.bl (!isNon x)) M) : OpD K (fun x y H Q => y = .non ∧ Q (.bl (!decide (x = .non))) H) x .non M Q := fun G H v u R w rx ry k => by
  cases ry
  refine ⟨rfl, k _ _ ?_⟩
  rw [rx.non_iff]
  exact PV.here w (.bl _) q
/-- is, is not of two bools -/
theorem od_isB {a b : Bool} (q : Q (.bl (decide (a = b))) M) : OpD K rIsB (.bl a) (.bl b) M Q := fun G H v u R w rx ry k => by
  cases rx; cases ry
  exact ⟨a, b, rfl, rfl, k _ _ (PV.here w (.bl _) q)⟩
theorem od_notB {a b : Bool} (q : Q (.bl (!decide (a = b))) M) : OpD K rNotB (.bl a) (.bl b) M Q := fun G H v u R w rx ry k => by
  cases rx; cases ry
  exact ⟨a, b, rfl, rfl, k _ _ (PV.here w (.bl _) q)⟩
/-- == of ints, of texts -/
theorem od_eqI {i j : Int} (q : Q (.bl (decide (i = j))) M) : OpD K rEq (.int i) (.int j) M Q := fun G H v u R w rx ry k => by
  cases rx; cases ry
  have e : decide (V.int i = V.int j) = decide (i = j) := decide_eq_decide.mpr ⟨V.int.inj, congrArg _⟩
  refine ⟨rfl, k _ _ ?_⟩
  rw [e]
  exact PV.here w (.bl _) q
theorem od_neI {i j : Int} (q : Q (.bl (!decide (i = j))) M) : OpD K rNe (.int i) (.int j) M Q := fun G H v u R w rx ry k => by
  cases rx; cases ry
  have e : decide (V.int i = V.int j) = decide (i = j) := decide_eq_decide.mpr ⟨V.int.inj, congrArg _⟩
  refine ⟨rfl, k _ _ ?_⟩
  rw [e]
  exact PV.here w (.bl _) q
theorem od_eqS {i j : Str} (q : Q (.bl (decide (i = j))) M) : OpD K rEq (.str i) (.str j) M Q := fun G H v u R w rx ry k => by
  cases rx; cases ry
  have e : decide (V.str i = V.str j) = decide (i = j) := decide_eq_decide.mpr ⟨V.str.inj, congrArg _⟩
  refine ⟨rfl, k _ _ ?_⟩
  rw [e]
  exact PV.here w (.bl _) q
theorem od_neS {i j : Str} (q : Q (.bl (!decide (i = j))) M) : OpD K rNe (.str i) (.str j) M Q := fun G H v u R w rx ry k => by
  cases rx; cases ry
  have e : decide (V.str i = V.str j) = decide (i = j) := decide_eq_decide.mpr ⟨V.str.inj, congrArg _⟩
  refine ⟨rfl, k _ _ ?_⟩
  rw [e]
  exact PV.here w (.bl _) q
theorem od_eqB {i j : Bool} (q : Q (.bl (decide (i = j))) M) : OpD K rEq (.bl i) (.bl j) M Q := fun G H v u R w rx ry k => by
  cases rx; cases ry
  have e : decide (V.bl i = V.bl j) = decide (i = j) := decide_eq_decide.mpr ⟨V.bl.inj, congrArg _⟩
  refine ⟨rfl, k _ _ ?_⟩
  rw [e]
  exact PV.here w (.bl _) q

/-! ### == of data at any depth -/
mutual
def toPy : D → PyData
  | .non => .none
  | .bl b => .bool b
  | .int i => .int i
  | .str x => .str x
  | .tup ds => .tuple (toPyA ds)
  | .lst ds => .list (toPyA ds)
  | .ptr _ => .none
  | .scr ns => .list (ns.map .int)
def toPyA : List D → List PyData
  | [] => []
  | d :: ds => toPy d :: toPyA ds
end
mutual
/-- no mutable object within -/
def pl : D → Bool
  | .tup ds => plA ds
  | .lst ds => plA ds
  | .ptr _ => false
  | .scr _ => false
  | _ => true
def plA : List D → Bool
  | [] => true
  | d :: ds => pl d && plA ds
end
theorem dp_ints {H : Hp} : ∀ ns : List Int, DpAll K H (ns.map V.int) (ns.map PyData.int)
  | [] => .nil
  | n :: ns => .cons (.int n) (dp_ints ns)
mutual
theorem dp_of {G H : Hp} (e : Gx G H) : ∀ {v : V} {d : D}, Rp K G v d → pl d = true → Dp K H v (toPy d)
  | _, _, .non, _ => .non
  | _, _, .bl b, _ => .bl b
  | _, _, .int i, _ => .int i
  | _, _, .str x, _ => .str x
  | _, _, .tup h r, p => .tup (h.sq e) (dp_all e r p)
  | _, _, .lst h r, p => .lst (SqL.of (e _ _ h)) (dp_all e r p)
  | _, _, .ptr _, p => Bool.noConfusion (show false = true from p)
  | _, _, .scr _, p => Bool.noConfusion (show false = true from p)
theorem dp_all {G H : Hp} (e : Gx G H) : ∀ {vs : List V} {ds : List D}, RpA K G vs ds → plA ds = true → DpAll K H vs (toPyA ds)
  | _, _, .nil, _ => .nil
  | _, _, .cons h r, p => by
    have q := Bool.and_eq_true_iff.mp p
    exact .cons (dp_of e h q.1) (dp_all e r q.2)
end
/-- what a datum is told by, lists that may change at the top included -/
def PyD (M : Mem) (x : D) (d : PyData) : Prop := (pl x = true ∧ d = toPy x) ∨ ∃ ds, LsD M x ds ∧ plA ds = true ∧ d = .list (toPyA ds)
theorem PyD.dp {x : D} {d : PyData} {v : V} {G H : Hp} (h : PyD M x d) (w : Wd K G M H) (r : Rp K G v x) : Dp K H v d := by
  rcases h with ⟨p, rfl⟩ | ⟨ds, l, p, rfl⟩
  · exact dp_of w.sub r p
  · obtain ⟨a, xs, rfl, h1, r1⟩ := l.at w r
    exact .lst (SqL.of h1) (dp_all w.sub r1 p)
theorem od_eqD {x y : D} {d e : PyData} (hx : PyD M x d) (hy : PyD M y e) (sd : SeqAt.shaped d = true) (se : SeqAt.shaped e = true) (q : Q (.bl (PyData.eqv d e)) M) : OpD K (rEqD K) x y M Q := fun G H v u R w rx ry k =>
  ⟨d, e, hx.dp w rx, hy.dp w ry, sd, se, k _ _ (PV.here w (.bl _) q)⟩
theorem od_neD {x y : D} {d e : PyData} (hx : PyD M x d) (hy : PyD M y e) (sd : SeqAt.shaped d = true) (se : SeqAt.shaped e = true) (q : Q (.bl (!PyData.eqv d e)) M) : OpD K (rNeD K) x y M Q := fun G H v u R w rx ry k =>
  ⟨d, e, hx.dp w rx, hy.dp w ry, sd, se, k _ _ (PV.here w (.bl _) q)⟩

/-! ### truth, and, or, not, if -/
theorem wt_val {e : Expr} (h : WE X e sg M fun x M1 => ∃ k, x = .bl k ∧ Qb k M1) (he : ∀ whole, isTrue e X.env whole = (do let v ← whole; standAt e.pos; holding [v] (truthy v)) := by intro _; rfl) : WT X e sg M Qb := WT.of (pt_val pe_w he) fun σ H G w s =>
  (h σ H G w s).imp fun v H1 ⟨d, G', M', st, w', r, k, e, q⟩ => by
    subst e
    cases r
    exact ⟨k, rfl, G', M', st, w', q⟩
theorem wt_not {e : Expr} (h : WT X e sg M fun b M1 => Qb (!b) M1) : WT X (.UnaryOp .Not e pos) sg M Qb := WT.of (pt_not pt_w) fun σ H G w s => (h σ H G w s).imp fun v H1 ⟨G', M', st, w', q⟩ => ⟨G', M', st, w', q⟩
theorem ww_pt {e : Expr} (h : WW X e sg M Qb) : WT X e sg M Qb := fun σ H G w s => ⟨fun pins t I => (h σ H G w s).run _ pins t I⟩
theorem ww_and1 {e : Expr} (h : WT X e sg M Qb) : WW X (.BoolOp .And [e] pos) sg M Qb := WW.of (pw_and1 pt_w) fun σ H G w s => h σ H G w s
theorem ww_or1 {e : Expr} (h : WT X e sg M Qb) : WW X (.BoolOp .Or [e] pos) sg M Qb := WW.of (pw_or1 pt_w) fun σ H G w s => h σ H G w s
theorem ww_and {a b : Expr} {rest : List Expr} (h : WT X a sg M fun k M1 => (k = false → Qb false M1) ∧ (k = true → WW X (.BoolOp .And (b :: rest) pos) sg M1 Qb)) : WW X (.BoolOp .And (a :: b :: rest) pos) sg M Qb := WW.of (pw_and pt_w pw_w) fun σ H G w s => by
  refine (h σ H G w s).imp fun k H1 ⟨G1, M1, st, w1, q0, q1⟩ => ?_
  cases k with
  | true => exact (q1 rfl σ H1 G1 w1 (s.mono (st.gx w))).imp fun _ _ p => p.base st
  | false => exact ⟨G1, M1, st, w1, q0 rfl⟩
theorem ww_or {a b : Expr} {rest : List Expr} (h : WT X a sg M fun k M1 => (k = true → Qb true M1) ∧ (k = false → WW X (.BoolOp .Or (b :: rest) pos) sg M1 Qb)) : WW X (.BoolOp .Or (a :: b :: rest) pos) sg M Qb := WW.of (pw_or pt_w pw_w) fun σ H G w s => by
  refine (h σ H G w s).imp fun k H1 ⟨G1, M1, st, w1, q0, q1⟩ => ?_
  cases k with
  | false => exact (q1 rfl σ H1 G1 w1 (s.mono (st.gx w))).imp fun _ _ p => p.base st
  | true => exact ⟨G1, M1, st, w1, q0 rfl⟩
/-- as values: all but the last True or False -/
theorem we_one {op : BoolOp} {e : Expr} (h : WE X e sg M Q) : WE X (.BoolOp op [e] pos) sg M Q := WE.of (pe_one pe_w) fun σ H G w s => h σ H G w s
theorem we_and {a b : Expr} {rest : List Expr} (h : WE X a sg M fun x M1 => ∃ k, x = .bl k ∧ (k = false → Q (.bl false) M1) ∧ (k = true → WE X (.BoolOp .And (b :: rest) pos) sg M1 Q)) : WE X (.BoolOp .And (a :: b :: rest) pos) sg M Q := WE.of (pe_and pe_w pe_w) fun σ H G w s => by
  refine (h σ H G w s).imp fun v H1 ⟨d, G1, M1, st, w1, r1, k, e, q0, q1⟩ => ?_
  subst e
  cases r1
  refine ⟨k, rfl, ?_⟩
  cases k with
  | true => exact (q1 rfl σ H1 G1 w1 (s.mono (st.gx w))).imp fun _ _ p => p.base st
  | false => exact ⟨_, G1, M1, st, w1, .bl false, q0 rfl⟩
theorem we_or {a b : Expr} {rest : List Expr} (h : WE X a sg M fun x M1 => ∃ k, x = .bl k ∧ (k = true → Q (.bl true) M1) ∧ (k = false → WE X (.BoolOp .Or (b :: rest) pos) sg M1 Q)) : WE X (.BoolOp .Or (a :: b :: rest) pos) sg M Q := WE.of (pe_or pe_w pe_w) fun σ H G w s => by
  refine (h σ H G w s).imp fun v H1 ⟨d, G1, M1, st, w1, r1, k, e, q0, q1⟩ => ?_
  subst e
  cases r1
  refine ⟨k, rfl, ?_⟩
  cases k with
  | false => exact (q1 rfl σ H1 G1 w1 (s.mono (st.gx w))).imp fun _ _ p => p.base st
  | true => exact ⟨_, G1, M1, st, w1, .bl true, q0 rfl⟩
theorem we_not {e : Expr} (h : WE X e sg M fun x M1 => ∃ k, x = .bl k ∧ Q (.bl (!k)) M1) : WE X (.UnaryOp .Not e pos) sg M Q := WE.of (pe_not pe_w) fun σ H G w s => (h σ H G w s).imp fun v H1 ⟨d, G1, M1, st, w1, r1, k, e, q⟩ => by
  subst e
  cases r1
  exact ⟨k, rfl, _, G1, M1, st, w1, .bl _, q⟩
theorem we_if {c a b : Expr} (h : WT X c sg M fun k M1 => (k = true → WE X a sg M1 Q) ∧ (k = false → WE X b sg M1 Q)) : WE X (.IfExp c a b pos) sg M Q := WE.of (pe_ifExp pt_w pe_w pe_w) fun σ H G w s => by
  refine (h σ H G w s).imp fun k H1 ⟨G1, M1, st, w1, q1, q0⟩ => ?_
  cases k with
  | true => exact (q1 rfl σ H1 G1 w1 (s.mono (st.gx w))).imp fun _ _ p => p.base st
  | false => exact (q0 rfl σ H1 G1 w1 (s.mono (st.gx w))).imp fun _ _ p => p.base st
/-! .. where nothing changes -/
theorem ee_and {a b : Expr} {rest : List Expr} {p q : Bool} (ha : EE X a sg M (.bl p)) (hb : p = true → EE X (.BoolOp .And (b :: rest) pos) sg M (.bl q)) : EE X (.BoolOp .And (a :: b :: rest) pos) sg M (.bl (p && q)) := we_and (ha.imp fun x M1 ⟨e1, e2⟩ => by
  subst e1; subst e2
  refine ⟨p, rfl, fun e => by rw [e]; exact ⟨rfl, rfl⟩, fun e => ?_⟩
  rw [e, Bool.true_and]
  exact hb e)
theorem ee_or {a b : Expr} {rest : List Expr} {p q : Bool} (ha : EE X a sg M (.bl p)) (hb : p = false → EE X (.BoolOp .Or (b :: rest) pos) sg M (.bl q)) : EE X (.BoolOp .Or (a :: b :: rest) pos) sg M (.bl (p || q)) := we_or (ha.imp fun x M1 ⟨e1, e2⟩ => by
  subst e1; subst e2
  refine ⟨p, rfl, fun e => by rw [e]; exact ⟨rfl, rfl⟩, fun e => ?_⟩
  rw [e, Bool.false_or]
  exact hb e)
theorem ee_not {a : Expr} {p : Bool} (ha : EE X a sg M (.bl p)) : EE X (.UnaryOp .Not a pos) sg M (.bl (!p)) := we_not (ha.imp fun x M1 ⟨e1, e2⟩ => by
  subst e1; subst e2
  exact ⟨p, rfl, rfl, rfl⟩)
theorem ee_if {c a b : Expr} {k : Bool} {x : D} (hc : ET X c sg M k) (ha : k = true → EE X a sg M x) (hb : k = false → EE X b sg M x) : EE X (.IfExp c a b pos) sg M x := we_if (hc.imp fun b M1 ⟨e1, e2⟩ => by
  subst e1; subst e2
  exact ⟨ha, hb⟩)
theorem et_val {e : Expr} {k : Bool} (h : EE X e sg M (.bl k)) (he : ∀ whole, isTrue e X.env whole = (do let v ← whole; standAt e.pos; holding [v] (truthy v)) := by intro _; rfl) : ET X e sg M k := wt_val (h.imp fun x M1 ⟨e1, e2⟩ => ⟨k, e1, rfl, e2⟩) he
theorem et_not {e : Expr} {k : Bool} (h : ET X e sg M k) : ET X (.UnaryOp .Not e pos) sg M (!k) := wt_not (h.imp fun x M1 ⟨e1, e2⟩ => ⟨by rw [e1], e2⟩)
abbrev EW (X : Cx) (e : Expr) (sg : Sg) (M : Mem) (b : Bool) : Prop := WW X e sg M fun x M' => x = b ∧ M' = M
theorem ew_and {a b : Expr} {rest : List Expr} {p q : Bool} (ha : ET X a sg M p) (hb : p = true → EW X (.BoolOp .And (b :: rest) pos) sg M q) : EW X (.BoolOp .And (a :: b :: rest) pos) sg M (p && q) := ww_and (ha.imp fun x M1 ⟨e1, e2⟩ => by
  subst e1; subst e2
  refine ⟨fun e => by rw [e]; exact ⟨rfl, rfl⟩, fun e => ?_⟩
  rw [e, Bool.true_and]
  exact hb e)
theorem ew_or {a b : Expr} {rest : List Expr} {p q : Bool} (ha : ET X a sg M p) (hb : p = false → EW X (.BoolOp .Or (b :: rest) pos) sg M q) : EW X (.BoolOp .Or (a :: b :: rest) pos) sg M (p || q) := ww_or (ha.imp fun x M1 ⟨e1, e2⟩ => by
  subst e1; subst e2
  refine ⟨fun e => by rw [e]; exact ⟨rfl, rfl⟩, fun e => ?_⟩
  rw [e, Bool.false_or]
  exact hb e)
end
end DL
set_option Elab.async false
set_option linter.all false
set_option maxRecDepth 100000
set_option maxHeartbeats 4000000
/-! DLc: displays, subscripts, calls, statements, loops, comprehensions over data. -/
namespace DL
open PySem L2
section
variable {X : Cx} {sg : Sg} {M : Mem} {Q : D → Mem → Prop} {Qb : Bool → Mem → Prop} {Ql : List D → Mem → Prop} {pos : Pos} {K : PySem.W.Frag}

/-! ### arguments, displays -/
theorem wa_nil (q : Ql [] M) : WA X [] sg M Ql := WA.of pa_nil fun σ H G w s => ⟨[], G, M, Stp.refl, w, .nil, q⟩
theorem wa_cons {e : Expr} {es : List Expr} (h : WE X e sg M fun x M1 => WA X es sg M1 fun xs M2 => Ql (x :: xs) M2) (hs : starEach (e :: es) X.env = (false, eval e X.env) :: starEach es X.env := by exact star1 rfl) : WA X (e :: es) sg M Ql := WA.of (pa_cons pe_w pa_w hs) fun σ H G w s =>
  (h σ H G w s).imp fun v H1 ⟨x, G1, M1, st, w1, r1, q1⟩ => (q1 σ H1 G1 w1 (s.mono (st.gx w))).imp fun vs H2 ⟨xs, G2, M2, st2, w2, r2, q2⟩ => ⟨x :: xs, G2, M2, st.trans st2, w2, .cons (r1.mono (st2.gx w1)) r2, q2⟩
theorem ea_cons {e : Expr} {es : List Expr} {x : D} {xs : List D} (h : EE X e sg M x) (hr : EA X es sg M xs) (hs : starEach (e :: es) X.env = (false, eval e X.env) :: starEach es X.env := by exact star1 rfl) : EA X (e :: es) sg M (x :: xs) := wa_cons (h.imp fun y M1 ⟨e1, e2⟩ => by
  subst e1; subst e2
  exact hr.imp fun ys M2 ⟨e1, e2⟩ => by subst e1; subst e2; exact ⟨rfl, rfl⟩) hs
theorem ea_nil : EA X [] sg M [] := wa_nil ⟨rfl, rfl⟩
theorem we_tup {es : List Expr} {k : Nat} (h : WA X es sg M fun ds M1 => ds.length ≤ sizeLine ∧ Q (.tup ds) M1) : WE X (.Tuple es k pos) sg M Q := WE.of (pe_tup pa_w) fun σ H G w s =>
  (h σ H G w s).imp fun vs H1 ⟨ds, G1, M1, st, w1, r1, z, q1⟩ => ⟨by rw [r1.length]; exact z, fun p hp => (new_tup w1 hp r1 q1).base st⟩
theorem we_lst {es : List Expr} (h : WA X es sg M fun ds M1 => ds.length ≤ sizeLine ∧ Q (.lst ds) M1) : WE X (.List es pos) sg M Q := WE.of (pe_lst pa_w) fun σ H G w s =>
  (h σ H G w s).imp fun vs H1 ⟨ds, G1, M1, st, w1, r1, z, q1⟩ => ⟨by rw [r1.length]; exact z, fun p hp => (new_lst w1 hp r1 q1).base st⟩
theorem we_lstM {es : List Expr} (h : WA X es sg M fun ds M1 => ds.length ≤ sizeLine ∧ ∀ p, M1 p = none → Q (.ptr p) (updM M1 p (some (.lst ds)))) : WE X (.List es pos) sg M Q := WE.of (pe_lst pa_w) fun σ H G w s =>
  (h σ H G w s).imp fun vs H1 ⟨ds, G1, M1, st, w1, r1, z, q1⟩ => ⟨by rw [r1.length]; exact z, fun p hp => (new_lstM w1 hp r1 q1).base st⟩
theorem small30 {n : Nat} (h : n ≤ 1000 := by exact Nat.le_of_ble_eq_true rfl) : n ≤ sizeLine := Nat.le_trans h (by decide)
theorem ee_tup {es : List Expr} {k : Nat} {ds : List D} (h : EA X es sg M ds) (hz : ds.length ≤ sizeLine := by exact small30) : EE X (.Tuple es k pos) sg M (.tup ds) := we_tup (h.imp fun x M1 ⟨e1, e2⟩ => ⟨by rw [e1]; exact hz, by rw [e1], e2⟩)
theorem ee_lst {es : List Expr} {ds : List D} (h : EA X es sg M ds) (hz : ds.length ≤ sizeLine := by exact small30) : EE X (.List es pos) sg M (.lst ds) := we_lst (h.imp fun x M1 ⟨e1, e2⟩ => ⟨by rw [e1]; exact hz, by rw [e1], e2⟩)

/-! ### subscripts -/
theorem we_ix {a b : Expr} {r : R2} {Qa : D → Mem → Prop} (hr : IxR X r) (ha : WE X a sg M Qa) (hb : ∀ x M1, Qa x M1 → WE X b sg M1 fun y M2 => OpD X.K r x y M2 Q) (hp : PlainIx b := by exact fun _ _ => rfl) : WE X (.Subscript a b pos) sg M Q := WE.of (pe_ix hr pe_w pe_w hp) fun σ H G w s => two ha hb w s
theorem ee_ix {a b : Expr} {r : R2} {x y : D} (hr : IxR X r) (ha : EE X a sg M x) (hb : EE X b sg M y) (ho : OpD X.K r x y M Q) (hp : PlainIx b := by exact fun _ _ => rfl) : WE X (.Subscript a b pos) sg M Q := we_ix hr ha (fun x' M1 ⟨e1, e2⟩ => by
  subst e1; subst e2
  exact hb.imp fun y' M2 ⟨e1, e2⟩ => by subst e1; subst e2; exact ho) hp
theorem at_rp {G : Hp} {vs : List V} {ds : List D} {i : Int} {d : D} (r : RpA K G vs ds) (h : atI ds i = some d) : ∃ v, atI vs i = some v ∧ Rp K G v d := by
  unfold atI at h ⊢
  rw [r.length]
  cases e : ixN ds.length i with
  | none => rw [e] at h; cases h
  | some j =>
    rw [e] at h
    exact r.get h
theorem od_ixT {ds : List D} {i : Int} {d : D} (h : atI ds i = some d) (q : Q d M) : OpD K (rIxT K) (.tup ds) (.int i) M Q := fun G H v u R w rx ry k => by
  cases ry
  cases rx with
  | tup h1 r1 =>
    obtain ⟨z, h2, h3⟩ := at_rp r1 h
    exact ⟨_, _, _, _, rfl, rfl, h1.sq w.sub, h2, k _ _ (PV.here w h3 q)⟩
theorem od_ixL {x : D} {ds : List D} {i : Int} {d : D} (hx : LsD M x ds) (h : atI ds i = some d) (q : Q d M) : OpD K (rIxL K) x (.int i) M Q := fun G H v u R w rx ry k => by
  cases ry
  obtain ⟨a, xs, rfl, h1, r1⟩ := hx.at w rx
  obtain ⟨z, h2, h3⟩ := at_rp r1 h
  exact ⟨_, _, _, _, rfl, rfl, SqL.of h1, h2, k _ _ (PV.here w h3 q)⟩
theorem od_ixS {z : Str} {i : Int} {c : Nat} (hz : z.length ≤ sizeLine) (h : atI z.cps.toList i = some c) (q : Q (.str ⟨#[c]⟩) M) : OpD K rIxS (.str z) (.int i) M Q := fun G H v u R w rx ry k => by
  cases rx; cases ry
  exact ⟨_, _, _, rfl, rfl, hz, h, k _ _ (PV.here w (.str _) q)⟩
/-- a slice's bounds -/
def tWO (X : Cx) (e : Option Expr) : TO := fun σ H R => ∀ (t : TO), PO X e t → True → R none H
def WO (X : Cx) (e : Option Expr) (sg : Sg) (M : Mem) (Qo : Option Int → Mem → Prop) : Prop := match e with
  | none => Qo none M
  | some e => WE X e sg M fun x M1 => ∃ i, x = .int i ∧ Qo (some i) M1
def tO (X : Cx) : Option Expr → TO
  | none => tNoPart
  | some e => tPart (tW X e)
theorem po_w {e : Option Expr} : PO X e (tO X e) := by
  cases e with
  | none => exact po_none
  | some e => exact po_some pe_w
theorem WO.run {e : Option Expr} {Qo : Option Int → Mem → Prop} (h : WO X e sg M Qo) {σ : L2.St} {H G : Hp} {R : Option Int → Hp → Prop} (w : Wd X.K G M H) (s : SRp X.K G sg σ) (k : ∀ o G1 M1 H1, Stp G M H G1 M1 H1 → Wd X.K G1 M1 H1 → Qo o M1 → R o H1) : tO X e σ H R := by
  cases e with
  | none => exact k none G M H Stp.refl w h
  | some e =>
    refine (h σ H G w s).imp fun v H1 ⟨x, G1, M1, st, w1, r1, i, e1, q⟩ => ?_
    subst e1
    cases r1
    exact ⟨i, rfl, k _ _ _ _ st w1 q⟩
def SlD (K : PySem.W.Frag) (r : V → Option Int → Option Int → Hp → VK → Prop) (x : D) (lo hi : Option Int) (M : Mem) (Q : D → Mem → Prop) : Prop := ∀ (G H : Hp) (v : V) (R : VK), Wd K G M H → Rp K G v x → (∀ z H', PV K G M H Q z H' → R z H') → r v lo hi H R
theorem we_sl {a : Expr} {lo hi : Option Expr} {p2 : Pos} {r : V → Option Int → Option Int → Hp → VK → Prop} (hr : SlR X r) (h : WE X a sg M fun x M1 => WO X lo sg M1 fun l M2 => WO X hi sg M2 fun u M3 => SlD X.K r x l u M3 Q) : WE X (.Subscript a (.Slice lo hi none p2) pos) sg M Q := WE.of (pe_slice hr pe_w po_w po_w) fun σ H G w s =>
  (h σ H G w s).imp fun v H1 ⟨x, G1, M1, st, w1, r1, q1⟩ => q1.run w1 (s.mono (st.gx w)) fun l G2 M2 H2 st2 w2 q2 => q2.run w2 (s.mono ((st.trans st2).gx w)) fun u G3 M3 H3 st3 w3 q3 => q3 G3 H3 v _ w3 (r1.mono ((st2.trans st3).gx w1)) fun z H' p => p.base ((st.trans st2).trans st3)
abbrev EO (X : Cx) (e : Option Expr) (sg : Sg) (M : Mem) (o : Option Int) : Prop := WO X e sg M fun x M' => x = o ∧ M' = M
theorem eo_none : EO X none sg M none := ⟨rfl, rfl⟩
theorem eo_some {e : Expr} {i : Int} (h : EE X e sg M (.int i)) : EO X (some e) sg M (some i) := h.imp fun x M1 ⟨e1, e2⟩ => ⟨i, e1, rfl, e2⟩
theorem WO.imp {e : Option Expr} {Qo Qo' : Option Int → Mem → Prop} (h : WO X e sg M Qo) (k : ∀ o M', Qo o M' → Qo' o M') : WO X e sg M Qo' := by
  cases e with
  | none => exact k _ _ h
  | some e => exact WE.imp h fun x M1 ⟨i, e1, q⟩ => ⟨i, e1, k _ _ q⟩
theorem ee_sl {a : Expr} {lo hi : Option Expr} {p2 : Pos} {r : V → Option Int → Option Int → Hp → VK → Prop} {x : D} {l u : Option Int} (hr : SlR X r) (h : EE X a sg M x) (h1 : EO X lo sg M l) (h2 : EO X hi sg M u) (k : SlD X.K r x l u M Q) : WE X (.Subscript a (.Slice lo hi none p2) pos) sg M Q := we_sl hr (h.imp fun y M1 ⟨e1, e2⟩ => by
  subst e1; subst e2
  exact WO.imp h1 fun o M2 ⟨e1, e2⟩ => by
    subst e1; subst e2
    exact WO.imp h2 fun o M3 ⟨e1, e2⟩ => by subst e1; subst e2; exact k)
def cutD {α : Type} (xs : List α) (lo hi : Option Int) : List α := (xs.drop (HT.sIx xs.length 0 lo)).take (HT.sIx xs.length xs.length hi - HT.sIx xs.length 0 lo)
theorem cut_rp {G : Hp} {vs : List V} {ds : List D} (r : RpA K G vs ds) (lo hi : Option Int) : RpA K G (cutV vs lo hi) (cutD ds lo hi) := by
  unfold cutV cutD
  rw [r.length]
  exact (r.drop _).take _
theorem sd_tup {ds : List D} {lo hi : Option Int} (q : Q (.tup (cutD ds lo hi)) M) : SlD K (rSlA K) (.tup ds) lo hi M Q := fun G H v R w rx k => by
  cases rx with
  | @tup a xs _ h1 r1 =>
    refine ⟨a, xs, rfl, h1.sq w.sub, fun e => ?_, fun _ p hp => k _ _ (new_tup w hp (cut_rp r1 lo hi) q)⟩
    have e2 : cutD ds lo hi = ds := by
      unfold cutD
      rw [← r1.length, e.1, e.2, List.drop_zero, Nat.sub_zero, r1.length, List.take_length]
    rw [e2] at q
    exact k _ _ (PV.here w (.tup h1 r1) q)
theorem sd_lst {x : D} {ds : List D} {lo hi : Option Int} (hx : LsD M x ds) (q : Q (.lst (cutD ds lo hi)) M) : SlD K (rSlL K) x lo hi M Q := fun G H v R w rx k => by
  obtain ⟨a, xs, rfl, h1, r1⟩ := hx.at w rx
  exact ⟨a, xs, rfl, SqL.of h1, fun p hp => k _ _ (new_lst w hp (cut_rp r1 lo hi) q)⟩
theorem cut_map (f : Int → V) (ns : List Int) (lo hi : Option Int) : cutV (ns.map f) lo hi = (cutD ns lo hi).map f := by
  unfold cutV cutD
  rw [List.length_map, List.map_take, List.map_drop]
theorem sd_scr {ns : List Int} {lo hi : Option Int} (q : Q (.lst ((cutD ns lo hi).map .int)) M) : SlD K (rSlL K) (.scr ns) lo hi M Q := fun G H v R w rx k => by
  cases rx with
  | @scr a _ h1 =>
    refine ⟨a, _, rfl, w.sub.sl h1, fun p hp => ?_⟩
    rw [cut_map]
    exact k _ _ (new_lst w hp (rpa_ints _) q)

/-! ### calls of built-ins -/
def ClD (K : PySem.W.Frag) (r : List V → Hp → VK → Prop) (xs : List D) (M : Mem) (Q : D → Mem → Prop) : Prop := ∀ (G H : Hp) (vs : List V) (R : VK), Wd K G M H → RpA K G vs xs → (∀ z H', PV K G M H Q z H' → R z H') → r vs H R
theorem we_cb {id : String} {r : List V → Hp → VK → Prop} {x : Str} {p : Pos} {e : Expr} {es : List Expr} (hc : CallR X (.builtin id) r) (hm : X.mg x = none) (hv : bootBuiltins x = some (.builtin id)) (h : WA X (e :: es) sg M fun ds M1 => ClD X.K r ds M1 Q) (hg : Gl X x := by rfl) (hn : x ≠ "__name__" := by decide) (hdb : (x == ("__debug__" : Str)) = false := by decide)
    (he : starEach (e :: es) X.env = (false, eval e X.env) :: starEach es X.env := by exact star1 rfl) (hpl : (backTo pos (starEach es X.env)).any (·.1) = false := by exact starN rfl) : WE X (.Call (.Name x p) (e :: es) [] pos) sg M Q := WE.of (pe_callB hc hg hm hv pa_w hn hdb he hpl) fun σ H G w s =>
  (h σ H G w s).imp fun vs H1 ⟨xs, G1, M1, st, w1, r1, q1⟩ => q1 G1 H1 vs _ w1 r1 fun z H' p => p.base st
theorem we_ct {T : String} {r : List V → Hp → VK → Prop} {x : Str} {p : Pos} {e : Expr} {es : List Expr} (hc : CallR X (.type T) r) (hm : X.mg x = none) (hv : bootBuiltins x = some (.type T)) (h : WA X (e :: es) sg M fun ds M1 => ClD X.K r ds M1 Q) (hg : Gl X x := by rfl) (hn : x ≠ "__name__" := by decide) (hdb : (x == ("__debug__" : Str)) = false := by decide)
    (he : starEach (e :: es) X.env = (false, eval e X.env) :: starEach es X.env := by exact star1 rfl) (hpl : (backTo pos (starEach es X.env)).any (·.1) = false := by exact starN rfl) : WE X (.Call (.Name x p) (e :: es) [] pos) sg M Q := WE.of (pe_callTy hc hg hm hv pa_w hn hdb he hpl) fun σ H G w s =>
  (h σ H G w s).imp fun vs H1 ⟨xs, G1, M1, st, w1, r1, q1⟩ => q1 G1 H1 vs _ w1 r1 fun z H' p => p.base st
theorem RpA.one {G : Hp} {vs : List V} {d : D} (r : RpA K G vs [d]) : ∃ v, vs = [v] ∧ Rp K G v d := by
  cases r with
  | cons h t => cases t; exact ⟨_, rfl, h⟩
theorem RpA.two {G : Hp} {vs : List V} {d e : D} (r : RpA K G vs [d, e]) : ∃ v u, vs = [v, u] ∧ Rp K G v d ∧ Rp K G u e := by
  cases r with
  | cons h t => obtain ⟨u, rfl, h2⟩ := t.one; exact ⟨_, _, rfl, h, h2⟩
theorem cd_len {x : D} {n : Nat} {ds' : List D} (h : x = .tup ds' ∧ ds'.length = n ∨ LsD M x ds' ∧ ds'.length = n) (q : Q (.int n) M) : ClD K (fun xs H Q => ∃ x n, xs = [x] ∧ LenV K x H n ∧ Q (.int n) H) [x] M Q := fun G H vs R w r k => by
  obtain ⟨v, rfl, rv⟩ := r.one
  rcases h with ⟨rfl, rfl⟩ | ⟨l, rfl⟩
  · cases rv with
    | tup h1 r1 =>
      rw [← r1.length] at q
      exact ⟨_, _, rfl, .inr ⟨_, h1.sq w.sub, rfl⟩, k _ _ (PV.here w (.int _) q)⟩
  · obtain ⟨a, xs, rfl, h1, r1⟩ := l.at w rv
    rw [← r1.length] at q
    exact ⟨_, _, rfl, .inl ⟨_, SqL.of h1, rfl⟩, k _ _ (PV.here w (.int _) q)⟩
theorem cd_lenT {ds : List D} (q : Q (.int ds.length) M) : ClD K (fun xs H Q => ∃ x n, xs = [x] ∧ LenV K x H n ∧ Q (.int n) H) [.tup ds] M Q := cd_len (.inl ⟨rfl, rfl⟩) q
theorem cd_lenL {x : D} {ds : List D} (h : LsD M x ds) (q : Q (.int ds.length) M) : ClD K (fun xs H Q => ∃ x n, xs = [x] ∧ LenV K x H n ∧ Q (.int n) H) [x] M Q := cd_len (.inr ⟨h, rfl⟩) q
theorem cd_lenC {ns : List Int} (q : Q (.int ns.length) M) : ClD K (fun xs H Q => ∃ x n, xs = [x] ∧ LenV K x H n ∧ Q (.int n) H) [.scr ns] M Q := fun G H vs R w r k => by
  obtain ⟨v, rfl, rv⟩ := r.one
  cases rv with
  | scr h1 => exact ⟨_, _, rfl, .inl ⟨_, w.sub.sl h1, by rw [List.length_map]⟩, k _ _ (PV.here w (.int _) q)⟩
theorem cd_lenS {z : Str} (hz : z.length ≤ sizeLine) (q : Q (.int z.length) M) : ClD K (fun xs H Q => ∃ x n, xs = [x] ∧ LenV K x H n ∧ Q (.int n) H) [.str z] M Q := fun G H vs R w r k => by
  obtain ⟨v, rfl, rv⟩ := r.one
  cases rv
  exact ⟨_, _, rfl, ⟨hz, rfl⟩, k _ _ (PV.here w (.int _) q)⟩
theorem LsD.bls {x : D} {bs : List Bool} {v : V} {G H : Hp} (h : LsD M x (bs.map .bl)) (w : Wd K G M H) (r : Rp K G v x) : ∃ a, v = .ref a ∧ SqL K H a (bs.map V.bl) := by
  obtain ⟨a, xs, rfl, h1, r1⟩ := h.at w r
  rw [r1.bls] at h1
  exact ⟨a, rfl, SqL.of h1⟩
theorem LsD.ints {x : D} {ns : List Int} {v : V} {G H : Hp} (h : LsD M x (ns.map .int)) (w : Wd K G M H) (r : Rp K G v x) : ∃ a, v = .ref a ∧ SqL K H a (ns.map V.int) := by
  obtain ⟨a, xs, rfl, h1, r1⟩ := h.at w r
  rw [r1.ints] at h1
  exact ⟨a, rfl, SqL.of h1⟩
theorem cd_all {x : D} {bs : List Bool} (h : LsD M x (bs.map .bl)) (q : Q (.bl (bs.all id)) M) : ClD K (rAll K) [x] M Q := fun G H vs R w r k => by
  obtain ⟨v, rfl, rv⟩ := r.one
  obtain ⟨a, rfl, e⟩ := h.bls w rv
  exact ⟨a, bs, rfl, e, k _ _ (PV.here w (.bl _) q)⟩
theorem cd_any {x : D} {bs : List Bool} (h : LsD M x (bs.map .bl)) (q : Q (.bl (bs.any id)) M) : ClD K (rAny K) [x] M Q := fun G H vs R w r k => by
  obtain ⟨v, rfl, rv⟩ := r.one
  obtain ⟨a, rfl, e⟩ := h.bls w rv
  exact ⟨a, bs, rfl, e, k _ _ (PV.here w (.bl _) q)⟩
theorem cd_sum {x : D} {ns : List Int} (h : LsD M x (ns.map .int)) (q : Q (.int ns.sum) M) : ClD K (rSum K) [x] M Q := fun G H vs R w r k => by
  obtain ⟨v, rfl, rv⟩ := r.one
  obtain ⟨a, rfl, e⟩ := h.ints w rv
  exact ⟨a, ns, rfl, e, k _ _ (PV.here w (.int _) q)⟩
theorem cd_max {x : D} {ns : List Int} (h : LsD M x (ns.map .int)) (hl : 0 < ns.length) (q : ∀ m, m ∈ ns → (∀ y, y ∈ ns → y ≤ m) → Q (.int m) M) : ClD K (rMax K) [x] M Q := fun G H vs R w r k => by
  obtain ⟨v, rfl, rv⟩ := r.one
  obtain ⟨a, rfl, e⟩ := h.ints w rv
  exact ⟨a, ns, rfl, e, hl, fun m h1 h2 => k _ _ (PV.here w (.int _) (q m h1 h2))⟩
theorem cd_min {x : D} {ns : List Int} (h : LsD M x (ns.map .int)) (hl : 0 < ns.length) (q : ∀ m, m ∈ ns → (∀ y, y ∈ ns → m ≤ y) → Q (.int m) M) : ClD K (rMin K) [x] M Q := fun G H vs R w r k => by
  obtain ⟨v, rfl, rv⟩ := r.one
  obtain ⟨a, rfl, e⟩ := h.ints w rv
  exact ⟨a, ns, rfl, e, hl, fun m h1 h2 => k _ _ (PV.here w (.int _) (q m h1 h2))⟩
theorem cd_max2 {i j : Int} (q : Q (.int (if j > i then j else i)) M) : ClD K (fun xs H Q => ∃ i j, xs = [.int i, .int j] ∧ Q (.int (if j > i then j else i)) H) [.int i, .int j] M Q := fun G H vs R w r k => by
  obtain ⟨v, u, rfl, rv, ru⟩ := r.two
  cases rv; cases ru
  exact ⟨i, j, rfl, k _ _ (PV.here w (.int _) q)⟩
theorem cd_min2 {i j : Int} (q : Q (.int (if j < i then j else i)) M) : ClD K (fun xs H Q => ∃ i j, xs = [.int i, .int j] ∧ Q (.int (if j < i then j else i)) H) [.int i, .int j] M Q := fun G H vs R w r k => by
  obtain ⟨v, u, rfl, rv, ru⟩ := r.two
  cases rv; cases ru
  exact ⟨i, j, rfl, k _ _ (PV.here w (.int _) q)⟩
theorem cd_int {i : Int} (q : Q (.int i) M) : ClD K (fun xs H Q => (∃ i, xs = [.int i] ∧ Q (.int i) H) ∨ ∃ k, xs = [.bl k] ∧ Q (.int (if k then 1 else 0)) H) [.int i] M Q := fun G H vs R w r k => by
  obtain ⟨v, rfl, rv⟩ := r.one
  cases rv
  exact .inl ⟨i, rfl, k _ _ (PV.here w (.int _) q)⟩
theorem cd_tupT {ds : List D} (q : Q (.tup ds) M) : ClD K (fun xs H Q => ∃ p ys, xs = [.ref p] ∧ ((SqL K H p ys ∧ ∀ l, H l = none → Q (.ref l) (upd H l (.tup ys))) ∨ (SqT K H p ys ∧ Q (.ref p) H))) [.tup ds] M Q := fun G H vs R w r k => by
  obtain ⟨v, rfl, rv⟩ := r.one
  cases rv with
  | tup h1 r1 => exact ⟨_, _, rfl, .inr ⟨h1.sq w.sub, k _ _ (PV.here w (.tup h1 r1) q)⟩⟩
theorem cd_tupL {x : D} {ds : List D} (h : LsD M x ds) (q : Q (.tup ds) M) : ClD K (fun xs H Q => ∃ p ys, xs = [.ref p] ∧ ((SqL K H p ys ∧ ∀ l, H l = none → Q (.ref l) (upd H l (.tup ys))) ∨ (SqT K H p ys ∧ Q (.ref p) H))) [x] M Q := fun G H vs R w r k => by
  obtain ⟨v, rfl, rv⟩ := r.one
  obtain ⟨a, xs, rfl, h1, r1⟩ := h.at w rv
  exact ⟨_, _, rfl, .inl ⟨SqL.of h1, fun p hp => k _ _ (new_tup w hp r1 q)⟩⟩
def rList (K : PySem.W.Frag) : List V → Hp → VK → Prop := fun xs H Q => ∃ p ys, xs = [.ref p] ∧ (SqL K H p ys ∨ SqT K H p ys) ∧ ∀ l, H l = none → Q (.ref l) (upd H l (.lst ys))
theorem seq_of {x : D} {ds : List D} {v : V} {G H : Hp} (h : x = .tup ds ∨ LsD M x ds) (w : Wd K G M H) (r : Rp K G v x) : ∃ p ys, v = .ref p ∧ (SqL K H p ys ∨ SqT K H p ys) ∧ RpA K G ys ds := by
  rcases h with rfl | h
  · cases r with
    | tup h1 r1 => exact ⟨_, _, rfl, .inr (h1.sq w.sub), r1⟩
  · obtain ⟨a, xs, rfl, h1, r1⟩ := h.at w r
    exact ⟨_, _, rfl, .inl (SqL.of h1), r1⟩
theorem cd_lst {x : D} {ds : List D} (h : x = .tup ds ∨ LsD M x ds) (q : Q (.lst ds) M) : ClD K (rList K) [x] M Q := fun G H vs R w r k => by
  obtain ⟨v, rfl, rv⟩ := r.one
  obtain ⟨p, ys, rfl, e, r1⟩ := seq_of h w rv
  exact ⟨p, ys, rfl, e, fun l hl => k _ _ (new_lst w hl r1 q)⟩
theorem cd_lstM {x : D} {ds : List D} (h : x = .tup ds ∨ LsD M x ds) (q : ∀ p, M p = none → Q (.ptr p) (updM M p (some (.lst ds)))) : ClD K (rList K) [x] M Q := fun G H vs R w r k => by
  obtain ⟨v, rfl, rv⟩ := r.one
  obtain ⟨p, ys, rfl, e, r1⟩ := seq_of h w rv
  exact ⟨p, ys, rfl, e, fun l hl => k _ _ (new_lstM w hl r1 q)⟩

/-! ### isinstance -/
def tyD : D → String
  | .non => "NoneType"
  | .bl _ => "bool"
  | .int _ => "int"
  | .str _ => "str"
  | .tup _ => "tuple"
  | .lst _ => "list"
  | .ptr _ => "list"
  | .scr _ => "list"
/-- not an object of an own class -/
def LkD (M : Mem) : D → Prop
  | .ptr p => ∃ ds, M p = some (.lst ds)
  | _ => True
theorem ty_of {x : D} {v : V} {G H : Hp} (h : LkD M x) (w : Wd K G M H) (r : Rp K G v x) : TyX K H v (.type (tyD x)) := by
  cases r with
  | non => exact .base .non
  | bl b => exact .base (.bl b)
  | int i => exact .base (.int i)
  | str x => exact .base (.str x)
  | tup h1 r1 =>
    rcases h1.sq w.sub with (h2 | ⟨o, h2⟩) | ⟨o, its, n, h2, h3, _⟩
    · exact .base (.tup h2)
    · exact .fTuple h2
    · exact .kTuple h2 h3
  | lst h1 r1 => exact .base (.lst (w.sub _ _ h1))
  | ptr a =>
    obtain ⟨ds, e⟩ := h
    obtain ⟨_, xs, h1, _⟩ := w.mem _ _ e
    exact .base (.lst h1)
  | scr h1 =>
    rcases w.sub.sl h1 with (h2 | ⟨o, h2⟩) | ⟨o, its, n, h2, h3, _⟩
    · exact .base (.lst h2)
    · exact .base (.frz h2)
    · exact .kList h2 h3
/-- isinstance(e, T), T a built-in type -/
theorem we_isi {e : Expr} {T : String} {y : Str} {p p2 : Pos} (hm : X.mg "isinstance" = none) (hmT : X.mg y = none) (hv : bootBuiltins y = some (.type T)) (h : WE X e sg M fun x M1 => LkD M1 x ∧ ∃ b, kitB (tyD x) T = some b ∧ Q (.bl b) M1) (hg : Gl X "isinstance" := by rfl) (hgT : Gl X y := by rfl) (hn : y ≠ "__name__" := by decide) (hdb : (y == ("__debug__" : Str)) = false := by decide)
    (hs : starEach [e, .Name y p2] X.env = (false, eval e X.env) :: starEach [.Name y p2] X.env := by exact star1 rfl) (hs2 : starEach [.Name y p2] X.env = (false, eval (.Name y p2) X.env) :: starEach [] X.env := by exact star1 rfl) (hpl : (backTo pos (starEach [.Name y p2] X.env)).any (·.1) = false := by exact starN rfl) : WE X (.Call (.Name "isinstance" p) [e, .Name y p2] [] pos) sg M Q :=
  WE.of (pe_callB call_isi hg hm (by decide +kernel) (pa_cons pe_w (pa_cons (pe_bltn (v := .ty T) hgT hmT hv rfl hn hdb) pa_nil hs2) hs) (by decide) (by decide) hs hpl) fun σ H G w s =>
    (h σ H G w s).imp fun v H1 ⟨x, G1, M1, st, w1, r1, lk, b, e1, q1⟩ => ⟨v, .ty T, .type (tyD x), .type T, b, rfl, .ty T, ty_of lk w1 r1, kit_ty e1, (PV.here w1 (.bl b) q1).base st⟩
end
end DL
set_option Elab.async false
set_option linter.all false
set_option maxRecDepth 100000
set_option maxHeartbeats 4000000
/-! DLd: statements, loops, comprehensions, defs over data. -/
namespace DL
open PySem L2
section
variable {X : Cx} {sg : Sg} {M : Mem} {E : EndsD} {Q : D → Mem → Prop} {pos : Pos} {K : PySem.W.Frag}
/-! ### blocks and small statements -/
theorem wss_nil (q : E.nx sg M) : WSs X [] sg M E := WSs.of pss_nil fun σ H G w s => ⟨sg, G, M, Stp.refl, w, s, q⟩
theorem wss_cons {st : Stmt} {rest : List Stmt} (h : WS X st sg M { E with nx := fun sg' M' => WSs X rest sg' M' E }) : WSs X (st :: rest) sg M E := WSs.of (pss_cons ps_w pss_w) fun σ H G w s =>
  (h σ H G w s).imp (fun σ' H' ⟨sg', G1, M1, st1, w1, s1, q⟩ => toE_base st1 (q σ' H' G1 w1 s1)) (fun _ _ q => q) (fun _ _ q => q) (fun _ _ q => q)
theorem wss_one {st : Stmt} (h : WS X st sg M E) : WSs X [st] sg M E := WSs.of (pss_one ps_w) fun σ H G w s => h σ H G w s
theorem ws_pass (q : E.nx sg M) : WS X (.Pass pos) sg M E := WS.of ps_pass fun σ H G w s => ⟨sg, G, M, Stp.refl, w, s, q⟩
theorem ws_break (q : E.bk sg M) : WS X (.Break pos) sg M E := WS.of ps_break fun σ H G w s => ⟨sg, G, M, Stp.refl, w, s, q⟩
theorem ws_cont (q : E.ct sg M) : WS X (.Continue pos) sg M E := WS.of ps_continue fun σ H G w s => ⟨sg, G, M, Stp.refl, w, s, q⟩
theorem ws_expr {e : Expr} (h : WE X e sg M fun _ M1 => E.nx sg M1) (hs : swapsWith e none pos.line X.env = pure false := by rfl) : WS X (.Expr e pos) sg M E := WS.of (ps_expr pe_w hs) fun σ H G w s =>
  (h σ H G w s).imp fun v H1 ⟨d, G1, M1, st, w1, r1, q⟩ => ⟨sg, G1, M1, st, w1, s.mono (st.gx w), q⟩
theorem ws_doc {x : Str} {j : Nat} {pos' : Pos} (q : E.nx sg M) : WS X (.Expr (.Constant (.str x) j pos) pos') sg M E := WS.of ps_doc fun σ H G w s => ⟨sg, G, M, Stp.refl, w, s, q⟩
theorem ws_ret {e : Expr} (h : WE X e sg M E.rt) : WS X (.Return (some e) pos) sg M E := WS.of (ps_ret pe_w) fun σ H G w s => h σ H G w s
theorem ws_retN (q : E.rt .non M) : WS X (.Return none pos) sg M E := WS.of ps_retN fun σ H G w s => PV.here w .non q
theorem ws_if {c : Expr} {a b : List Stmt} (h : WT X c sg M fun k M1 => (k = true → WSs X a sg M1 E) ∧ (k = false → WSs X b sg M1 E)) : WS X (.If c a b pos) sg M E := WS.of (ps_if pt_w pss_w pss_w) fun σ H G w s => by
  refine (h σ H G w s).imp fun k H1 ⟨G1, M1, st, w1, q1, q0⟩ => ?_
  cases k with
  | true => exact toE_base st (q1 rfl σ H1 G1 w1 (s.mono (st.gx w)))
  | false => exact toE_base st (q0 rfl σ H1 G1 w1 (s.mono (st.gx w)))
theorem ws_ifE {c : Expr} {a b : List Stmt} {k : Bool} (h : ET X c sg M k) (h1 : k = true → WSs X a sg M E) (h0 : k = false → WSs X b sg M E) : WS X (.If c a b pos) sg M E := ws_if (h.imp fun k' M1 ⟨e1, e2⟩ => by
  subst e1; subst e2
  exact ⟨h1, h0⟩)
theorem ws_set (i : Nat) {x : Str} {e : Expr} {pos' : Pos} (hN : X.N.Nodup) (h : WE X e sg M fun d M1 => E.nx (sg.set i (some d)) M1) (hi : X.N[i]? = some x := by rfl) (hx : Loc X.env.scope x := by first | exact Or.inl rfl | exact Or.inr rfl) (hs : swapsWith e (some (.Name x pos')) pos.line X.env = pure false := by rfl) (hf : X.fn x = true ∨ X.env.scope.names.lookup x = some .local := by first | exact .inl rfl | exact .inr rfl) : WS X (.Assign [.Name x pos'] e pos) sg M E :=
  WS.of (ps_set hN hi hx pe_w hs hf) fun σ H G w s => (h σ H G w s).imp fun v H1 ⟨d, G1, M1, st, w1, r1, q⟩ => ⟨_, G1, M1, st, w1, (s.mono (st.gx w)).set i r1, q⟩
theorem ws_par (i j : Nat) {x y : Str} {a b : Expr} {px py pt : Pos} {kt k2 : Nat} {pt2 : Pos} (hc : X.calm = true) (hN : X.N.Nodup) (h : WA X [a, b] sg M fun ds M1 => ∃ c d, ds = [c, d] ∧ E.nx ((sg.set i (some c)).set j (some d)) M1) (hi : X.N[i]? = some x := by rfl) (hj : X.N[j]? = some y := by rfl) (hij : i ≠ j := by decide)
    (hx : X.env.scope.names.lookup x = some .local := by rfl) (hy : X.env.scope.names.lookup y = some .local := by rfl) (hw : swappedStores [.Tuple [.Name x px, .Name y py] kt pt] (.Tuple [a, b] k2 pt2) X.env = pure (some [x, y]) := by rfl) (hs : swapsWithSole [.Tuple [.Name x px, .Name y py] kt pt] (.Tuple [a, b] k2 pt2) pos.line X.env = pure false := by rfl) : WS X (.Assign [.Tuple [.Name x px, .Name y py] kt pt] (.Tuple [a, b] k2 pt2) pos) sg M E :=
  WS.of (ps_par hc hN hi hj hij hx hy pa_w hw hs) fun σ H G w s => (h σ H G w s).imp fun vs H1 ⟨ds, G1, M1, st, w1, r1, c, d, e, q⟩ => by
    subst e
    obtain ⟨v, u, rfl, rv, ru⟩ := r1.two
    exact ⟨v, u, rfl, _, G1, M1, st, w1, ((s.mono (st.gx w)).set i rv).set j ru, q⟩
theorem ws_aug (i : Nat) {x : Str} {e : Expr} {op : Operator} {f : Int → Int → Int} {pos' : Pos} {a : Int} (hN : X.N.Nodup) (ho : PIp X op (ipI f)) (hv : sg[i]? = some (some (.int a))) (h : WE X e sg M fun d M1 => ∃ b, d = .int b ∧ E.nx (sg.set i (some (.int (f a b)))) M1) (hi : X.N[i]? = some x := by rfl) (hx : Loc X.env.scope x := by first | exact Or.inl rfl | exact Or.inr rfl) (hf : X.fn x = true ∨ X.env.scope.names.lookup x = some .local := by first | exact .inl rfl | exact .inr rfl) : WS X (.AugAssign (.Name x pos') op e pos) sg M E :=
  WS.of (ps_aug hN hi hx pe_w ho hf) fun σ H G w s => by
    obtain ⟨v, e1, rv⟩ := s.at_ i _ hv
    cases rv
    refine ⟨_, e1, (h σ H G w s).imp fun u H1 ⟨d, G1, M1, st, w1, r1, b, e, q⟩ => ?_⟩
    subst e
    cases r1
    exact ⟨a, b, rfl, rfl, _, G1, M1, st, w1, (s.mono (st.gx w)).set i (.int _), q⟩
/-- a list that may change is taken as it stands from now on -/
theorem wss_freeze {i : Nat} {p : Addr} {ds : List D} {sts : List Stmt} (hm : M p = some (.lst ds)) (hi : sg[i]? = some (some (.ptr p))) (h : WSs X sts (sg.set i (some (.lst ds))) (updM M p none) E) : WSs X sts sg M E := fun σ H G w s => by
  obtain ⟨xs, e, r, w1, st, gx⟩ := w.freeze hm
  obtain ⟨v, e1, rv⟩ := s.at_ i _ hi
  cases rv
  have e2 : σ.set i (some (.ref p)) = σ := by
    obtain ⟨h1, h2⟩ := List.getElem?_eq_some_iff.mp e1
    rw [← h2]
    exact List.set_getElem_self h1
  have s1 := (s.mono gx).set i (Rp.lst (K := X.K) (a := p) upd_same (r.mono gx))
  rw [e2] at s1
  exact toE_base st (h σ H _ w1 s1)
/-- names that nobody asks for any more -/
theorem SRp.forget {G : Hp} {sg sg' : Sg} {σ : L2.St} (s : SRp K G sg σ) (hl : sg'.length = sg.length) (h : ∀ (i : Nat) (d : D), sg'[i]? = some (some d) → sg[i]? = some (some d)) : SRp K G sg' σ := ⟨s.len.trans hl.symm, fun i d e => s.at_ i d (h i d e)⟩

/-! ### targets -/
def WG (X : Cx) (tg : Expr) (is : List Nat) (d : D) (sg sg' : Sg) : Prop := ∀ (σ : L2.St) (H G : Hp) (M : Mem) (v : V) (R : L2.St → Hp → Prop), Wd X.K G M H → SRp X.K G sg σ → Rp X.K G v d → (∀ σ', SRp X.K G sg' σ' → σ'.length = σ.length → (∀ j, j ∉ is → σ'[j]? = σ[j]?) → R σ' H) → gW X tg v σ H R
theorem wg_name (i : Nat) {x : Str} {d : D} (hN : X.N.Nodup) (hi : X.N[i]? = some x := by rfl) (hx : Loc X.env.scope x := by first | exact Or.inl rfl | exact Or.inr rfl) (hf : X.fn x = true ∨ X.env.scope.names.lookup x = some .local := by first | exact .inl rfl | exact .inr rfl) : WG X (.Name x pos) [i] d sg (sg.set i (some d)) := fun σ H G M v R w s r k => ⟨fun pins t u I ru =>
  (pg_name hN hi hx hf).run pins t σ H v u _ I ru (k _ (s.set i r) (by simp) fun j hj => List.getElem?_set_ne fun e => hj (by simp [e]))⟩
def WGs (X : Cx) (tgs : List Expr) (is : List Nat) (ds : List D) (sg sg' : Sg) : Prop := ∃ g, PGs X tgs g ∧ ∀ (σ : L2.St) (H G : Hp) (M : Mem) (vs : List V) (R : L2.St → Hp → Prop), Wd X.K G M H → SRp X.K G sg σ → RpA X.K G vs ds → (∀ σ', SRp X.K G sg' σ' → σ'.length = σ.length → (∀ j, j ∉ is → σ'[j]? = σ[j]?) → R σ' H) → g vs σ H R
theorem wgs_nil : WGs X [] [] [] sg sg := ⟨_, pgs_nil, fun σ H G M vs R w s r k => by
  cases r
  exact ⟨rfl, k σ s rfl fun _ _ => rfl⟩⟩
theorem wgs_cons {tg : Expr} {tgs : List Expr} {is js : List Nat} {d : D} {ds : List D} {sg1 sg2 : Sg} (h : WG X tg is d sg sg1) (hr : WGs X tgs js ds sg1 sg2) (hs : (assignEach (tg :: tgs) X.env).map (·.2) = assign tg X.env :: (assignEach tgs X.env).map (·.2) := by rfl) : WGs X (tg :: tgs) (is ++ js) (d :: ds) sg sg2 := by
  obtain ⟨g, pg, hg⟩ := hr
  refine ⟨_, pgs_cons pg_w pg hs, fun σ H G M vs R w s r k => ?_⟩
  cases r with
  | cons r1 r2 =>
    refine ⟨_, _, rfl, h σ H G M _ _ w s r1 fun σ1 s1 l1 o1 => hg σ1 H G M _ _ w s1 r2 fun σ2 s2 l2 o2 => k σ2 s2 (l2.trans l1) fun j hj => ?_⟩
    rw [List.mem_append, not_or] at hj
    exact (o2 j hj.2).trans (o1 j hj.1)
theorem wg_tup {tgs : List Expr} {n : Nat} {is : List Nat} {ds : List D} {sg1 : Sg} (hc : X.calm = true) (h : WGs X tgs is ds sg sg1) (hn : (assignEach tgs X.env).length = ds.length := by rfl) (hst : (assignEach tgs X.env).findIdx? (·.1) = none := by rfl) : WG X (.Tuple tgs n pos) is (.tup ds) sg sg1 := by
  obtain ⟨g, pg, hg⟩ := h
  intro σ H G M v R w s r k
  refine ⟨fun pins t u I ru => (pg_tup hc pg hn hst).run pins t σ H v u _ I ru ?_⟩
  cases r with
  | tup h1 r1 => exact ⟨_, _, rfl, h1.sq w.sub, r1.length, hg σ H G M _ R w s r1 k⟩
/-- target = e -/
theorem ws_asg {tg e : Expr} (h : WE X e sg M fun d M1 => ∃ is sg1, WG X tg is d sg sg1 ∧ E.nx sg1 M1) (hs : swapsWithSole [tg] e pos.line X.env = pure false := by rfl) (hw : swappedStores [tg] e X.env = pure none := by rfl) (h1 : (assignEach [tg] X.env).map (·.2) = [assign tg X.env] := by rfl) : WS X (.Assign [tg] e pos) sg M E :=
  WS.of (ps_asg pe_w pg_w hs hw h1) fun σ H G w s => (h σ H G w s).imp fun v H1 ⟨d, G1, M1, st, w1, r1, is, sg1, hg, q⟩ => hg σ H1 G1 M1 v _ w1 (s.mono (st.gx w)) r1 fun σ' s' _ _ => ⟨sg1, G1, M1, st, w1, s', q⟩

/-! ### what a loop walks -/
def ItD (K : PySem.W.Frag) (G : Hp) (J : It) (ds : List D) (C : Mem → Prop) : Prop := ∀ (G1 : Hp) (M1 : Mem) (H1 : Hp), Gx G G1 → Wd K G1 M1 H1 → C M1 → ∀ i : Nat, (i = ds.length → J.stop i H1) ∧ ∀ d, ds[i]? = some d → J.go i H1 ∧ ∀ x H', J.yld i H1 x H' → ∃ G', Stp G1 M1 H1 G' M1 H' ∧ Wd K G' M1 H' ∧ Rp K G' x d
def WI (X : Cx) (tg iter : Expr) (sg : Sg) (M : Mem) (Qi : List D → (Mem → Prop) → Mem → Prop) : Prop := ∃ wi, PI X tg iter wi ∧ ∀ (σ : L2.St) (H G : Hp) (R : It → Hp → Prop), Wd X.K G M H → SRp X.K G sg σ → (∀ J H' ds C G' M', Stp G M H G' M' H' → Wd X.K G' M' H' → ItD X.K G' J ds C → Qi ds C M' → R J H') → wi σ H R
section
variable {tg : Expr} {Qi : List D → (Mem → Prop) → Mem → Prop}
theorem wi_lst {l : Expr} (h : WE X l sg M fun x M1 => ∃ ds, LsD M1 x ds ∧ Qi ds (fun M => LsD M x ds) M1) : WI X tg l sg M Qi := ⟨_, pi_list pe_w, fun σ H G R w s k => (h σ H G w s).imp fun v H1 ⟨x, G1, M1, st, w1, r1, ds, l1, q⟩ => by
  obtain ⟨a, xs, rfl, h1, rx⟩ := l1.at w1 r1
  refine ⟨a, rfl, ⟨xs, SqL.of h1⟩, k _ _ ds _ G1 M1 st w1 (fun G2 M2 H2 gx w2 l2 i => ?_) q⟩
  obtain ⟨b, ys, e, h2, ry⟩ := l2.at w2 (r1.mono gx)
  cases e
  refine ⟨fun hi => ⟨ys, SqL.of h2, by rw [ry.length, hi]; exact Nat.le_refl _⟩, fun d hd => ?_⟩
  obtain ⟨y, hy, rd⟩ := ry.get hd
  refine ⟨⟨ys, y, SqL.of h2, hy⟩, fun z H' ⟨e, hz⟩ => ?_⟩
  subst e
  have e := (hz ys (SqL.of h2)).symm.trans hy
  cases e
  exact ⟨G2, Stp.refl, w2, rd⟩⟩
theorem wi_tup {l : Expr} (h : WE X l sg M fun x M1 => ∃ ds, x = .tup ds ∧ Qi ds (fun _ => True) M1) : WI X tg l sg M Qi := ⟨_, pi_tup pe_w, fun σ H G R w s k => (h σ H G w s).imp fun v H1 ⟨x, G1, M1, st, w1, r1, ds, l1, q⟩ => by
  subst l1
  cases r1 with
  | @tup a xs _ h1 rx =>
    refine ⟨a, rfl, ⟨xs, h1.sq w1.sub⟩, k _ _ ds _ G1 M1 st w1 (fun G2 M2 H2 gx w2 _ i => ?_) q⟩
    have h2 : SqT X.K H2 a xs := h1.sq (gx.trans w2.sub)
    have ry := rx.mono gx
    refine ⟨fun hi => ⟨xs, h2, by rw [ry.length, hi]; exact Nat.le_refl _⟩, fun d hd => ?_⟩
    obtain ⟨y, hy, rd⟩ := ry.get hd
    refine ⟨⟨xs, y, h2, hy⟩, fun z H' ⟨e, hz⟩ => ?_⟩
    subst e
    have e := (hz xs h2).symm.trans hy
    cases e
    exact ⟨G2, Stp.refl, w2, rd⟩⟩
def rngD (lo : Int) (n : Nat) : List D := (List.range n).map fun (i : Nat) => D.int (lo + (i : Int))
theorem itd_rng {G : Hp} {lo : Int} {n : Nat} : ItD K G (Itr lo n) (rngD lo n) fun _ => True := fun G1 M1 H1 gx w _ i => by
  have hl : (rngD lo n).length = n := by unfold rngD; rw [List.length_map, List.length_range]
  refine ⟨fun h => by rw [hl] at h; exact Nat.le_of_eq h.symm, fun d hd => ?_⟩
  have hi : i < n := by
    have := (List.getElem?_eq_some_iff.mp hd).1
    rw [hl] at this; exact this
  have e : d = .int (lo + (i : Int)) := by
    unfold rngD at hd
    rw [List.getElem?_map, List.getElem?_range hi] at hd
    exact (Option.some.inj hd).symm
  subst e
  refine ⟨hi, fun x H' ⟨e1, e2⟩ => ?_⟩
  subst e1; subst e2
  exact ⟨G1, Stp.refl, w, .int _⟩
theorem wi_rng1 {a : Expr} {p : Pos} (hm : X.mg "range" = none) (h : WA X [a] sg M fun ds M1 => ∃ j : Int, ds = [.int j] ∧ -(2 ^ 62) ≤ j ∧ j < 2 ^ 62 ∧ Qi (rngD 0 j.toNat) (fun _ => True) M1) (hg : Gl X "range" := by rfl) (hs : starEach [a] X.env = [(false, eval a X.env)] := by exact star1n rfl) : WI X tg (.Call (.Name "range" p) [a] [] pos) sg M Qi := ⟨_, pi_range1 hg hm pa_w hs, fun σ H G R w s k => (h σ H G w s).imp fun vs H1 ⟨ds, G1, M1, st, w1, r1, j, e, b1, b2, q⟩ => by
  subst e
  obtain ⟨v, rfl, rv⟩ := r1.one
  cases rv
  exact ⟨j, rfl, b1, b2, k _ _ _ _ G1 M1 st w1 itd_rng q⟩⟩
theorem wi_rng2 {a b : Expr} {p : Pos} (hm : X.mg "range" = none) (h : WA X [a, b] sg M fun ds M1 => ∃ i j : Int, ds = [.int i, .int j] ∧ (-(2 ^ 62) ≤ i ∧ i < 2 ^ 62 ∧ -(2 ^ 62) ≤ j ∧ j < 2 ^ 62) ∧ Qi (rngD i (j - i).toNat) (fun _ => True) M1) (hg : Gl X "range" := by rfl) (hs : starEach [a, b] X.env = [(false, eval a X.env), (false, eval b X.env)] := by exact star2n rfl rfl) (hs2 : starEach [b] X.env = [(false, eval b X.env)] := by exact star1n rfl) : WI X tg (.Call (.Name "range" p) [a, b] [] pos) sg M Qi := ⟨_, pi_range2 hg hm pa_w hs hs2, fun σ H G R w s k => (h σ H G w s).imp fun vs H1 ⟨ds, G1, M1, st, w1, r1, i, j, e, b1, q⟩ => by
  subst e
  obtain ⟨v, u, rfl, rv, ru⟩ := r1.two
  cases rv; cases ru
  exact ⟨i, j, rfl, b1, k _ _ _ _ G1 M1 st w1 itd_rng q⟩⟩
def enumD (ds : List D) : List D := ds.mapIdx fun i d => .tup [.int (i : Int), d]
theorem new_pair {G1 H1 : Hp} {M1 : Mem} {T : Addr} {x y : V} {d e : D} (w : Wd K G1 M1 H1) (hT : H1 T = none) (rx : Rp K G1 x d) (ry : Rp K G1 y e) : ∃ G', Stp G1 M1 H1 G' M1 (upd H1 T (.tup [x, y])) ∧ Wd K G' M1 (upd H1 T (.tup [x, y])) ∧ Rp K G' (.ref T) (.tup [d, e]) := by
  obtain ⟨w', st⟩ := w.new hT (o := .tup [x, y])
  exact ⟨_, st, w', .tup (.of upd_same) (RpA.mono (gx_new w hT) (.cons rx (.cons ry .nil)))⟩
theorem wi_enum {e : Expr} {p tpos : Pos} {elts : List Expr} {kk : Nat} (hm : X.mg "enumerate" = none) (h : WA X [e] sg M fun xs M1 => ∃ x ds, xs = [x] ∧ LsD M1 x ds ∧ Qi (enumD ds) (fun M => LsD M x ds) M1) (hg : Gl X "enumerate" := by rfl) (hs : starEach [e] X.env = [(false, eval e X.env)] := by exact star1n rfl) : WI X (.Tuple elts kk tpos) (.Call (.Name "enumerate" p) [e] [] pos) sg M Qi := ⟨_, pi_enum hg hm pa_w hs, fun σ H G R w s k => (h σ H G w s).imp fun vs H1 ⟨xs, G1, M1, st, w1, r1, x, ds, e, l1, q⟩ => by
  subst e
  obtain ⟨v, rfl, rv⟩ := r1.one
  obtain ⟨a, ys, rfl, h1, rx⟩ := l1.at w1 rv
  refine ⟨a, ys, rfl, SqL.of h1, k _ _ _ _ G1 M1 st w1 (fun G2 M2 H2 gx w2 l2 i => ?_) q⟩
  obtain ⟨b, zs, e, h2, rz⟩ := l2.at w2 (rv.mono gx)
  cases e
  have hl : (enumD ds).length = ds.length := by unfold enumD; rw [List.length_mapIdx]
  refine ⟨fun hi => ⟨zs, SqL.of h2, by rw [rz.length]; rw [hl] at hi; exact Nat.le_of_eq hi.symm⟩, fun d hd => ?_⟩
  obtain ⟨c, hc, ec⟩ : ∃ c, ds[i]? = some c ∧ d = .tup [.int (i : Int), c] := by
    unfold enumD at hd
    rw [List.getElem?_mapIdx] at hd
    cases e : ds[i]? with
    | none => rw [e] at hd; cases hd
    | some c => rw [e] at hd; exact ⟨c, rfl, (Option.some.inj hd).symm⟩
  subst ec
  obtain ⟨z, hz, rd⟩ := rz.get hc
  refine ⟨⟨zs, z, SqL.of h2, hz⟩, fun t H' ⟨T, y, e1, e2, e3, e4⟩ => ?_⟩
  subst e1; subst e3
  have e := (e4 zs (SqL.of h2)).symm.trans hz
  cases e
  exact new_pair w2 e2 (.int _) rd⟩
theorem wi_zip {e e2 : Expr} {p tpos : Pos} {elts : List Expr} {kk : Nat} (hm : X.mg "zip" = none) (h : WA X [e, e2] sg M fun xs M1 => ∃ x y ds es, xs = [x, y] ∧ LsD M1 x ds ∧ LsD M1 y es ∧ Qi (List.zipWith (fun a b => .tup [a, b]) ds es) (fun M => LsD M x ds ∧ LsD M y es) M1) (hg : Gl X "zip" := by rfl) (hs : starEach [e, e2] X.env = (false, eval e X.env) :: starEach [e2] X.env := by exact star1 rfl) (hpl : (backTo pos (starEach [e2] X.env)).any (·.1) = false := by exact starN rfl) : WI X (.Tuple elts kk tpos) (.Call (.Name "zip" p) [e, e2] [] pos) sg M Qi := ⟨_, pi_zip hg hm pa_w hs hpl, fun σ H G R w s k => (h σ H G w s).imp fun vs H1 ⟨xs, G1, M1, st, w1, r1, x, y, ds, es, e, l1, m1, q⟩ => by
  subst e
  obtain ⟨v, u, rfl, rv, ru⟩ := r1.two
  obtain ⟨a, ys, rfl, h1, rx⟩ := l1.at w1 rv
  obtain ⟨b, zs, rfl, h1', ry⟩ := m1.at w1 ru
  refine ⟨a, b, ys, zs, rfl, SqL.of h1, SqL.of h1', k _ _ _ _ G1 M1 st w1 (fun G2 M2 H2 gx w2 ⟨l2, m2⟩ i => ?_) q⟩
  obtain ⟨a', ys', e, h2, rx2⟩ := l2.at w2 (rv.mono gx)
  cases e
  obtain ⟨b', zs', e, h3, ry2⟩ := m2.at w2 (ru.mono gx)
  cases e
  refine ⟨fun hi => ⟨ys', zs', SqL.of h2, SqL.of h3, ?_⟩, fun d hd => ?_⟩
  · rw [List.length_zipWith] at hi
    rw [rx2.length, ry2.length]
    omega
  · rw [List.getElem?_zipWith] at hd
    cases ea : ds[i]? with
    | none => rw [ea] at hd; cases hd
    | some c =>
      cases eb : es[i]? with
      | none => rw [ea, eb] at hd; cases hd
      | some c' =>
        rw [ea, eb] at hd
        have ed := (Option.some.inj hd).symm
        subst ed
        obtain ⟨z, hz, rd⟩ := rx2.get ea
        obtain ⟨z', hz', rd'⟩ := ry2.get eb
        refine ⟨⟨ys', zs', z, z', SqL.of h2, SqL.of h3, hz, hz'⟩, fun t H' ⟨T, y1, y2, e1, e2, e3, e4, e5⟩ => ?_⟩
        subst e1; subst e3
        have q1 := (e4 ys' (SqL.of h2)).symm.trans hz
        have q2 := (e5 zs' (SqL.of h3)).symm.trans hz'
        cases q1; cases q2
        exact new_pair w2 e2 rd rd'⟩

/-! ### for -/
theorem ws_for {iter : Expr} {body : List Stmt} (hp : PassesOwn (model X.prog X.w) X.A X.env X.xe) (hc : X.calm = true) (hi : WI X tg iter sg M Qi)
    (h : ∀ ds C M0, Qi ds C M0 → ∃ Pv : Nat → Sg → Mem → Prop, Pv 0 sg M0 ∧ (∀ i sg1 M1, Pv i sg1 M1 → C M1) ∧ (∀ i d sg1 M1, ds[i]? = some d → Pv i sg1 M1 → ∃ is sg2, WG X tg is d sg1 sg2 ∧ WSs X body sg2 M1 { E with nx := Pv (i + 1), ct := Pv (i + 1), bk := E.nx }) ∧ ∀ sg1 M1, Pv ds.length sg1 M1 → E.nx sg1 M1)
    (hs : ∀ x, foldedSetIterable iter X.env x = pure x := by intro _; rfl) : WS X (.For tg iter body [] pos) sg M E := by
  obtain ⟨wi, pi, hw⟩ := hi
  refine WS.of (ps_for hp hc pi pg_w pss_w hs) fun σ H G w s => hw σ H G _ w s fun J H0 ds C G0 M0 st0 w0 it q => ?_
  obtain ⟨Pv, p0, pC, turn, fin⟩ := h ds C M0 q
  refine ⟨fun i m σ1 H1 => m = ds.length - i ∧ i ≤ ds.length ∧ ∃ sg1 G1 M1, Stp G M H G1 M1 H1 ∧ Gx G0 G1 ∧ Wd X.K G1 M1 H1 ∧ SRp X.K G1 sg1 σ1 ∧ Pv i sg1 M1, ⟨ds.length, rfl, Nat.zero_le _, sg, G0, M0, st0, Gx.refl _, w0, s.mono (st0.gx w), p0⟩, ?_⟩
  rintro i m σ1 H1 ⟨rfl, hle, sg1, G1, M1, st1, gx1, w1, s1, p1⟩
  obtain ⟨stop, go⟩ := it G1 M1 H1 gx1 w1 (pC _ _ _ p1) i
  by_cases hlt : i < ds.length
  · obtain ⟨g1, yld⟩ := go ds[i] (List.getElem?_eq_getElem hlt)
    refine .inr ⟨g1, fun σ2 H2 => ∃ sg2 G2 M2, Stp G M H G2 M2 H2 ∧ Gx G0 G2 ∧ Wd X.K G2 M2 H2 ∧ SRp X.K G2 sg2 σ2 ∧ Pv (i + 1) sg2 M2, fun σ2 H2 n => ⟨ds.length - (i + 1), by omega, rfl, hlt, n⟩, fun x H' hy => ?_⟩
    obtain ⟨G2, st2, w2, rx⟩ := yld x H' hy
    obtain ⟨is, sg2, hg, hb⟩ := turn i ds[i] sg1 M1 (List.getElem?_eq_getElem hlt) p1
    have gx2 : Gx G0 G2 := gx1.trans (st2.gx w1)
    refine hg σ1 H' G2 M1 x _ w2 (s1.mono (st2.gx w1)) rx fun σ3 s3 _ _ => ?_
    have again : ∀ {σ4 : L2.St} {H4 : Hp}, PN X.K G2 M1 H' (Pv (i + 1)) σ4 H4 → ∃ sg2 G2 M2, Stp G M H G2 M2 H4 ∧ Gx G0 G2 ∧ Wd X.K G2 M2 H4 ∧ SRp X.K G2 sg2 σ4 ∧ Pv (i + 1) sg2 M2 := fun {σ4 H4} ⟨sg4, G4, M4, st4, w4, s4, p4⟩ => ⟨sg4, G4, M4, (st1.trans st2).trans st4, gx2.trans (st4.gx w2), w4, s4, p4⟩
    exact (hb σ3 H' G2 w2 s3).imp (fun _ _ q => again q) (fun _ _ q => PV.base (st1.trans st2) q) (fun _ _ q => PN.base (st1.trans st2) q) (fun _ _ q => again q)
  · have e : i = ds.length := by omega
    subst e
    exact .inl ⟨stop rfl, sg1, G1, M1, st1, w1, s1, fin sg1 M1 p1⟩
/-- while: by a word and a measure -/
theorem ws_while {c : Expr} {body : List Stmt} (hp : PassesOwn (model X.prog X.w) X.A X.env X.xe) (Pv : Nat → Sg → Mem → Prop) (h0 : ∃ m, Pv m sg M) (h : ∀ m sg1 M1, Pv m sg1 M1 → WT X c sg1 M1 fun k M2 => (k = true → WSs X body sg1 M2 { E with nx := fun sg2 M3 => ∃ m', m' < m ∧ Pv m' sg2 M3, ct := fun sg2 M3 => ∃ m', m' < m ∧ Pv m' sg2 M3, bk := E.nx }) ∧ (k = false → E.nx sg1 M2)) : WS X (.While c body [] pos) sg M E := by
  obtain ⟨m0, p0⟩ := h0
  refine WS.of (ps_while hp pt_w pss_w) fun σ H G w s => ⟨fun m σ1 H1 => ∃ sg1 G1 M1, Stp G M H G1 M1 H1 ∧ Wd X.K G1 M1 H1 ∧ SRp X.K G1 sg1 σ1 ∧ Pv m sg1 M1, ⟨m0, sg, G, M, Stp.refl, w, s, p0⟩, ?_⟩
  rintro m σ1 H1 ⟨sg1, G1, M1, st1, w1, s1, p1⟩
  refine (h m sg1 M1 p1 σ1 H1 G1 w1 s1).imp fun k H2 ⟨G2, M2, st2, w2, q1, q0⟩ => ?_
  have s2 := s1.mono (st2.gx w1)
  cases k with
  | true =>
    rw [if_pos rfl]
    refine ⟨fun σ3 H3 => ∃ m', m' < m ∧ ∃ sg1 G1 M1, Stp G M H G1 M1 H3 ∧ Wd X.K G1 M1 H3 ∧ SRp X.K G1 sg1 σ3 ∧ Pv m' sg1 M1, fun σ3 H3 n => n, ?_⟩
    have again : ∀ {σ4 : L2.St} {H4 : Hp}, PN X.K G2 M2 H2 (fun sg2 M3 => ∃ m', m' < m ∧ Pv m' sg2 M3) σ4 H4 → ∃ m', m' < m ∧ ∃ sg1 G1 M1, Stp G M H G1 M1 H4 ∧ Wd X.K G1 M1 H4 ∧ SRp X.K G1 sg1 σ4 ∧ Pv m' sg1 M1 := fun {σ4 H4} ⟨sg4, G4, M4, st4, w4, s4, m', hm, p4⟩ => ⟨m', hm, sg4, G4, M4, (st1.trans st2).trans st4, w4, s4, p4⟩
    exact (q1 rfl σ1 H2 G2 w2 s2).imp (fun _ _ q => again q) (fun _ _ q => PV.base (st1.trans st2) q) (fun _ _ q => PN.base (st1.trans st2) q) (fun _ _ q => again q)
  | false =>
    rw [if_neg Bool.false_ne_true]
    exact ⟨sg1, G2, M2, st1.trans st2, w2, s2, q0 rfl⟩
end
end
end DL
set_option Elab.async false
set_option linter.all false
set_option maxRecDepth 100000
set_option maxHeartbeats 4000000
/-! DLe: comprehensions, methods of lists, defs over data. -/
namespace DL
open PySem L2 PyProof.Rows
section
variable {X : Cx} {sg : Sg} {M : Mem} {E : EndsD} {Q : D → Mem → Prop} {pos : Pos} {K : PySem.W.Frag}
def wipeD (sg : Sg) : List Nat → Sg
  | [] => sg
  | v :: vs => (wipeD sg vs).set v none
theorem wipe_rp {G : Hp} {σ : L2.St} (s : SRp K G sg σ) : ∀ vs : List Nat, SRp K G (wipeD sg vs) (wipe σ vs)
  | [] => s
  | v :: vs => by
    have ih := wipe_rp s vs
    refine ⟨by show ((wipe σ vs).set v none).length = ((wipeD sg vs).set v none).length; rw [List.length_set, List.length_set, ih.len], fun i d e => ?_⟩
    have e' : ((wipeD sg vs).set v none)[i]? = some (some d) := e
    show ∃ x, ((wipe σ vs).set v none)[i]? = some (some x) ∧ Rp K G x d
    by_cases hv : v = i
    · subst hv
      by_cases hl : v < (wipeD sg vs).length
      · rw [List.getElem?_set_self hl] at e'; cases e'
      · rw [List.getElem?_eq_none (by simpa using hl)] at e'; cases e'
    · rw [List.getElem?_set_ne hv] at e' ⊢
      exact ih.at_ i d e'
theorem wipe_in {σ : L2.St} {i : Nat} : ∀ {vs : List Nat}, i ∈ vs → i < σ.length → (wipe σ vs)[i]? = some none
  | v :: vs, h, hl => by
    show ((wipe σ vs).set v none)[i]? = some none
    by_cases hv : v = i
    · subst hv
      exact List.getElem?_set_self (by rw [wipe_length]; exact hl)
    · rw [List.getElem?_set_ne hv]
      exact wipe_in ((List.mem_cons.mp h).resolve_left fun e => hv e.symm) hl
/-- a state that differs at the block's own names alone -/
theorem wipe_same {σ σ' : L2.St} {is vs : List Nat} (hv : ∀ j, j ∈ is → j ∈ vs) (hl : σ'.length = (wipe σ vs).length) (h : ∀ j, j ∉ is → σ'[j]? = (wipe σ vs)[j]?) : wipe σ' vs = wipe σ vs := by
  apply List.ext_getElem?
  intro j
  rw [wipe_length] at hl
  by_cases hj : j ∈ vs
  · by_cases hjl : j < σ.length
    · rw [wipe_in hj hjl, wipe_in hj (by rw [hl]; exact hjl)]
    · rw [List.getElem?_eq_none (by rw [wipe_length, hl]; omega), List.getElem?_eq_none (by rw [wipe_length]; omega)]
  · rw [wipe_out hj, h j fun e => hj (hv j e)]
theorem Wd.other {G H : Hp} {p : Addr} {o : HO} (w : Wd K G M H) (g : G p = none) (m : M p = none) (hb : ∀ u, M.b.H p = some u → M.b.M p = none → False) : Wd K G M (upd H p o) := ⟨fun x u e => by rw [upd_ne (ne_of_none e g)]; exact w.sub _ _ e, fun x mo e => by
  obtain ⟨h1, h2⟩ := w.mem _ _ e
  exact ⟨h1, h2.carry (Gx.refl G) (upd_ne fun z => by subst z; rw [m] at e; cases e)⟩, fun x u e e2 => by
  have hx : x ≠ p := fun z => by subst z; exact hb u e e2
  obtain ⟨h1, h2⟩ := w.hist x u e e2
  exact ⟨by rw [upd_ne hx]; exact h1, h2⟩⟩
theorem Wd.adopt {G H : Hp} {p : Addr} {o : HO} (w : Wd K G M H) (h : H p = some o) (g : G p = none) (m : M p = none) (hb : ∀ u, M.b.H p = some u → M.b.M p = none → False) : Wd K (upd G p o) M H ∧ Gx G (upd G p o) := by
  have gx : Gx G (upd G p o) := fun x u e => by rw [upd_ne (ne_of_none e g)]; exact e
  refine ⟨⟨fun x u e => ?_, fun x mo e => ?_, fun x u e e2 => ?_⟩, gx⟩
  · by_cases hx : x = p
    · subst hx; rw [upd_same] at e; cases e; exact h
    · rw [upd_ne hx] at e; exact w.sub _ _ e
  · obtain ⟨h1, h2⟩ := w.mem _ _ e
    have hx : x ≠ p := fun z => by subst z; rw [m] at e; cases e
    exact ⟨by rw [upd_ne hx]; exact h1, h2.carry gx rfl⟩
  · have hx : x ≠ p := fun z => by subst z; exact hb u e e2
    obtain ⟨h1, h2, h3⟩ := w.hist x u e e2
    exact ⟨h1, by rw [upd_ne hx]; exact h2, h3⟩

/-- the blocks of a comprehension in X -/
abbrev Blk (X : Cx) (scope : Scope) (P : Cx → Prop) : Prop := ∀ (s : Shared) (H : Hp) (C : Addr) (cl : List (Str × Addr)) (fp : List Addr), P (X.blk s H scope (compEnvC scope cl C X.env) fp)
def teB (X : Cx) (scope : Scope) (e : Expr) : TE := fun σ H R => Blk X scope fun Y => tW Y e σ H R
def ttB (X : Cx) (scope : Scope) (e : Expr) : TT := fun σ H R => Blk X scope fun Y => tWT Y e σ H R
def gB (X : Cx) (scope : Scope) (tg : Expr) : TG := fun v σ H R => Blk X scope fun Y => gW Y tg v σ H R
/-- none or one test -/
def testsB (X : Cx) (scope : Scope) : List Expr → TT
  | [c] => ttB X scope c
  | _ => tYes
def WTs (Y : Cx) (ifs : List Expr) (sg : Sg) (M : Mem) (Q : Bool → Mem → Prop) : Prop := match ifs with
  | [] => Q true M
  | [c] => WT Y c sg M Q
  | _ => False
variable {tg : Expr} {Qi : List D → (Mem → Prop) → Mem → Prop}
/-- a turn of a comprehension -/
def LcTurn (X : Cx) (scope : Scope) (vs : List Nat) (tg elt : Expr) (ifs : List Expr) (sg : Sg) (d : D) (M1 : Mem) (QT : D → Mem → Prop) (QF : Mem → Prop) : Prop :=
  ∃ is sg2, (∀ j, j ∈ is → j ∈ vs) ∧ (Blk X scope fun Y => WG Y tg is d (wipeD sg vs) sg2) ∧ ∃ QB : Bool → Mem → Prop, (Blk X scope fun Y => WTs Y ifs sg2 M1 QB) ∧ (∀ M2, QB true M2 → Blk X scope fun Y => WE Y elt sg2 M2 QT) ∧ ∀ M2, QB false M2 → QF M2
theorem lc_run {elt : Expr} {ifs : List Expr} {scope : Scope} {vs : List Nat} {wi : TI} (hw : ∀ (σ : L2.St) (H G : Hp) (R : It → Hp → Prop), Wd X.K G M H → SRp X.K G sg σ → (∀ J H' ds C G' M', Stp G M H G' M' H' → Wd X.K G' M' H' → ItD X.K G' J ds C → Qi ds C M' → R J H') → wi σ H R)
    (hif : ifs.length ≤ 1) (h : ∀ ds C M0, Qi ds C M0 → ∃ Pv : Nat → List D → Mem → Prop, Pv 0 [] M0 ∧ (∀ i acc M1, Pv i acc M1 → C M1 ∧ acc.length < sizeLine) ∧ (∀ i d acc M1, ds[i]? = some d → Pv i acc M1 → LcTurn X scope vs tg elt ifs sg d M1 (fun y M3 => Pv (i + 1) (acc ++ [y]) M3) (fun M3 => Pv (i + 1) acc M3)) ∧ ∀ acc M1, Pv ds.length acc M1 → Q (.lst acc) M1)
    {σ : L2.St} {H G : Hp} {R : VK} (w : Wd X.K G M H) (s : SRp X.K G sg σ) (k : ∀ v H', PV X.K G M H Q v H' → R v H') : tLc wi (gB X scope tg) (testsB X scope ifs) (teB X scope elt) vs σ H R := by
  refine hw σ H G _ w s fun J H0 ds C G0 M0 st0 w0 it q => fun p hp => ?_
  obtain ⟨Pv, p0, pC, turn, fin⟩ := h ds C M0 q
  obtain ⟨g0, m0⟩ := w0.free hp
  have s0 := s.mono (st0.gx w)
  have st1 : Stp G0 M0 H0 G0 M0 (upd H0 p (.lst [])) := ⟨fun x o e m => ⟨by rw [upd_ne (ne_of_none e hp)]; exact e, rfl, m⟩, rfl⟩
  have hf0 : ∀ u, M0.b.H p = some u → M0.b.M p = none → False := fun u e m => w0.fresh hp e m
  refine ⟨fun i m H1 => m = ds.length - i ∧ i ≤ ds.length ∧ ∃ G1 M1 acc xs, Stp G0 M0 H0 G1 M1 H1 ∧ Gx G0 G1 ∧ Wd X.K G1 M1 H1 ∧ H1 p = some (.lst xs) ∧ G1 p = none ∧ M1 p = none ∧ RpA X.K G1 xs acc ∧ Pv i acc M1, ⟨ds.length, rfl, Nat.zero_le _, G0, M0, [], [], st1, Gx.refl _, w0.other g0 m0 hf0, upd_same, g0, m0, .nil, p0⟩, ?_⟩
  rintro i m H1 ⟨rfl, hle, G1, M1, acc, xs, st1, gx1, w1, h1, g1, m1, ra, p1⟩
  obtain ⟨stop, go⟩ := it G1 M1 H1 gx1 w1 (pC _ _ _ p1).1 i
  by_cases hlt : i < ds.length
  · obtain ⟨go1, yld⟩ := go ds[i] (List.getElem?_eq_getElem hlt)
    refine .inr ⟨go1, fun H2 => ∃ G2 M2 acc2 xs2, Stp G0 M0 H0 G2 M2 H2 ∧ Gx G0 G2 ∧ Wd X.K G2 M2 H2 ∧ H2 p = some (.lst xs2) ∧ G2 p = none ∧ M2 p = none ∧ RpA X.K G2 xs2 acc2 ∧ Pv (i + 1) acc2 M2, fun H2 n => ⟨ds.length - (i + 1), by omega, rfl, hlt, n⟩, fun x H' hy => ?_⟩
    obtain ⟨G2, st2, w2, rx⟩ := yld x H' hy
    obtain ⟨h2, g2, _⟩ := st2.keep p _ h1 m1
    obtain ⟨is, sg2, hv, hg, QB, ht, he, hf⟩ := turn i ds[i] acc M1 (List.getElem?_eq_getElem hlt) p1
    have gx2 : Gx G1 G2 := st2.gx w1
    have sw : SRp X.K G2 (wipeD sg vs) (wipe σ vs) := wipe_rp (s0.mono (gx1.trans gx2)) vs
    have body : ∀ σ2 : L2.St, SRp X.K G2 sg2 σ2 → ∀ b H3, PB X.K G2 M1 H' QB b H3 → if b = true then teB X scope elt σ2 H3 (fun y H4 => ∃ acc, H4 p = some (.lst acc) ∧ acc.length < sizeLine ∧ ∃ G2 M2 acc2 xs2, Stp G0 M0 H0 G2 M2 (upd H4 p (.lst (acc ++ [y]))) ∧ Gx G0 G2 ∧ Wd X.K G2 M2 (upd H4 p (.lst (acc ++ [y]))) ∧ (upd H4 p (.lst (acc ++ [y]))) p = some (.lst xs2) ∧ G2 p = none ∧ M2 p = none ∧ RpA X.K G2 xs2 acc2 ∧ Pv (i + 1) acc2 M2)
        else ∃ G2 M2 acc2 xs2, Stp G0 M0 H0 G2 M2 H3 ∧ Gx G0 G2 ∧ Wd X.K G2 M2 H3 ∧ H3 p = some (.lst xs2) ∧ G2 p = none ∧ M2 p = none ∧ RpA X.K G2 xs2 acc2 ∧ Pv (i + 1) acc2 M2 := fun σ2 s2 b H3 ⟨G3, M3, st3, w3, q3⟩ => by
      obtain ⟨h3, g3, m3⟩ := st3.keep p _ h2 m1
      have gx3 : Gx G2 G3 := st3.gx w2
      cases b with
      | true =>
        rw [if_pos rfl]
        intro t H5 C5 cl fp
        refine (he M3 q3 t H5 C5 cl fp σ2 H3 G3 w3 (s2.mono gx3)).imp fun y H4 ⟨d, G4, M4, st4, w4, r4, q4⟩ => ?_
        obtain ⟨h4, g4, m4⟩ := st4.keep p _ h3 m3
        have gx4 : Gx G3 G4 := st4.gx w3
        have g4' : G4 p = none := by rw [g4, g3, g2, g1]
        have stA := ((st1.trans st2).trans st3).trans st4
        refine ⟨xs, h4, by rw [ra.length]; exact (pC _ _ _ p1).2, G4, M4, acc ++ [d], xs ++ [y], ⟨fun z o e m => ?_, stA.base⟩, gx1.trans (gx2.trans (gx3.trans gx4)), w4.other g4' m4 (by rw [stA.base]; exact hf0), upd_same, g4', m4, (ra.mono (gx2.trans (gx3.trans gx4))).append (.cons r4 .nil), q4⟩
        obtain ⟨a1, a2, a3⟩ := stA.keep z o e m
        exact ⟨by rw [upd_ne (ne_of_none e hp)]; exact a1, a2, a3⟩
      | false =>
        rw [if_neg Bool.false_ne_true]
        exact ⟨G3, M3, acc, xs, (st1.trans st2).trans st3, gx1.trans (gx2.trans gx3), w3, h3, by rw [g3, g2, g1], m3, ra.mono (gx2.trans gx3), hf M3 q3⟩
    intro t H5 C5 cl fp
    refine hg t H5 C5 cl fp (wipe σ vs) H' G2 M1 x _ w2 sw rx fun σ2 s2 l2 o2 => ⟨wipe_same hv l2 o2, ?_⟩
    match ifs, hif, ht with
    | [], _, ht => exact body σ2 s2 true H' ⟨G2, M1, Stp.refl, w2, ht t H5 C5 cl fp⟩
    | [c], _, ht => exact fun t H5 C5 cl fp => (ht t H5 C5 cl fp σ2 H' G2 w2 s2).imp fun b H3 q => body σ2 s2 b H3 q
    | _ :: _ :: _, hif, _ => exact absurd hif (by simp)
  · have e : i = ds.length := by omega
    subst e
    obtain ⟨w2, gx2⟩ := w1.adopt h1 g1 m1 (by rw [st1.base]; exact hf0)
    refine .inl ⟨stop rfl, k _ _ (PV.base st0 ⟨.lst acc, _, M1, ⟨fun z o e m => ?_, st1.base⟩, w2, .lst upd_same (ra.mono gx2), fin acc M1 p1⟩)⟩
    obtain ⟨a1, a2, a3⟩ := st1.keep z o e m
    exact ⟨a1, by rw [upd_ne (ne_of_none e hp)]; exact a2, a3⟩
theorem blk_pg {scope : Scope} {tg : Expr} : ∀ (s : Shared) (H : Hp) (C : Addr) (cl : List (Str × Addr)) (fp : List Addr), PG (X.blk s H scope (compEnvC scope cl C X.env) fp) tg (gB X scope tg) := fun s H C cl fp => ⟨fun pins t σ H1 v u R I r h => (h s H C cl fp).run pins t u I r⟩
theorem blk_pe {scope : Scope} {e : Expr} : ∀ (s : Shared) (H : Hp) (C : Addr) (cl : List (Str × Addr)) (fp : List Addr), PE (X.blk s H scope (compEnvC scope cl C X.env) fp) e (teB X scope e) := fun s H C cl fp => ⟨fun pins t σ H1 R I h => (h s H C cl fp).run pins t I⟩
theorem blk_pts {scope : Scope} {ifs : List Expr} (hif : ifs.length ≤ 1) : ∀ (s : Shared) (H : Hp) (C : Addr) (cl : List (Str × Addr)) (fp : List Addr), PTs (X.blk s H scope (compEnvC scope cl C X.env) fp) ifs (testsB X scope ifs) := fun s H C cl fp => by
  match ifs, hif with
  | [], _ => exact pts_nil
  | [c], _ => exact pts_one ⟨fun pins t σ H1 R I h => (h s H C cl fp).run pins t I⟩
  | _ :: _ :: _, hif => exact absurd hif (by simp)
abbrev LcOk (X : Cx) (scope : Scope) (vs : List Nat) (tg elt : Expr) (ifs : List Expr) (sg : Sg) (Qi : List D → (Mem → Prop) → Mem → Prop) (Q : D → Mem → Prop) : Prop :=
  ∀ ds C M0, Qi ds C M0 → ∃ Pv : Nat → List D → Mem → Prop, Pv 0 [] M0 ∧ (∀ i acc M1, Pv i acc M1 → C M1 ∧ acc.length < sizeLine) ∧ (∀ i d acc M1, ds[i]? = some d → Pv i acc M1 → LcTurn X scope vs tg elt ifs sg d M1 (fun y M3 => Pv (i + 1) (acc ++ [y]) M3) (fun M3 => Pv (i + 1) acc M3)) ∧ ∀ acc M1, Pv ds.length acc M1 → Q (.lst acc) M1
theorem we_lc {iter elt : Expr} {ifs : List Expr} {scope : Scope} (own : List (Str × Nat)) (hc : X.calm = true) (hN : X.N.Nodup) (ok : BlkOk X.N X.env.scope scope own) (hi : WI X tg iter sg M Qi) (h : LcOk X scope (own.map (·.2)) tg elt ifs sg Qi Q) (hif : ifs.length ≤ 1 := by decide) (hs : ∀ x, foldedSetIterable iter X.env x = pure x := by intro _; rfl) : WE X (.ListComp elt [⟨tg, iter, ifs, 0⟩] scope pos) sg M Q := by
  obtain ⟨wi, pi, hw⟩ := hi
  exact WE.of (pe_lc hc hN pi ok blk_pg (blk_pts hif) blk_pe hs) fun σ H G w s => lc_run hw hif h w s fun v H' q => q
theorem ws_setLc (i : Nat) {y : Str} {py : Pos} {iter elt : Expr} {ifs : List Expr} {scope : Scope} {spos : Pos} (own : List (Str × Nat)) (hc : X.calm = true) (hN : X.N.Nodup) (ok : BlkOk X.N X.env.scope scope own) (hi : WI X tg iter sg M Qi) (h : LcOk X scope (own.map (·.2)) tg elt ifs sg Qi fun d M1 => E.nx (sg.set i (some d)) M1) (hif : ifs.length ≤ 1 := by decide)
    (hy : X.N[i]? = some y := by rfl) (hyl : X.env.scope.names.lookup y = some .local := by rfl) (hsw : swapsWith (.ListComp elt [⟨tg, iter, ifs, 0⟩] scope pos) (some (.Name y py)) spos.line X.env = pure true := by exact sw_true rfl rfl rfl (by decide +kernel)) (hs : ∀ x, foldedSetIterable iter X.env x = pure x := by intro _; rfl) : WS X (.Assign [.Name y py] (.ListComp elt [⟨tg, iter, ifs, 0⟩] scope pos) spos) sg M E := by
  obtain ⟨wi, pi, hw⟩ := hi
  refine WS.of (ps_setLc hc hN hy hyl hsw pi ok blk_pg (blk_pts hif) blk_pe hs) fun σ H G w s => lc_run (Q := fun d M1 => E.nx (sg.set i (some d)) M1) hw hif h w s fun v H' q => ?_
  obtain ⟨d, G1, M1, st, w1, r1, q⟩ := q
  exact ⟨_, G1, M1, st, w1, (s.mono (st.gx w)).set i r1, q⟩
/-- a comprehension that changes nothing, over ds: the items that pass, their images -/
theorem lc_pure {elt : Expr} {ifs : List Expr} {scope : Scope} {vs : List Nat} {ds : List D} {C : Mem → Prop} {M0 : Mem} (p : D → Bool) (f : D → D) (hC : C M0) (hz : ds.length < sizeLine)
    (h : ∀ (i : Nat) (d : D), ds[i]? = some d → ∃ is sg2, (∀ j, j ∈ is → j ∈ vs) ∧ (Blk X scope fun Y => WG Y tg is d (wipeD sg vs) sg2) ∧ (Blk X scope fun Y => WTs Y ifs sg2 M0 fun b M2 => b = p d ∧ M2 = M0) ∧ (p d = true → Blk X scope fun Y => EE Y elt sg2 M0 (f d))) :
    ∃ Pv : Nat → List D → Mem → Prop, Pv 0 [] M0 ∧ (∀ i acc M1, Pv i acc M1 → C M1 ∧ acc.length < sizeLine) ∧ (∀ i d acc M1, ds[i]? = some d → Pv i acc M1 → LcTurn X scope vs tg elt ifs sg d M1 (fun y M3 => Pv (i + 1) (acc ++ [y]) M3) (fun M3 => Pv (i + 1) acc M3)) ∧ ∀ acc M1, Pv ds.length acc M1 → acc = (ds.filter p).map f ∧ M1 = M0 := by
  refine ⟨fun i acc M1 => i ≤ ds.length ∧ acc = ((ds.take i).filter p).map f ∧ M1 = M0, ⟨Nat.zero_le _, rfl, rfl⟩, fun i acc M1 ⟨hi, e1, e2⟩ => ?_, fun i d acc M1 hd ⟨hi, e1, e2⟩ => ?_, fun acc M1 ⟨_, e1, e2⟩ => ?_⟩
  · subst e1; subst e2
    refine ⟨hC, ?_⟩
    rw [List.length_map]
    have a1 := List.length_filter_le p (ds.take i)
    rw [List.length_take] at a1
    omega
  · subst e1; subst e2
    obtain ⟨is, sg2, hv, hg, ht, he⟩ := h i d hd
    have hlt := (List.getElem?_eq_some_iff.mp hd).1
    have tk : ds.take (i + 1) = ds.take i ++ [d] := by rw [List.take_add_one, hd]; rfl
    refine ⟨is, sg2, hv, hg, fun b M2 => b = p d ∧ M2 = M1, ht, fun M2 ⟨e1, e2⟩ => ?_, fun M2 ⟨e1, e2⟩ => ?_⟩
    · subst e2
      intro s H C' cl fp
      refine (he e1.symm s H C' cl fp).imp fun y M3 ⟨e3, e4⟩ => ⟨hlt, ?_, e4⟩
      rw [e3, tk, List.filter_append, List.map_append, List.filter_cons_of_pos e1.symm]
      rfl
    · subst e2
      refine ⟨hlt, ?_, rfl⟩
      rw [tk, List.filter_append, List.filter_cons_of_neg (by rw [← e1]; decide), List.filter_nil, List.append_nil]
  · subst e1; subst e2
    rw [List.take_length]
    exact ⟨rfl, rfl⟩

/-! ### methods of lists that may change -/
def MtD (K : PySem.W.Frag) (r : V → List V → Hp → VK → Prop) (x : D) (xs : List D) (M : Mem) (Q : D → Mem → Prop) : Prop := ∀ (G H : Hp) (v : V) (vs : List V) (R : VK), Wd K G M H → Rp K G v x → RpA K G vs xs → (∀ z H', PV K G M H Q z H' → R z H') → r v vs H R
theorem we_bm {o e : Expr} {es : List Expr} {name : Str} {apos cpos : Pos} {T id : String} {r : V → List V → Hp → VK → Prop} (pa : PlainAttrs T) (slot : Slot T name id) (hty : typeOf (.builtin id) = pure (.type "method_descriptor")) (hm : MtR X id r)
    (h : WE X o sg M fun x M1 => (∀ G H v, Wd X.K G M1 H → Rp X.K G v x → tyV X.K T v H) ∧ WA X (e :: es) sg M1 fun xs M2 => MtD X.K r x xs M2 Q) (hbase : attributeBase o name X.env (eval o X.env) = eval o X.env := by rfl)
    (hfew : ((backTo cpos (starEach (e :: es) X.env)).all (fun x => !x.1) && (backToKw cpos (keywordEach [] X.env)).all (fun x => x.1.isSome) && decide ((e :: es).length + ([] : List Keyword).length + (if ([] : List Keyword).isEmpty then 0 else 1) < 30)) = true := by rfl)
    (hline : (apos.endLine == cpos.line) = true := by rfl) (hs : starEach (e :: es) X.env = (false, eval e X.env) :: starEach es X.env := by exact star1 rfl) (hplain : (backTo cpos (starEach es X.env)).any (·.1) = false := by exact starN rfl) : WE X (.Call (.Attribute o name apos) (e :: es) [] cpos) sg M Q :=
  WE.of (pe_bm pa slot hty hm pe_w pa_w hbase hfew hline hs hplain) fun σ H G w s => (h σ H G w s).imp fun v H1 ⟨x, G1, M1, st, w1, r1, ty, q1⟩ => ⟨ty G1 H1 v w1 r1, (q1 σ H1 G1 w1 (s.mono (st.gx w))).imp fun vs H2 ⟨xs, G2, M2, st2, w2, r2, q2⟩ => q2 G2 H2 v vs _ w2 (r1.mono (st2.gx w1)) r2 fun z H' p => p.base (st.trans st2)⟩
theorem we_bm0 {o : Expr} {name : Str} {apos cpos : Pos} {T id : String} {r : V → List V → Hp → VK → Prop} (pa : PlainAttrs T) (slot : Slot T name id) (hty : typeOf (.builtin id) = pure (.type "method_descriptor")) (hm : MtR X id r)
    (h : WE X o sg M fun x M1 => (∀ G H v, Wd X.K G M1 H → Rp X.K G v x → tyV X.K T v H) ∧ MtD X.K r x [] M1 Q) (hbase : attributeBase o name X.env (eval o X.env) = eval o X.env := by rfl) (hline : (apos.endLine == cpos.line) = true := by rfl) : WE X (.Call (.Attribute o name apos) [] [] cpos) sg M Q :=
  WE.of (pe_bm0 pa slot hty hm pe_w hbase hline) fun σ H G w s => (h σ H G w s).imp fun v H1 ⟨x, G1, M1, st, w1, r1, ty, q1⟩ => ⟨ty G1 H1 v w1 r1, q1 G1 H1 v [] _ w1 r1 .nil fun z H' p => p.base st⟩
theorem ty_lst {x : D} {ds : List D} (l : LsD M x ds) : ∀ G H v, Wd K G M H → Rp K G v x → tyV K "list" v H := fun G H v w r => by
  obtain ⟨a, xs, rfl, h1, _⟩ := l.at w r
  exact .inl ⟨rfl, xs, SqL.of h1⟩
theorem md_append {p : Addr} {ds : List D} {d : D} (hm : M p = some (.lst ds)) (hz : ds.length < sizeLine) (q : Q .non (updM M p (some (.lst (ds ++ [d]))))) : MtD K rAppend (.ptr p) [d] M Q := fun G H v vs R w rv rs k => by
  cases rv
  obtain ⟨u, rfl, ru⟩ := rs.one
  obtain ⟨g, xs, h1, r1⟩ := w.mem _ _ hm
  refine ⟨p, xs, u, rfl, rfl, h1, by rw [r1.length]; exact hz, k _ _ ?_⟩
  obtain ⟨w', st⟩ := w.write hm (o := .lst (xs ++ [u])) (mo := .lst (ds ++ [d])) ⟨_, upd_same, r1.append (.cons ru .nil)⟩
  exact ⟨_, _, _, st, w', .non, q⟩
theorem md_extend {p : Addr} {ds es : List D} {y : D} (hm : M p = some (.lst ds)) (hy : LsD M y es) (hz : ds.length + es.length ≤ sizeLine) (q : Q .non (updM M p (some (.lst (ds ++ es))))) : MtD K rExtend (.ptr p) [y] M Q := fun G H v vs R w rv rs k => by
  cases rv
  obtain ⟨u, rfl, ru⟩ := rs.one
  obtain ⟨b, ys, rfl, h2, r2⟩ := hy.at w ru
  obtain ⟨g, xs, h1, r1⟩ := w.mem _ _ hm
  refine ⟨p, b, xs, ys, rfl, rfl, h1, h2, by rw [r1.length, r2.length]; exact hz, k _ _ ?_⟩
  obtain ⟨w', st⟩ := w.write hm (o := .lst (xs ++ ys)) (mo := .lst (ds ++ es)) ⟨_, upd_same, r1.append r2⟩
  exact ⟨_, _, _, st, w', .non, q⟩
/-- xs[i] = e -/
def StD (K : PySem.W.Frag) (t : TSet) (o i v : D) (M : Mem) (Q : Mem → Prop) : Prop := ∀ (G H : Hp) (ov iv vv : V) (R : Hp → Prop), Wd K G M H → Rp K G ov o → Rp K G iv i → Rp K G vv v → (∀ G' M' H', Stp G M H G' M' H' → Wd K G' M' H' → Q M' → R H') → t ov iv vv H R
theorem ws_sub {o i e : Expr} {t : TSet} {tpos : Pos} (hp : PSet X t) (h : WE X e sg M fun z M1 => WE X o sg M1 fun x M2 => WE X i sg M2 fun y M3 => StD X.K t x y z M3 fun M4 => E.nx sg M4)
    (ha : ∀ v, assign (.Subscript o i tpos) X.env v = (do
      let ov ← holding [v] (eval o X.env)
      let iv ← holding [v, ov] (eval i X.env)
      standAt tpos
      holding [v, ov, iv] (setItem ov iv v)
      release [v, ov, iv] []) := by intro _; rfl) (hs : swapsWithSole [.Subscript o i tpos] e pos.line X.env = pure false := by rfl) (hw : swappedStores [.Subscript o i tpos] e X.env = pure none := by rfl) (h1 : (assignEach [.Subscript o i tpos] X.env).map (·.2) = [assign (.Subscript o i tpos) X.env] := by rfl) : WS X (.Assign [.Subscript o i tpos] e pos) sg M E :=
  WS.of (ps_asg pe_w (pg_sub pe_w pe_w hp ha) hs hw h1) fun σ H G w s => (h σ H G w s).imp fun z H1 ⟨dz, G1, M1, st1, w1, r1, q1⟩ => (q1 σ H1 G1 w1 (s.mono (st1.gx w))).imp fun x H2 ⟨dx, G2, M2, st2, w2, r2, q2⟩ => (q2 σ H2 G2 w2 (s.mono ((st1.trans st2).gx w))).imp fun y H3 ⟨dy, G3, M3, st3, w3, r3, q3⟩ =>
    q3 G3 H3 x y z _ w3 (r2.mono (st3.gx w2)) r3 (r1.mono ((st2.trans st3).gx w1)) fun G4 M4 H4 st4 w4 q4 => ⟨sg, G4, M4, ((st1.trans st2).trans st3).trans st4, w4, s.mono ((((st1.trans st2).trans st3).trans st4).gx w), q4⟩
theorem sd_setL {p : Addr} {ds : List D} {i : Int} {j : Nat} {d : D} {Qm : Mem → Prop} (hm : M p = some (.lst ds)) (hj : ixN ds.length i = some j) (q : Qm (updM M p (some (.lst (ds.set j d))))) : StD K rSetL (.ptr p) (.int i) d M Qm := fun G H ov iv vv R w ro ri rv k => by
  cases ro; cases ri
  obtain ⟨g, xs, h1, r1⟩ := w.mem _ _ hm
  refine ⟨p, xs, i, j, rfl, rfl, h1, by rw [r1.length]; exact hj, ?_⟩
  obtain ⟨w', st⟩ := w.write hm (o := .lst (xs.set j vv)) (mo := .lst (ds.set j d)) ⟨_, upd_same, r1.set rv j⟩
  exact k _ _ _ st w' q

/-! ### defs -/
abbrev SpD := List D → Mem → (D → Mem → Prop) → Prop
def spD (K : PySem.W.Frag) (n : Nat) (S : SpD) : Sp := fun vs H R _ => ∃ (G : Hp) (M : Mem) (ds : List D) (Q : D → Mem → Prop), Wd K G M H ∧ RpA K G vs ds ∧ ds.length = n ∧ S ds M Q ∧ ∀ v H', PV K G M H Q v H' → R v H'
/-- the name x calls a def that keeps S, by at most level k -/
def Cal (P : Program) (w : World) (K : PySem.W.Frag) (mg : Str → Option Value) (base : Heap) (k : Nat) (x : Str) (n : Nat) (S : SpD) : Prop :=
  ∃ f fd ps, FnOk P w K mg base CX0 k f fd ps (spD K n S) ∧ mg x = some (.ref f) ∧ PySem.W.keepIn K (.ref f) = true ∧ Binds K fd ps []
theorem Cal.mono {P : Program} {w : World} {mg : Str → Option Value} {base : Heap} {j k n : Nat} {x : Str} {S : SpD} (h : Cal P w K mg base j x n S) (hj : j ≤ k) : Cal P w K mg base k x n S := let ⟨f, fd, ps, F, a, b, c⟩ := h; ⟨f, fd, ps, F.mono hj, a, b, c⟩
theorem Cal.imp {P : Program} {w : World} {mg : Str → Option Value} {base : Heap} {k n : Nat} {x : Str} {S S' : SpD} (h : Cal P w K mg base k x n S) (hs : ∀ ds M Q, S' ds M Q → S ds M Q) : Cal P w K mg base k x n S' :=
  let ⟨f, fd, ps, F, a, b, c⟩ := h; ⟨f, fd, ps, F.imp fun _ _ _ _ ⟨G, M, ds, Q, w, r, l, s, q⟩ => ⟨G, M, ds, Q, w, r, l, hs _ _ _ s, q⟩, a, b, c⟩
theorem we_call {k n : Nat} {x : Str} {S : SpD} {p : Pos} {e : Expr} {es : List Expr} (C : Cal X.prog X.w X.K X.mg X.base k x n S) (hr : Room k X.A) (h : WA X (e :: es) sg M fun ds M1 => ds.length = n ∧ S ds M1 Q) (hg : Gl X x := by rfl) (hd : (x == ("__debug__" : Str)) = false := by decide)
    (he : starEach (e :: es) X.env = (false, eval e X.env) :: starEach es X.env := by exact star1 rfl) (hpl : (backTo pos (starEach es X.env)).any (·.1) = false := by exact starN rfl) : WE X (.Call (.Name x p) (e :: es) [] pos) sg M Q := by
  obtain ⟨f, fd, ps, F, hm, kp, b⟩ := C
  refine WE.of (pe_call F hr hg hm kp b .nil pass0 pa_w hd he hpl) fun σ H G w s => (h σ H G w s).imp fun vs H1 ⟨ds, G1, M1, st, w1, r1, l, q⟩ => ?_
  show spD _ _ _ (vs ++ []) _ _ _
  rw [List.append_nil]
  exact ⟨G1, M1, ds, Q, w1, r1, l, q, fun v H' p => p.base st⟩
def startD (N : List Str) (ds : List D) : Sg := ds.map some ++ List.replicate (N.length - ds.length) none
theorem start_rp {G : Hp} {N : List Str} {vs : List V} {ds : List D} (r : RpA K G vs ds) : SRp K G (startD N ds) (L2.start N vs) := by
  have hl := r.length
  refine ⟨by unfold L2.start startD; simp [hl], fun i d e => ?_⟩
  unfold startD at e
  unfold L2.start
  by_cases hi : i < ds.length
  · rw [List.getElem?_append_left (by simpa using hi), List.getElem?_map] at e
    rw [List.getElem?_append_left (by simpa [hl] using hi), List.getElem?_map]
    cases ed : ds[i]? with
    | none => rw [ed] at e; cases e
    | some c =>
      rw [ed] at e
      cases e
      obtain ⟨v, hv, rv⟩ := r.get ed
      exact ⟨v, by rw [hv]; rfl, rv⟩
  · rw [List.getElem?_append_right (by simpa using hi), List.getElem?_replicate] at e
    split at e <;> cases e
section
variable {P : Program} {w : World} {mg : Str → Option Value} {base : Heap}
/-- a def of the text keeps S -/
theorem dfn {x qual : Str} {st : Stmt} {f : Addr} {fd : FuncData} {N ps : List Str} {k n : Nat} {S : SpD} (F : Fun K x qual st f fd) (sc : FnScope N ps (defScope st)) (hn : ps.length = n) (hm : mg x = some (.ref f)) (hb : Binds K fd ps [])
    (body : ∀ (cdv : Value) (A : Around) (outer : List Env) (s : Shared) (H : Hp) (E : XK) (ds : List D) (M : Mem) (Q : D → Mem → Prop), Room k (A.deeper (envOfC qual (defScope st) s.heap.objs.size f cdv)) → ds.length = n → S ds M Q →
      WSs (cxOf CX0 P w K mg base N qual (defScope st) f cdv A outer s H E).nox (defBody st) (startD N ds) M { nx := fun _ M' => Q .non M', rt := Q }) : Cal P w K mg base (k + 1) x n S := by
  refine ⟨f, fd, ps, F.ok sc (fun vs H R E h => ?_) (fun cdv A outer s H vs R E hr h => ?_), hm, F.kp, hb⟩
  · obtain ⟨G, M, ds, Q, _, r, l, _⟩ := h
    rw [r.length, l, hn]
  · obtain ⟨G, M, ds, Q, wd, r, l, hs, q⟩ := h
    refine ⟨tWSs _ (defBody st), pss_w, (body cdv A outer s H E ds M Q hr l hs _ H G wd (start_rp r)).imp (fun σ' H' ⟨sg', G', M', st', w', s', q'⟩ => q _ _ ⟨.non, G', M', st', w', .non, q'⟩) (fun v H' p => q v H' p) (fun _ _ p => ?_) (fun _ _ p => ?_)⟩
    · obtain ⟨_, _, _, _, _, _, z⟩ := p; exact z
    · obtain ⟨_, _, _, _, _, _, z⟩ := p; exact z
end
end
end DL
set_option Elab.async false
set_option linter.all false
set_option maxRecDepth 100000
set_option maxHeartbeats 4000000
/-! DLf: what the layer below lacks: enumerate over a tuple, a tuple back to front, list(range(n)). -/
namespace DL
open PySem L2 PyProof.Rows HT
section
variable {prog : Program} {w : World} {A : Around} {E : Value → Shared → Prop} {s : Shared}
/-! ### t[::-1] -/
theorem rev_applied {sl : Addr} {vl vu vs : Value} {n : Nat} {Q : Int × Int × Nat → Shared → Prop} (hs : s.heap.IsSliceOf sl vl vu vs) (a : IsPart vl none) (b : IsPart vu none) (c : IsPart vs (some (-1)))
    (h : Q ((n : Int) - 1, -1, n) s) : wpAny (model prog w) A (Builtin.Slice.sliceApplied (.ref sl) (pure (n : Int))) Q E s := by
  obtain ⟨o, ho, _, hd⟩ := id hs
  unfold Builtin.Slice.sliceApplied Builtin.Slice.sliceFields
  refine wpAny_bind (wpAny_bind (wpAny_field ho hd (x := vl) rfl (wpAny_bind (wpAny_field ho hd (x := vu) rfl (wpAny_bind (wpAny_field ho hd (x := vs) rfl (wpAny_pure ?_)))))))
  refine wpAny_bind (slicePart_ c ?_)
  show wpAny _ _ (if ((-1 : Int) == 0) = true then _ else _) _ _ s
  rw [if_neg (by decide)]
  refine wpAny_bind (slicePart_ a (wpAny_bind (slicePart_ b (wpAny_bind (wpAny_pure ?_)))))
  show wpAny _ _ (pure ((n : Int) - 1, (-1 : Int), Builtin.Slice.slicePlaces ((n : Int) - 1) (-1) (-1))) _ _ s
  have e : Builtin.Slice.slicePlaces ((n : Int) - 1) (-1) (-1) = n := by
    unfold Builtin.Slice.slicePlaces
    have h1 : ¬ ((-1 : Int) > 0) := by decide
    simp only [h1, if_false]
    by_cases h2 : (n : Int) - 1 > -1
    · rw [if_pos h2, show (- -1 : Int) = 1 by decide, Int.ediv_one]
      omega
    · rw [if_neg h2]
      omega
  rw [e]
  exact wpAny_pure h
theorem rev_pick (xs : Array Value) : ((List.range xs.size).filterMap fun (m : Nat) => xs[(((xs.size : Nat) : Int) - 1 + (m : Int) * -1).toNat]?).toArray = xs.toList.reverse.toArray := by
  have f : (fun (m : Nat) => xs[(((xs.size : Nat) : Int) - 1 + (m : Int) * -1).toNat]?) = (fun i => xs[i]?) ∘ fun m => xs.size - 1 - m := by
    funext m
    show xs[(((xs.size : Nat) : Int) - 1 + (m : Int) * -1).toNat]? = xs[xs.size - 1 - m]?
    rw [show (((xs.size : Nat) : Int) - 1 + (m : Int) * -1).toNat = xs.size - 1 - m by omega]
  rw [f, ← List.filterMap_map, PySem.W.krv_range, List.filterMap_reverse, PySem.W.krv_all]
theorem getItem_rev {t sl : Addr} {items : Array Value} {vl vu vs : Value} {Q : Value → Shared → Prop} (ht : IsTup s.heap t items) (hs : s.heap.IsSliceOf sl vl vu vs) (a : IsPart vl none) (b : IsPart vu none) (c : IsPart vs (some (-1))) (hz : items.size ≤ sizeLine)
    (h : Q (.ref s.heap.objs.size) { s with heap := s.heap.push { cls := .type "tuple", data := .seq items.toList.reverse.toArray } }) : wpAny (model prog w) A (getItem (.ref t) (.ref sl)) Q E s := by
  have hok : sizeOk (.seq items.toList.reverse.toArray) := by
    show items.toList.reverse.toArray.size ≤ sizeLine
    rw [List.size_toArray, List.length_reverse, Array.length_toList]
    exact hz
  obtain ⟨o, ho, hc, hd⟩ := id hs
  have hT : s.TypeIs (.ref sl) "slice" := ⟨o, ho, hc⟩
  unfold getItem
  try with_reducible refine wpAny_holding ?_
  first | refine wpAny_bind (wpAny_pure ?_) | skip
  refine wpAny_bind (wpAny_sequenceKey ht.typeIs (by decide) ?_)
  refine wpAny_bind (wpAny_callSpecial?_slot (name := Str.ofString "__getitem__") ht.typeIs slot_tuple_getitem (wpAny_call_entry slot_tuple_getitem ht.typeIs entry_tuple_getitem ?_ (args_tuple_getitem _ _)))
  show wpAny _ _ (Builtin.Tuple.tupleItemsOf (.ref t) >>= _) _ _ s
  refine wpAny_bind (tupleItemsOf_ ht (wpAny_bind (wpAny_typeOf hT ?_)))
  rw [if_pos (by decide)]
  refine wpAny_bind (rev_applied hs a b c ?_)
  have hno : ¬ ((((items.size : Nat) : Int) - 1 == 0 && (-1 : Int) == 1 && items.size == items.size) = true) := by
    rw [show ((-1 : Int) == 1) = false by decide, Bool.and_false, Bool.false_and]
    exact Bool.false_ne_true
  show wpAny _ _ (if ((((items.size : Nat) : Int) - 1 == 0 && (-1 : Int) == 1 && items.size == items.size) = true) then _ else _) _ _ s
  rw [if_neg hno, rev_pick]
  first
    | exact wpAny_bind (m := Builtin.Tuple.tupleExact _) (wpAny_newObj_type (wpAny_pure ⟨_, rfl, wpAny_pure h⟩) hok)
    | exact wpAny_bind (m := Builtin.Tuple.tupleExact _) (wpAny_newObj_type (wpAny_bind (wpAny_pure (wpAny_pure ⟨_, rfl, wpAny_pure h⟩))) hok)
    | exact wpAny_bind (wpAny_bind (m := Builtin.Tuple.tupleExact _) (wpAny_newObj_type (wpAny_pure (wpAny_pure ⟨_, rfl, wpAny_pure h⟩)) hok))
    | exact wpAny_bind (wpAny_bind (m := Builtin.Tuple.tupleExact _) (wpAny_newObj_type (wpAny_pure ⟨_, rfl, wpAny_pure h⟩) hok))
end
section
variable {X : Cx} {sg : Sg} {M : Mem} {E : EndsD} {Q : D → Mem → Prop} {pos : Pos} {K : PySem.W.Frag}
def tRevT (K : PySem.W.Frag) (te : TE) : TE := fun σ H R => te σ H fun x H1 => ∃ a xs, x = .ref a ∧ SqT K H1 a xs ∧ ∀ p, H1 p = none → R (.ref p) (upd H1 p (.tup xs.reverse))
theorem pe_revT {e : Expr} {te : TE} {k : Nat} {p1 p2 p3 : Pos} (he : PE X e te) : PE X (.Subscript e (.Slice none none (some (.UnaryOp .USub (.Constant (.int 1) k p1) p2)) p3) pos) (tRevT X.K te) := by
  refine ⟨fun pins s σ H R I h => ?_⟩
  refine Subscript_ (thn (he.run pins s σ H _ I h) fun v s1 ⟨x, H1, I1, r1, a, xs, ex, hx, q⟩ => ?_)
  subst ex
  cases r1
  have hst : PO X (some (.UnaryOp .USub (.Constant (.int 1) k p1) p2)) (tPart (tUn (rU fun i => .int (-i)) (tC (.int 1)))) := po_some (pe_un un_neg pe_int)
  refine wpAny_Slice (thn (po_none.run pins s1 σ H1 (fun o H2 => o = none ∧ H2 = H1) I1 ⟨rfl, rfl⟩) fun vl s2 ⟨l, H2, I2, pl, el, e2⟩ => ?_)
  subst el e2
  refine thn (po_none.run pins s2 σ H2 (fun o H3 => o = none ∧ H3 = H2) I2 ⟨rfl, rfl⟩) fun vu s3 ⟨u, H3, I3, pu, eu, e3⟩ => ?_
  subst eu e3
  refine thn (hst.run pins s3 σ H3 (fun o H4 => o = some (-1) ∧ H4 = H3) I3 ⟨1, rfl, -1, rfl, rfl, rfl⟩) fun vs s4 ⟨o, H4, I4, ps, eo, e4⟩ => ?_
  subst eo e4
  have I5 : Inv X pins σ H4 { s4 with heap := s4.heap.push { cls := .type "slice", data := .fields #[vl, vu, vs] } } := I4.kept (t' := s4.toks) fun b ob z => Heap.get?_push_of_some _ z
  obtain ⟨its, r, ht, hz⟩ := I5.tuple hx
  have hlen := r.length
  show wpAny _ X.A (subscriptTail e (.Slice none none (some (.UnaryOp .USub (.Constant (.int 1) k p1) p2)) p3) (.ref a) (.ref s4.heap.objs.size)) _ X.xe { s4 with heap := s4.heap.push { cls := .type "slice", data := .fields #[vl, vu, vs] } }
  refine tail_any (ops := [.ref a, .ref s4.heap.objs.size]) ht.typeIs slot_tuple_getitem.lookup ?_ (by with_unfolding_all rfl)
  refine getItem_rev ht (Heap.IsSliceOf.new _ vl vu vs) pl pu ps (by rw [List.size_toArray]; omega) ?_
  refine ⟨.ref _, _, I5.laid (t' := s4.toks) (o := .tup xs.reverse) (fun b ob z => Heap.get?_push_of_some _ z) (Nat.le_refl _) ?_, rfl, q _ (I5.hok.fresh (Nat.le_refl _))⟩
  exact ⟨by rw [List.length_reverse]; exact hz, _, r.reverse, ⟨_, Heap.get?_push_size _ rfl, rfl, _, rfl⟩⟩
theorem we_revT {e : Expr} {k : Nat} {p1 p2 p3 : Pos} (h : WE X e sg M fun x M1 => ∃ ds, x = .tup ds ∧ Q (.tup ds.reverse) M1) : WE X (.Subscript e (.Slice none none (some (.UnaryOp .USub (.Constant (.int 1) k p1) p2)) p3) pos) sg M Q := WE.of (pe_revT pe_w) fun σ H G w s => (h σ H G w s).imp fun v H1 ⟨x, G1, M1, st, w1, r1, ds, e1, q⟩ => by
  subst e1
  cases r1 with
  | tup h1 rx => exact ⟨_, _, rfl, h1.sq w1.sub, fun p hp => (new_tup w1 hp rx.reverse q).base st⟩

/-! ### enumerate(t): its beginning -/
abbrev tupIt (t : Addr) : Obj := { cls := .type "tuple_iterator", data := .fields #[.ref t, .int 0 0] }
abbrev enumO (i : Addr) : Obj := { cls := .type "enumerate", data := .fields #[.none, .bool false, .ref i, rawInt 0, .none, .none] }
set_option maxHeartbeats 1000000 in
theorem meets_enumT (t : Addr) (items : Array Value) :
    Meets (Builtin.«enumerate.__new__» ⟨[.type "enumerate", .ref t], []⟩) (fun _ R s => s.heap.IsTuple t items ∧ R (.ok (.ret (.ref (s.heap.push (tupIt t)).objs.size))) { s with heap := (s.heap.push (tupIt t)).push (enumO s.heap.objs.size) }) :=
  .of_wp fun prog w A R s h => by
    obtain ⟨hp, g, d, tk, os⟩ := s
    obtain ⟨hL, h⟩ := h
    have hsub := sub_enumerate
    replace hL : Heap.IsTuple (Shared.heap ⟨hp, g, d, tk, os⟩) t items := hL
    have q1 : ∀ {A' : Around} {E : Value → Shared → Prop} {Q : Value → Shared → Prop}, Q (.ref hp.objs.size) ⟨hp.push (tupIt t), g, d, tk, os⟩ → wpAny (model prog w) A' (pyIter (.ref t)) Q E ⟨hp, g, d, tk, os⟩ := fun q => wpAny_pyIter_tuple hL q
    wp_walk using q1
    refine wpAny_stack_any fun st => wpAny_pure ?_
    split
    · rename_i c _ _ _ _ _
      cases (c == Value.type "enumerate")
      · wp_walk using q1
        exact ⟨_, rfl, h⟩
      · wp_walk using q1
        exact ⟨_, rfl, h⟩
    · wp_walk using q1
      exact ⟨_, rfl, h⟩
theorem call_enumT {prog : Program} {w : World} {A : Around} {E : Value → Shared → Prop} {s : Shared} {t : Addr} {items : Array Value} {Q : Value → Shared → Prop} (hL : s.heap.IsTuple t items)
    (h : ∀ h', IsEnum h' (s.heap.objs.size + 1) s.heap.objs.size 0 .none → h'.IsTupleIter s.heap.objs.size t 0 → (∀ b o, s.heap.get? b = some o → h'.get? b = some o) → Q (.ref (s.heap.objs.size + 1)) { s with heap := h' }) :
    wpAny (model prog w) A (call (.type "enumerate") [.ref t]) Q E s := by
  refine callType_new F.called_enumerate (by decide) (F.typeCall_enumerate_1 _) (F.newCall_enumerate_1 _) (fun obj => F.args_object_init_2 obj _) F.entry_enumerate_new (meets_enumT t items) ⟨hL, ?_⟩
  have hz : (s.heap.push (tupIt t)).objs.size = s.heap.objs.size + 1 := Heap.size_push ..
  show _ ∧ _
  rw [hz]
  have he : IsEnum ((s.heap.push (tupIt t)).push (enumO s.heap.objs.size)) (s.heap.objs.size + 1) s.heap.objs.size 0 .none := by
    have q := Heap.get?_push_size (s.heap.push (tupIt t)) (o := enumO s.heap.objs.size) rfl
    rw [hz] at q
    exact q
  exact ⟨⟨_, he, rfl⟩, h _ he ⟨_, Heap.get?_push_of_some _ (Heap.get?_push_size _ rfl), rfl, rfl⟩ fun b o x => Heap.get?_push_of_some _ (Heap.get?_push_of_some _ x)⟩
/-! ### enumerate(t) -/
def Itf (K : PySem.W.Frag) (a : Addr) : It :=
  ⟨fun i H => ∃ (xs : List V) (x : V), SqT K H a xs ∧ xs[i]? = some x, fun i H v H' => ∃ T x, v = .ref T ∧ H T = none ∧ H' = upd H T (.tup [.int (i : Nat), x]) ∧ ∀ xs, SqT K H a xs → xs[i]? = some x, fun i H => ∃ xs : List V, SqT K H a xs ∧ xs.length = i⟩
theorem turn_enumT {P : Program} {w : World} {elts : List Expr} {kk : Nat} {tpos : Pos} (a e it : Addr) :
    Turn P w K (.Tuple elts kk tpos) (Itf K a) [e, it] e (fun i h => (∃ old, IsEnum h e it ((i : Nat) : Int) old) ∧ h.IsTupleIter it a i ∧ e ≠ it) where
  mem := by simp
  obj := fun i h ⟨⟨old, he⟩, ⟨o, ho, hc, hd⟩, _⟩ b hb => by
    rcases (by simpa using hb : b = e ∨ b = it) with z | z
    · rw [z]; exact ⟨_, he, fun v q => nomatch q⟩
    · rw [z]; exact ⟨o, ho, fun v q => by rw [hd] at q; cases q⟩
  keep := fun i h h' ⟨⟨old, he⟩, hi, hne⟩ k => ⟨⟨old, k e (by simp) _ he⟩, hi.at fun o q => k it (by simp) o q, hne⟩
  item := by
    intro X hP hw hK hc i pins s σ H E I hf st hg
    subst hP hw hK
    obtain ⟨⟨old, he⟩, hit, hne⟩ := st
    obtain ⟨xs, x, hq, hx⟩ := hg
    obtain ⟨its, rv, p, hz⟩ := I.tuple hq
    obtain ⟨u, hu, ru⟩ := rv.get hx
    have hil : i < xs.length := (List.getElem?_eq_some_iff.mp hx).1
    have hsz : its.toArray.size = xs.length := by rw [List.size_toArray]; exact rv.length.symm
    have hel : e < s.heap.objs.size := Heap.lt_size he
    have hilt : it < s.heap.objs.size := by obtain ⟨_, q, _⟩ := hit; exact Heap.lt_size q
    have ane : a ≠ it := fun z => by
      obtain ⟨o, q, c, _⟩ := hit
      obtain ⟨o2, q2, c2, _⟩ := p
      rw [z, q] at q2
      cases q2
      rw [c] at c2
      injection c2 with c3
      exact absurd c3 (by decide)
    have eae : e ≠ a := fun z => by
      obtain ⟨o2, q2, c2, _⟩ := p
      have he' := he
      unfold IsEnum at he'
      rw [z, q2] at he'
      cases he'
      injection c2 with c3
      exact absurd c3 (by decide)
    have D := Draws.tuple (prog := X.prog) (w := X.w) (A := X.A.in1) (I.ok.hd hc) it a ane its.toArray
    refine wpAny_pyNext_enum_itemC D he (i := i) ⟨hit, p⟩ (by rw [hsz]; exact hil) hne (by simp [hne, eae]) fun y h' tk hy ho st' hT hsz' hk => ?_
    have ey : y = u := by
      have hy' : its.toArray[i]? = some y := hy
      rw [List.getElem?_toArray, hu] at hy'
      exact (Option.some.inj hy').symm
    subst ey
    refine ⟨_, rfl, wpAny_letOwnedTupleGo_enum (s := { s with heap := h', toks := tk + 1 }) ho fun h'' he' sb => ?_⟩
    have hT2 : h''.get? s.heap.objs.size = some { cls := .type "tuple", data := .seq #[.int i tk, y] } := (sb.2 _ (Nat.ne_of_gt hel)).trans hT
    have new : ObjOk X.prog X.w (upd H s.heap.objs.size (.tup [.int (i : Nat), x])) h'' s.heap.objs.size (.tup [.int (i : Nat), x]) :=
      ⟨by show 2 ≤ sizeLine; decide, [.int i tk, y], .cons ⟨_, rfl⟩ (.cons ru .nil), ⟨_, hT2, rfl, _, rfl⟩⟩
    have I1 : Inv X pins σ (upd H s.heap.objs.size (.tup [.int (i : Nat), x])) { s with heap := h'', toks := tk + 1 } :=
      I.turnedNew (ch := [e, it]) (fun b ob hb q => (sb.2 b (fun z => hb (by simp [z]))).trans (hk b ob (fun z => hb (by simp [z])) (fun z => hb (by simp [z])) q)) hf (Nat.le_refl _) new
    refine ⟨.ref s.heap.objs.size, _, I1, rfl, ⟨_, x, rfl, I.hok.fresh (Nat.le_refl _), rfl, fun ys hy => by rw [I.tuple_inj hy hq]; exact hx⟩, ⟨⟨y, ?_⟩, st'.1.at fun o q => (sb.2 it (Ne.symm hne)).trans q, hne⟩, fun b hb => ?_⟩
    · have e1 : ((i + 1 : Nat) : Int) = (i : Int) + 1 := by omega
      rw [e1]; exact he'
    · have hb' : b < s.heap.objs.size := by
        rcases (by simpa using hb : b = e ∨ b = it) with z | z
        · rw [z]; exact hel
        · rw [z]; exact hilt
      rw [upd_ne (Nat.ne_of_lt hb')]
      exact (hf b hb).1
  done := by
    intro X hP hw hK hc i pins s σ H E I hf st hg
    subst hP hw hK
    obtain ⟨⟨old, he⟩, hit, hne⟩ := st
    obtain ⟨xs, hq, hx⟩ := hg
    obtain ⟨its, rv, p, hz⟩ := I.tuple hq
    obtain ⟨f0, f1, f2, f3, f4, f5⟩ := hf it (by simp)
    have ane : a ≠ it := fun z => by
      obtain ⟨o, q, c, _⟩ := hit
      obtain ⟨o2, q2, c2, _⟩ := p
      rw [z, q] at q2
      cases q2
      rw [c] at c2
      injection c2 with c3
      exact absurd c3 (by decide)
    have D := Draws.tuple (prog := X.prog) (w := X.w) (A := X.A.in1) (I.ok.hd hc) it a ane its.toArray
    have hn : its.toArray.size = i := by rw [List.size_toArray, ← rv.length]; exact hx
    refine wpAny_pyNext_enum_endD D he ⟨by rw [hn]; exact hit, p⟩ fun h' eb => ⟨rfl, I.turned (t' := s.toks) (fun b o hb q => eb b o hb q) f0 f1 f3 f4 f5⟩
  self := fun A i s Q E ⟨⟨_, he⟩, _⟩ h => wpAny_pyIter_enum he h
def iEnumT (K : PySem.W.Frag) (ta : TA) : TI := fun σ H R => ta σ H fun vs H1 => ∃ a xs, vs = [.ref a] ∧ SqT K H1 a xs ∧ R (Itf K a) H1
theorem pi_enumT {e : Expr} {ta : TA} {p tpos : Pos} {elts : List Expr} {kk : Nat} (hg : Gl X "enumerate") (hm : X.mg "enumerate" = none) (ha : PA X [e] ta) (hs : starEach [e] X.env = [(false, eval e X.env)] := by exact star1n rfl) : PI X (.Tuple elts kk tpos) (.Call (.Name "enumerate" p) [e] [] pos) (iEnumT X.K ta) := by
  refine ⟨fun pins s σ H R I h => ?_⟩
  refine Call_ (ld_blt I hg hm boot_enumerate (callWith_type1 (thn (ha.run pos pins s σ H _ I h) fun us s1 ⟨vs, H1, I1, r1, a, xs, ex, hq, q⟩ => ?_) hs rfl))
  subst ex
  cases r1 with
  | cons r rr =>
    cases rr
    cases r
    obtain ⟨its, rv, p', hz⟩ := I1.tuple hq
    refine call_enumT (items := its.toArray) p' fun h' he hit hk => wpAny_pyIter_enum he ?_
    have I2 : Inv X pins σ H1 { s1 with heap := h' } := I1.kept (t' := s1.toks) hk
    refine ⟨s1.heap.objs.size + 1, [s1.heap.objs.size + 1, s1.heap.objs.size], _, _, H1, rfl, I2, turn_enumT a (s1.heap.objs.size + 1) s1.heap.objs.size, ⟨⟨.none, he⟩, hit, Nat.succ_ne_self _⟩, fun b hb => ?_, q⟩
    have hle : s1.heap.objs.size ≤ b := by
      rcases (by simpa using hb : b = s1.heap.objs.size + 1 ∨ b = s1.heap.objs.size) with z | z
      · rw [z]; exact Nat.le_add_right _ _
      · rw [z]; exact Nat.le_refl _
    exact I1.fpOk hle (I1.hok.fresh hle)
theorem wi_enumT {Qi : List D → (Mem → Prop) → Mem → Prop} {e : Expr} {p tpos : Pos} {elts : List Expr} {kk : Nat} (hm : X.mg "enumerate" = none) (h : WA X [e] sg M fun xs M1 => ∃ ds, xs = [.tup ds] ∧ Qi (enumD ds) (fun _ => True) M1) (hg : Gl X "enumerate" := by rfl) (hs : starEach [e] X.env = [(false, eval e X.env)] := by exact star1n rfl) : WI X (.Tuple elts kk tpos) (.Call (.Name "enumerate" p) [e] [] pos) sg M Qi := ⟨_, pi_enumT hg hm pa_w hs, fun σ H G R w s k => (h σ H G w s).imp fun vs H1 ⟨xs, G1, M1, st, w1, r1, ds, e, q⟩ => by
  subst e
  obtain ⟨v, rfl, rv⟩ := r1.one
  cases rv with
  | @tup a ys _ h1 rx =>
    refine ⟨a, ys, rfl, h1.sq w1.sub, k _ _ _ _ G1 M1 st w1 (fun G2 M2 H2 gx w2 _ i => ?_) q⟩
    have h2 : SqT X.K H2 a ys := h1.sq (gx.trans w2.sub)
    have rz := rx.mono gx
    have hl : (enumD ds).length = ds.length := by unfold enumD; rw [List.length_mapIdx]
    refine ⟨fun hi => ⟨ys, h2, by rw [rz.length, hi, hl]⟩, fun d hd => ?_⟩
    obtain ⟨c, hc, ec⟩ : ∃ c, ds[i]? = some c ∧ d = .tup [.int (i : Int), c] := by
      unfold enumD at hd
      rw [List.getElem?_mapIdx] at hd
      cases e : ds[i]? with
      | none => rw [e] at hd; cases hd
      | some c => rw [e] at hd; exact ⟨c, rfl, (Option.some.inj hd).symm⟩
    subst ec
    obtain ⟨z, hz, rd⟩ := rz.get hc
    refine ⟨⟨ys, z, h2, hz⟩, fun t H' ⟨T, y, e1, e2, e3, e4⟩ => ?_⟩
    subst e1; subst e3
    have e := (e4 ys h2).symm.trans hz
    cases e
    exact new_pair w2 e2 (.int _) rd⟩
/-! ### list(range(n)) -/
def rRngE (ta : TA) : TE := fun σ H R => ta σ H fun vs H1 => ∃ j : Int, vs = [.int j] ∧ -(2 ^ 62) ≤ j ∧ j ≤ 1000000 ∧ ∀ p, H1 p = none → R (.ref p) (upd H1 p (.lst ((List.range j.toNat).map fun (i : Nat) => V.int (i : Int))))
end
end DL
set_option Elab.async false
set_option linter.all false
set_option maxRecDepth 100000
set_option maxHeartbeats 4000000
/-! DLg: list(range(n)); sorted of pairs of ints. -/
namespace DL
open PySem L2 PyProof.Rows HT
section
variable {X : Cx} {sg : Sg} {M : Mem} {E : EndsD} {Q : D → Mem → Prop} {pos : Pos} {K : PySem.W.Frag}
theorem cr_rng1 : CallR X (.type "range") (fun vs H Q => ∃ j, vs = [V.int j] ∧ ∀ p, H p = none → Q (.ref p) (upd H p (.rng 0 j))) := by
  intro pins s σ H vs us R I r h
  obtain ⟨j, rfl, q⟩ := h
  obtain ⟨u, rfl, t, rfl⟩ := vals1 r
  refine call_range_1 ⟨.ref s.heap.objs.size, upd H s.heap.objs.size (.rng 0 j), I.laid (t' := s.toks + 1 + 1) (fun b o e => Heap.get?_push_of_some _ e) (Nat.le_refl _) ?_, rfl, q _ (I.hok.fresh (Nat.le_refl _))⟩
  exact ⟨_, _, _, Heap.get?_push_size _ rfl⟩
theorem vals_rng {n : Nat} {acc : Array Value} (h : ItemsOf (fun i v => ∃ t, v = Value.int (0 + (i : Int) * 1) t) acc n) : Vals ((List.range n).map fun (i : Nat) => V.int (i : Int)) acc.toList := by
  obtain ⟨hl, hi⟩ := h
  have key : ∀ (l : List Value) (k : Nat), (∀ (j : Nat) v, l[j]? = some v → ∃ t, v = Value.int (((k + j : Nat) : Int)) t) → Vals ((List.range' k l.length).map fun (i : Nat) => V.int (i : Int)) l := by
    intro l
    induction l with
    | nil => intro k _; exact .nil
    | cons v l ih =>
      intro k h
      refine .cons (h 0 v rfl) (ih (k + 1) fun j u e => ?_)
      obtain ⟨t, e'⟩ := h (j + 1) u (by simpa using e)
      exact ⟨t, by rw [e', show k + (j + 1) = k + 1 + j by omega]⟩
  have q := key acc.toList 0 fun j v e => by
    obtain ⟨t, e'⟩ := hi j v (by rw [← Array.getElem?_toList]; exact e)
    exact ⟨t, by rw [e', show (0 : Int) + (j : Int) * 1 = ((0 + j : Nat) : Int) by omega]⟩
  rw [Array.length_toList, hl, ← List.range_eq_range'] at q
  exact q
theorem cr_listR (hc : X.calm = true) : CallR X (.type "list") (fun vs H Q => ∃ p j, vs = [V.ref p] ∧ H p = some (.rng 0 j) ∧ -(2 ^ 62) ≤ j ∧ j ≤ 1000000 ∧ ∀ l, H l = none → Q (.ref l) (upd H l (.lst ((List.range j.toNat).map fun (i : Nat) => V.int (i : Int))))) := by
  intro pins s σ H vs us R I r h
  obtain ⟨p, j, rfl, hp, b1, b2, q⟩ := h
  obtain ⟨u, rfl, ru⟩ := vals1 r
  obtain rfl : u = Value.ref p := ru
  obtain ⟨t, t2, t3, ho⟩ := (show ObjOk X.prog X.w H s.heap p (.rng 0 j) from I.hok p _ hp)
  have hz : Builtin.Range.rangeSize 0 j 1 = j.toNat := by
    rw [rangeSize_one]
    split <;> omega
  have hs : j.toNat ≤ sizeLine := by rw [sizeLine_eq]; omega
  refine call_list_range (I.ok.hd hc) ho (small_one (by decide) (by decide) b1 (by omega)) hz (by omega) fun h' tk acc c' hk hS hi => ?_
  refine ⟨.ref s.heap.objs.size, _, I.laid (t' := tk) (o := .lst ((List.range j.toNat).map fun (i : Nat) => V.int (i : Int))) hk (Nat.le_refl _) ⟨?_, acc.toList, c', vals_rng hi, by simpa using hS⟩, rfl, q _ (I.hok.fresh (Nat.le_refl _))⟩
  rw [List.length_map, List.length_range]
  exact hs
theorem rpa_rng {G : Hp} : ∀ n : Nat, RpA K G ((List.range n).map fun (i : Nat) => V.int (i : Int)) (rngD 0 n) := fun n => by
  have q := rpa_ints (K := K) (G := G) ((List.range n).map fun (i : Nat) => (i : Int))
  rw [List.map_map, List.map_map] at q
  unfold rngD
  have e : (D.int ∘ fun (i : Nat) => (i : Int)) = fun (i : Nat) => D.int (0 + (i : Int)) := by
    funext i
    show D.int (i : Int) = D.int (0 + (i : Int))
    rw [Int.zero_add]
  rw [e] at q
  exact q
/-- list(range(e)) -/
theorem we_lrng {e : Expr} {p1 p2 pos2 : Pos} (hc : X.calm = true) (hl : X.mg "list" = none) (hr : X.mg "range" = none) (h : WE X e sg M fun x M1 => ∃ j, x = .int j ∧ -(2 ^ 62) ≤ j ∧ j ≤ 1000000 ∧ Q (.lst (rngD 0 j.toNat)) M1) (g1 : Gl X "list" := by rfl) (g2 : Gl X "range" := by rfl)
    (s1 : starEach [.Call (.Name "range" p2) [e] [] pos2] X.env = (false, eval (.Call (.Name "range" p2) [e] [] pos2) X.env) :: starEach [] X.env := by exact star1 rfl) (s2 : starEach [e] X.env = (false, eval e X.env) :: starEach [] X.env := by exact star1 rfl) (t1 : (backTo pos (starEach [] X.env)).any (·.1) = false := by exact starN rfl) (t2 : (backTo pos2 (starEach [] X.env)).any (·.1) = false := by exact starN rfl) :
    WE X (.Call (.Name "list" p1) [.Call (.Name "range" p2) [e] [] pos2] [] pos) sg M Q :=
  WE.of (pe_callTy (cr_listR hc) g1 hl (by decide +kernel) (pa_cons (pe_callTy cr_rng1 g2 hr (by decide +kernel) (pa_cons pe_w pa_nil s2) (by decide) (by decide) s2 t2) pa_nil s1) (by decide) (by decide) s1 t1) fun σ H G w s =>
    (h σ H G w s).imp fun v H1 ⟨x, G1, M1, st, w1, r1, j, e1, b1, b2, q⟩ => by
      subst e1
      cases r1
      refine ⟨j, rfl, fun p hp => ⟨p, j, rfl, upd_same, b1, b2, fun l hl => ?_⟩⟩
      have w2 : Wd X.K G1 M1 (upd H1 p (.rng 0 j)) := w1.other (w1.free hp).1 (w1.free hp).2 fun u e m => w1.fresh hp e m
      have st2 : Stp G1 M1 H1 G1 M1 (upd H1 p (.rng 0 j)) := ⟨fun z o e m => ⟨by rw [upd_ne (ne_of_none e hp)]; exact e, rfl, m⟩, rfl⟩
      exact (new_lst w2 hl (rpa_rng _) q).base (st.trans st2)

/-! ### sorted(xs), xs a list of pairs of ints -/
def PairAt (K : PySem.W.Frag) (H : Hp) (x : V) (p : Int × Int) : Prop := ∃ t, x = V.ref t ∧ SqT K H t [.int p.1, .int p.2]
abbrev SrtP (ps : List (Int × Int)) : Prop := ps.Pairwise fun x y => SrtO.lexB y x = false
def rSrt (K : PySem.W.Frag) : List V → Hp → VK → Prop := fun vs H Q => ∃ (a : Addr) (xs : List V) (ps : List (Int × Int)) (F : V → Int × Int → Prop), vs = [V.ref a] ∧ SqL K H a xs ∧ (∀ x p, F x p → PairAt K H x p) ∧ Paired F xs ps ∧
  ∀ ys ps' p, ps'.Perm ps → SrtP ps' → Paired F ys ps' → H p = none → Q (.ref p) (upd H p (.lst ys))
theorem paired_mem {α β : Type} {F : α → β → Prop} : ∀ {xs : List α} {ys : List β}, Paired F xs ys → ∀ x ∈ xs, ∃ y, F x y
  | _, _, .nil, x, h => by cases h
  | _, _, .cons r t, x, h => by
    rcases List.mem_cons.mp h with e | h
    · subst e; exact ⟨_, r⟩
    · exact paired_mem t x h
theorem paired_map {α β : Type} {F : α → β → Prop} {k : α → β} (u : ∀ x y, F x y → k x = y) : ∀ {xs : List α} {ys : List β}, Paired F xs ys → ys = xs.map k
  | _, _, .nil => rfl
  | _, _, .cons r t => by rw [List.map_cons, ← paired_map u t, u _ _ r]
theorem paired_of {α β : Type} {F : α → β → Prop} {k : α → β} : ∀ {xs : List α}, (∀ x ∈ xs, F x (k x)) → Paired F xs (xs.map k)
  | [], _ => .nil
  | x :: xs, h => .cons (h x List.mem_cons_self) (paired_of fun y hy => h y (List.mem_cons_of_mem _ hy))
open Classical in
theorem cr_srt : CallR X (.builtin "sorted") (rSrt X.K) := by
  intro pins s σ H vs us R I r h
  obtain ⟨a, xs, ps, F, rfl, hs, hF, hp, q⟩ := h
  obtain ⟨its, rv, hl, hz⟩ := I.list hs
  obtain ⟨u, rfl, ru⟩ := vals1 r
  obtain rfl : u = Value.ref a := ru
  let k : V → Int × Int := fun x => if c : ∃ p, F x p then c.choose else (0, 0)
  have kk : ∀ x p, F x p → F x (k x) := fun x p hx => by
    have c : ∃ p, F x p := ⟨p, hx⟩
    show F x (if c : ∃ p, F x p then c.choose else (0, 0))
    rw [dif_pos c]
    exact c.choose_spec
  have ku : ∀ x p, F x p → k x = p := fun x p hx => by
    obtain ⟨t, e, h1⟩ := hF _ _ (kk x p hx)
    obtain ⟨t', e', h2⟩ := hF _ _ hx
    subst e
    cases e'
    have z := I.tuple_inj h1 h2
    injection z with z1 z2
    injection z2 with z3 z4
    injection z1 with z1
    injection z3 with z3
    exact Prod.ext z1 z3
  have hf : ∀ x ∈ xs, F x (k x) := fun x m => by
    obtain ⟨p, hp'⟩ := paired_mem hp x m
    exact kk x p hp'
  have hx : ∀ x ∈ xs, PairAt X.K H x (k x) := fun x m => hF _ _ (hf x m)
  obtain ⟨e1, e2⟩ := refs_back rv fun x m => by
    obtain ⟨t, e, _⟩ := hx x m
    exact ⟨t, e⟩
  refine SrtO.sorted_pairsO (k := fun u => k (backV u)) hl.isList (by rw [← rv.length]; exact hz) (fun v hv => ?_) fun h' d out h1 h2 kp hd hn => ?_
  · obtain ⟨t, rfl⟩ := e2 v hv
    obtain ⟨t', e, ht⟩ := hx (V.ref t) (by rw [e1]; exact List.mem_map.mpr ⟨_, hv, rfl⟩)
    cases e
    obtain ⟨its2, r2, ⟨o, ho, hc, n, hd⟩, _⟩ := I.tuple ht
    obtain ⟨u1, u2, rfl, ri, rj⟩ := vals2 r2
    obtain ⟨t1, rfl⟩ := ri
    obtain ⟨t2, rfl⟩ := rj
    exact ⟨t, o, t1, t2, n, rfl, ho, hc, hd⟩
  · obtain ⟨n, hn⟩ := hn
    have hb : SrtO.Stb (ltP k) (out.map backV) xs := by
      rw [e1]
      exact SrtO.Stb.map (ltP_swo k) backV h2
    have h3 := SrtO.srtd_map (f := backV) (lt := ltP k) h1
    refine ⟨.ref d, upd H d (.lst (out.map backV)), I.laid (t' := s.toks) kp hd ⟨by rw [hb.len]; exact hz, out, n, vals_back fun u hu => e2 u (h2.perm.mem_iff.mp hu), hn⟩, rfl, q _ ((out.map backV).map k) d ?_ ?_ ?_ (I.hok.fresh hd)⟩
    · rw [paired_map ku hp]
      exact hb.perm.map k
    · exact List.pairwise_map.mpr h3
    · exact paired_of fun x m => hf x (hb.perm.mem_iff.mp m)
def pairD (p : Int × Int) : D := .tup [.int p.1, .int p.2]
theorem pairs_of {G : Hp} : ∀ {vs : List V} {ps : List (Int × Int)}, RpA K G vs (ps.map pairD) → Paired (fun v p => Rp K G v (pairD p)) vs ps
  | _, [], .nil => .nil
  | _, _ :: _, .cons h r => .cons h (pairs_of r)
theorem of_pairs {G : Hp} : ∀ {vs : List V} {ps : List (Int × Int)}, Paired (fun v p => Rp K G v (pairD p)) vs ps → RpA K G vs (ps.map pairD)
  | _, _, .nil => .nil
  | _, _, .cons h r => .cons h (of_pairs r)
theorem cd_srt {x : D} {ps : List (Int × Int)} (h : LsD M x (ps.map pairD)) (q : ∀ ps' : List (Int × Int), ps'.Perm ps → SrtP ps' → Q (.lst (ps'.map pairD)) M) : ClD K (rSrt K) [x] M Q := fun G H vs R w r k => by
  obtain ⟨v, rfl, rv⟩ := r.one
  obtain ⟨a, xs, rfl, h1, r1⟩ := h.at w rv
  refine ⟨a, xs, ps, fun v p => Rp K G v (pairD p), rfl, SqL.of h1, fun x p hx => ?_, pairs_of r1, fun ys ps' p hp hs hy hn => k _ _ (new_lst w hn (of_pairs hy) (q ps' hp hs))⟩
  cases hx with
  | tup h1 r1 =>
    obtain ⟨v, u, rfl, rv, ru⟩ := r1.two
    cases rv; cases ru
    exact ⟨_, rfl, h1.sq w.sub⟩
end
end DL
set_option Elab.async false
set_option linter.all false
set_option maxRecDepth 100000
set_option maxHeartbeats 4000000
/-! DLh: short forms, for expressions that change nothing. -/
namespace DL
open PySem L2 PyProof.Rows HT
theorem bi_int : bootBuiltins "int" = some (.type "int") := by decide +kernel
theorem bi_bool : bootBuiltins "bool" = some (.type "bool") := by decide +kernel
theorem bi_str : bootBuiltins "str" = some (.type "str") := by decide +kernel
theorem bi_tuple : bootBuiltins "tuple" = some (.type "tuple") := by decide +kernel
theorem bi_list : bootBuiltins "list" = some (.type "list") := by decide +kernel
theorem bi_len : bootBuiltins "len" = some (.builtin "len") := by decide +kernel
theorem bi_all : bootBuiltins "all" = some (.builtin "all") := by decide +kernel
theorem bi_any : bootBuiltins "any" = some (.builtin "any") := by decide +kernel
theorem bi_sum : bootBuiltins "sum" = some (.builtin "sum") := by decide +kernel
theorem bi_max : bootBuiltins "max" = some (.builtin "max") := by decide +kernel
theorem bi_min : bootBuiltins "min" = some (.builtin "min") := by decide +kernel
theorem bi_sorted : bootBuiltins "sorted" = some (.builtin "sorted") := by decide +kernel
section
variable {X : Cx} {sg : Sg} {M : Mem} {E : EndsD} {Q : D → Mem → Prop} {Qb : Bool → Mem → Prop} {pos : Pos} {K : PySem.W.Frag}
theorem EE.to {e : Expr} {d : D} (h : EE X e sg M d) (q : Q d M) : WE X e sg M Q := h.imp fun x M1 ⟨e1, e2⟩ => by subst e1; subst e2; exact q
theorem ET.to {e : Expr} {b : Bool} (h : ET X e sg M b) (q : Qb b M) : WT X e sg M Qb := h.imp fun x M1 ⟨e1, e2⟩ => by subst e1; subst e2; exact q
theorem EA.to {es : List Expr} {ds : List D} {Ql : List D → Mem → Prop} (h : EA X es sg M ds) (q : Ql ds M) : WA X es sg M Ql := h.imp fun x M1 ⟨e1, e2⟩ => by subst e1; subst e2; exact q
theorem EE.is {e : Expr} {d d' : D} (h : EE X e sg M d) (q : d = d') : EE X e sg M d' := by rw [← q]; exact h
theorem ET.is {e : Expr} {d d' : Bool} (h : ET X e sg M d) (q : d = d') : ET X e sg M d' := by rw [← q]; exact h
theorem ee_v (i : Nat) {x : Str} {d : D} (hs : sg[i]? = some (some d)) (hN : X.N[i]? = some x := by rfl) (hv : Vis X.env.scope x := by first | exact Or.inl rfl | exact Or.inr (Or.inl rfl) | exact Or.inr (Or.inr rfl)) (hd : (x == ("__debug__" : Str)) = false := by decide) (hcd : (x == ("__classdict__" : Str)) = false := by decide) : EE X (.Name x pos) sg M d := we_v i hs ⟨rfl, rfl⟩ hN hv hd hcd
theorem ee_int {i : Int} {j : Nat} : EE X (.Constant (.int i) j pos) sg M (.int i) := we_int ⟨rfl, rfl⟩
theorem ee_bl {i : Bool} {j : Nat} : EE X (.Constant (.bool i) j pos) sg M (.bl i) := we_bl ⟨rfl, rfl⟩
theorem ee_non {j : Nat} : EE X (.Constant .none j pos) sg M .non := we_non ⟨rfl, rfl⟩
theorem ee_str {i : Str} {j : Nat} : EE X (.Constant (.str i) j pos) sg M (.str i) := we_str ⟨rfl, rfl⟩
theorem ee_gi {x : Str} {i : Int} {t : Tok} (hm : X.mg x = some (.int i t)) (hg : Gl X x := by rfl) (hd : (x == ("__debug__" : Str)) = false := by decide) : EE X (.Name x pos) sg M (.int i) := we_gi hm ⟨rfl, rfl⟩ hg hd
section
variable {a b : Expr} {i j : Int}
theorem ee_add (ha : EE X a sg M (.int i)) (hb : EE X b sg M (.int j)) : EE X (.BinOp a .Add b pos) sg M (.int (i + j)) := ee_op op_add ha hb (od_I0 ⟨rfl, rfl⟩)
theorem ee_sub (ha : EE X a sg M (.int i)) (hb : EE X b sg M (.int j)) : EE X (.BinOp a .Sub b pos) sg M (.int (i - j)) := ee_op op_sub ha hb (od_I0 ⟨rfl, rfl⟩)
theorem ee_mul (ha : EE X a sg M (.int i)) (hb : EE X b sg M (.int j)) (h : CMul i j) : EE X (.BinOp a .Mult b pos) sg M (.int (i * j)) := ee_op op_mul ha hb (od_I h ⟨rfl, rfl⟩)
theorem ee_fdiv (ha : EE X a sg M (.int i)) (hb : EE X b sg M (.int j)) (h : CDiv i j) : EE X (.BinOp a .FloorDiv b pos) sg M (.int (i / j)) := ee_op op_fdiv ha hb (od_I h ⟨rfl, rfl⟩)
theorem ee_mod (ha : EE X a sg M (.int i)) (hb : EE X b sg M (.int j)) (h : 0 < j) : EE X (.BinOp a .Mod b pos) sg M (.int (i % j)) := ee_op op_mod ha hb (od_I h ⟨rfl, rfl⟩)
theorem ee_neg (ha : EE X a sg M (.int i)) : EE X (.UnaryOp .USub a pos) sg M (.int (-i)) := WE.of (pe_un un_neg pe_w) fun σ H G w s => (ha σ H G w s).imp fun v H1 ⟨d, G1, M1, st, w1, r1, e, e2⟩ => by
  subst e; subst e2
  cases r1
  exact ⟨i, rfl, _, G1, M1, st, w1, .int _, rfl, rfl⟩
theorem ee_lt (ha : EE X a sg M (.int i)) (hb : EE X b sg M (.int j)) : EE X (.Compare a [.Lt] [b] pos) sg M (.bl (decide (i < j))) := ee_cmp op_lt ha hb (od_B0 ⟨rfl, rfl⟩)
theorem ee_le (ha : EE X a sg M (.int i)) (hb : EE X b sg M (.int j)) : EE X (.Compare a [.LtE] [b] pos) sg M (.bl (decide (i ≤ j))) := ee_cmp op_le ha hb (od_B0 ⟨rfl, rfl⟩)
theorem ee_gt (ha : EE X a sg M (.int i)) (hb : EE X b sg M (.int j)) : EE X (.Compare a [.Gt] [b] pos) sg M (.bl (decide (j < i))) := ee_cmp op_gt ha hb (od_B0 ⟨rfl, rfl⟩)
theorem ee_ge (ha : EE X a sg M (.int i)) (hb : EE X b sg M (.int j)) : EE X (.Compare a [.GtE] [b] pos) sg M (.bl (decide (j ≤ i))) := ee_cmp op_ge ha hb (od_B0 ⟨rfl, rfl⟩)
theorem ee_eqI (ha : EE X a sg M (.int i)) (hb : EE X b sg M (.int j)) : EE X (.Compare a [.Eq] [b] pos) sg M (.bl (decide (i = j))) := ee_cmp op_eq ha hb (od_eqI ⟨rfl, rfl⟩)
theorem ee_neI (ha : EE X a sg M (.int i)) (hb : EE X b sg M (.int j)) : EE X (.Compare a [.NotEq] [b] pos) sg M (.bl (!decide (i = j))) := ee_cmp op_ne ha hb (od_neI ⟨rfl, rfl⟩)
theorem et_lt (ha : EE X a sg M (.int i)) (hb : EE X b sg M (.int j)) : ET X (.Compare a [.Lt] [b] pos) sg M (decide (i < j)) := et_cmp op_lt ha hb (od_B0 ⟨_, rfl, rfl, rfl⟩)
theorem et_le (ha : EE X a sg M (.int i)) (hb : EE X b sg M (.int j)) : ET X (.Compare a [.LtE] [b] pos) sg M (decide (i ≤ j)) := et_cmp op_le ha hb (od_B0 ⟨_, rfl, rfl, rfl⟩)
theorem et_gt (ha : EE X a sg M (.int i)) (hb : EE X b sg M (.int j)) : ET X (.Compare a [.Gt] [b] pos) sg M (decide (j < i)) := et_cmp op_gt ha hb (od_B0 ⟨_, rfl, rfl, rfl⟩)
theorem et_ge (ha : EE X a sg M (.int i)) (hb : EE X b sg M (.int j)) : ET X (.Compare a [.GtE] [b] pos) sg M (decide (j ≤ i)) := et_cmp op_ge ha hb (od_B0 ⟨_, rfl, rfl, rfl⟩)
theorem et_eqI (ha : EE X a sg M (.int i)) (hb : EE X b sg M (.int j)) : ET X (.Compare a [.Eq] [b] pos) sg M (decide (i = j)) := et_cmp op_eq ha hb (od_eqI ⟨_, rfl, rfl, rfl⟩)
theorem et_neI (ha : EE X a sg M (.int i)) (hb : EE X b sg M (.int j)) : ET X (.Compare a [.NotEq] [b] pos) sg M (!decide (i = j)) := et_cmp op_ne ha hb (od_neI ⟨_, rfl, rfl, rfl⟩)
theorem ee_le_le {c : Expr} {l : Int} (ha : EE X a sg M (.int i)) (hb : EE X b sg M (.int j)) (hc : EE X c sg M (.int l)) (hm : lastMarks [.LtE, .LtE] [b, c] = false := by with_unfolding_all rfl) : EE X (.Compare a [.LtE, .LtE] [b, c] pos) sg M (.bl (decide (i ≤ j) && decide (j ≤ l))) := we_chain op_le op_le (tri_I (p := fun i j => decide (i ≤ j)) (p' := fun i j => decide (i ≤ j)) ha hb hc ⟨rfl, rfl⟩) hm
theorem et_le_le {c : Expr} {l : Int} (ha : EE X a sg M (.int i)) (hb : EE X b sg M (.int j)) (hc : EE X c sg M (.int l)) (hm : lastMarks [.LtE, .LtE] [b, c] = false := by with_unfolding_all rfl) : ET X (.Compare a [.LtE, .LtE] [b, c] pos) sg M (decide (i ≤ j) && decide (j ≤ l)) := wt_chain op_le op_le (tri_I (p := fun i j => decide (i ≤ j)) (p' := fun i j => decide (i ≤ j)) ha hb hc ⟨rfl, rfl⟩) hm
/-- isinstance of plain data -/
def isIns (T : String) (d : D) : Bool := (kitB (tyD d) T).getD false
theorem isIns_some {T : String} (h : ([("NoneType"), "bool", "int", "str", "tuple", "list"].all fun a => (kitB a T).isSome) = true) (d : D) : kitB (tyD d) T = some (isIns T d) := by
  unfold isIns
  have q : (kitB (tyD d) T).isSome = true := by
    have h' := List.all_eq_true.mp h
    cases d <;> exact h' _ (by simp [tyD])
  obtain ⟨b, e⟩ := Option.isSome_iff_exists.mp q
  rw [e]
  rfl
theorem k_int : ([("NoneType"), "bool", "int", "str", "tuple", "list"].all fun a => (kitB a "int").isSome) = true := by decide +kernel
theorem k_bool : ([("NoneType"), "bool", "int", "str", "tuple", "list"].all fun a => (kitB a "bool").isSome) = true := by decide +kernel
theorem k_str : ([("NoneType"), "bool", "int", "str", "tuple", "list"].all fun a => (kitB a "str").isSome) = true := by decide +kernel
theorem k_tuple : ([("NoneType"), "bool", "int", "str", "tuple", "list"].all fun a => (kitB a "tuple").isSome) = true := by decide +kernel
theorem k_list : ([("NoneType"), "bool", "int", "str", "tuple", "list"].all fun a => (kitB a "list").isSome) = true := by decide +kernel
def isI : D → Bool
  | .int _ => true
  | .bl _ => true
  | _ => false
def isB : D → Bool
  | .bl _ => true
  | _ => false
def isS : D → Bool
  | .str _ => true
  | _ => false
def isT : D → Bool
  | .tup _ => true
  | _ => false
def isL : D → Bool
  | .lst _ => true
  | .ptr _ => true
  | .scr _ => true
  | _ => false
theorem ins_int (d : D) : isIns "int" d = isI d := by cases d <;> rfl
theorem ins_bool (d : D) : isIns "bool" d = isB d := by cases d <;> rfl
theorem ins_str (d : D) : isIns "str" d = isS d := by cases d <;> rfl
theorem ins_tuple (d : D) : isIns "tuple" d = isT d := by cases d <;> rfl
theorem ins_list (d : D) : isIns "list" d = isL d := by cases d <;> rfl
theorem isI_of {d : D} (h : (isI d && !isB d) = true) : ∃ i, d = .int i := by cases d <;> first | exact ⟨_, rfl⟩ | cases h
theorem isB_of {d : D} (h : isB d = true) : ∃ i, d = .bl i := by cases d <;> first | exact ⟨_, rfl⟩ | cases h
theorem isS_of {d : D} (h : isS d = true) : ∃ i, d = .str i := by cases d <;> first | exact ⟨_, rfl⟩ | cases h
theorem isT_of {d : D} (h : isT d = true) : ∃ ds, d = .tup ds := by cases d <;> first | exact ⟨_, rfl⟩ | cases h
section
variable {e : Expr} {d : D} {p p2 : Pos}
theorem ee_isi {y : Str} {T : String} (hm : X.mg "isinstance" = none) (hmT : X.mg y = none) (hv : bootBuiltins y = some (.type T)) (hk : ([("NoneType"), "bool", "int", "str", "tuple", "list"].all fun a => (kitB a T).isSome) = true) (h : EE X e sg M d) (lk : LkD M d) (hg : Gl X "isinstance" := by rfl) (hgT : Gl X y := by rfl) (hn : y ≠ "__name__" := by decide) (hdb : (y == ("__debug__" : Str)) = false := by decide)
    (hs : starEach [e, .Name y p2] X.env = (false, eval e X.env) :: starEach [.Name y p2] X.env := by exact star1 rfl) (hs2 : starEach [.Name y p2] X.env = (false, eval (.Name y p2) X.env) :: starEach [] X.env := by exact star1 rfl) (hpl : (backTo pos (starEach [.Name y p2] X.env)).any (·.1) = false := by exact starN rfl) : EE X (.Call (.Name "isinstance" p) [e, .Name y p2] [] pos) sg M (.bl (isIns T d)) :=
  we_isi hm hmT hv (h.to ⟨lk, _, isIns_some hk d, rfl, rfl⟩) hg hgT hn hdb hs hs2 hpl
theorem ee_isI (hm : X.mg "isinstance" = none) (hmT : X.mg "int" = none) (h : EE X e sg M d) (lk : LkD M d) (hg : Gl X "isinstance" := by rfl) (hgT : Gl X "int" := by rfl)
    (hs : starEach [e, .Name "int" p2] X.env = (false, eval e X.env) :: starEach [.Name "int" p2] X.env := by exact star1 rfl) (hs2 : starEach [.Name "int" p2] X.env = (false, eval (.Name "int" p2) X.env) :: starEach [] X.env := by exact star1 rfl) (hpl : (backTo pos (starEach [.Name "int" p2] X.env)).any (·.1) = false := by exact starN rfl) : EE X (.Call (.Name "isinstance" p) [e, .Name "int" p2] [] pos) sg M (.bl (isI d)) := by
  rw [← ins_int]
  exact ee_isi hm hmT bi_int k_int h lk hg hgT (by decide) (by decide) hs hs2 hpl
theorem ee_isB (hm : X.mg "isinstance" = none) (hmT : X.mg "bool" = none) (h : EE X e sg M d) (lk : LkD M d) (hg : Gl X "isinstance" := by rfl) (hgT : Gl X "bool" := by rfl)
    (hs : starEach [e, .Name "bool" p2] X.env = (false, eval e X.env) :: starEach [.Name "bool" p2] X.env := by exact star1 rfl) (hs2 : starEach [.Name "bool" p2] X.env = (false, eval (.Name "bool" p2) X.env) :: starEach [] X.env := by exact star1 rfl) (hpl : (backTo pos (starEach [.Name "bool" p2] X.env)).any (·.1) = false := by exact starN rfl) : EE X (.Call (.Name "isinstance" p) [e, .Name "bool" p2] [] pos) sg M (.bl (isB d)) := by
  rw [← ins_bool]
  exact ee_isi hm hmT bi_bool k_bool h lk hg hgT (by decide) (by decide) hs hs2 hpl
theorem ee_isS (hm : X.mg "isinstance" = none) (hmT : X.mg "str" = none) (h : EE X e sg M d) (lk : LkD M d) (hg : Gl X "isinstance" := by rfl) (hgT : Gl X "str" := by rfl)
    (hs : starEach [e, .Name "str" p2] X.env = (false, eval e X.env) :: starEach [.Name "str" p2] X.env := by exact star1 rfl) (hs2 : starEach [.Name "str" p2] X.env = (false, eval (.Name "str" p2) X.env) :: starEach [] X.env := by exact star1 rfl) (hpl : (backTo pos (starEach [.Name "str" p2] X.env)).any (·.1) = false := by exact starN rfl) : EE X (.Call (.Name "isinstance" p) [e, .Name "str" p2] [] pos) sg M (.bl (isS d)) := by
  rw [← ins_str]
  exact ee_isi hm hmT bi_str k_str h lk hg hgT (by decide) (by decide) hs hs2 hpl
theorem ee_isT (hm : X.mg "isinstance" = none) (hmT : X.mg "tuple" = none) (h : EE X e sg M d) (lk : LkD M d) (hg : Gl X "isinstance" := by rfl) (hgT : Gl X "tuple" := by rfl)
    (hs : starEach [e, .Name "tuple" p2] X.env = (false, eval e X.env) :: starEach [.Name "tuple" p2] X.env := by exact star1 rfl) (hs2 : starEach [.Name "tuple" p2] X.env = (false, eval (.Name "tuple" p2) X.env) :: starEach [] X.env := by exact star1 rfl) (hpl : (backTo pos (starEach [.Name "tuple" p2] X.env)).any (·.1) = false := by exact starN rfl) : EE X (.Call (.Name "isinstance" p) [e, .Name "tuple" p2] [] pos) sg M (.bl (isT d)) := by
  rw [← ins_tuple]
  exact ee_isi hm hmT bi_tuple k_tuple h lk hg hgT (by decide) (by decide) hs hs2 hpl
theorem ee_isL (hm : X.mg "isinstance" = none) (hmT : X.mg "list" = none) (h : EE X e sg M d) (lk : LkD M d) (hg : Gl X "isinstance" := by rfl) (hgT : Gl X "list" := by rfl)
    (hs : starEach [e, .Name "list" p2] X.env = (false, eval e X.env) :: starEach [.Name "list" p2] X.env := by exact star1 rfl) (hs2 : starEach [.Name "list" p2] X.env = (false, eval (.Name "list" p2) X.env) :: starEach [] X.env := by exact star1 rfl) (hpl : (backTo pos (starEach [.Name "list" p2] X.env)).any (·.1) = false := by exact starN rfl) : EE X (.Call (.Name "isinstance" p) [e, .Name "list" p2] [] pos) sg M (.bl (isL d)) := by
  rw [← ins_list]
  exact ee_isi hm hmT bi_list k_list h lk hg hgT (by decide) (by decide) hs hs2 hpl
end
/-! calls of built-ins on one datum -/
section
variable {e : Expr} {d : D} {p : Pos} {ds : List D}
theorem ee_cb {id : String} {r : List V → Hp → VK → Prop} {x : Str} {es : List Expr} (hc : CallR X (.builtin id) r) (hm : X.mg x = none) (hv : bootBuiltins x = some (.builtin id)) (h : EA X (e :: es) sg M ds) (hcl : ClD X.K r ds M Q) (hg : Gl X x := by rfl) (hn : x ≠ "__name__" := by decide) (hdb : (x == ("__debug__" : Str)) = false := by decide)
    (he : starEach (e :: es) X.env = (false, eval e X.env) :: starEach es X.env := by exact star1 rfl) (hpl : (backTo pos (starEach es X.env)).any (·.1) = false := by exact starN rfl) : WE X (.Call (.Name x p) (e :: es) [] pos) sg M Q := we_cb hc hm hv (h.to hcl) hg hn hdb he hpl
theorem ee_ct {T : String} {r : List V → Hp → VK → Prop} {x : Str} {es : List Expr} (hc : CallR X (.type T) r) (hm : X.mg x = none) (hv : bootBuiltins x = some (.type T)) (h : EA X (e :: es) sg M ds) (hcl : ClD X.K r ds M Q) (hg : Gl X x := by rfl) (hn : x ≠ "__name__" := by decide) (hdb : (x == ("__debug__" : Str)) = false := by decide)
    (he : starEach (e :: es) X.env = (false, eval e X.env) :: starEach es X.env := by exact star1 rfl) (hpl : (backTo pos (starEach es X.env)).any (·.1) = false := by exact starN rfl) : WE X (.Call (.Name x p) (e :: es) [] pos) sg M Q := we_ct hc hm hv (h.to hcl) hg hn hdb he hpl
end
end
end
/-- the names of built-ins that the top leaves alone -/
structure Blt (mg : Str → Option Value) : Prop where
  isinstance : mg "isinstance" = none
  int : mg "int" = none
  bool : mg "bool" = none
  str : mg "str" = none
  tuple : mg "tuple" = none
  list : mg "list" = none
  len : mg "len" = none
  all : mg "all" = none
  any : mg "any" = none
  sum : mg "sum" = none
  max : mg "max" = none
  min : mg "min" = none
  sorted : mg "sorted" = none
  range : mg "range" = none
  enumerate : mg "enumerate" = none
  zip : mg "zip" = none
end DL
namespace DL
open PySem L2 PyProof.Rows HT
/-- the def x of the text stands behind the top -/
def Df (K : PySem.W.Frag) (mg : Str → Option Value) (x : Str) (st : Stmt) (ps : List Str) : Prop := ∃ f fd, Fun K x x st f fd ∧ mg x = some (.ref f) ∧ Binds K fd ps []
theorem dfn' {P : Program} {w : World} {K : PySem.W.Frag} {mg : Str → Option Value} {base : Heap} {x : Str} {st : Stmt} {N ps : List Str} {k n : Nat} {S : SpD} (F : Df K mg x st ps) (sc : FnScope N ps (defScope st)) (hn : ps.length = n)
    (body : ∀ (f : Addr) (cdv : Value) (A : Around) (outer : List Env) (s : Shared) (H : Hp) (E : XK) (ds : List D) (M : Mem) (Q : D → Mem → Prop), Room k (A.deeper (envOfC x (defScope st) s.heap.objs.size f cdv)) → ds.length = n → S ds M Q →
      WSs (cxOf CX0 P w K mg base N x (defScope st) f cdv A outer s H E).nox (defBody st) (startD N ds) M { nx := fun _ M' => Q .non M', rt := Q }) : Cal P w K mg base (k + 1) x n S := by
  obtain ⟨f, fd, F, hm, hb⟩ := F
  exact dfn F sc hn hm hb (body f)
end DL
set_option Elab.async false
set_option linter.all false
set_option maxRecDepth 100000
set_option maxHeartbeats 4000000
/-! DLi: comprehensions in short. -/
namespace DL
open PySem L2 PyProof.Rows HT
section
variable {X : Cx} {sg : Sg} {M : Mem} {E : EndsD} {Q : D → Mem → Prop} {pos : Pos} {K : PySem.W.Frag}
abbrev ItQ (ds : List D) (M : Mem) : List D → (Mem → Prop) → Mem → Prop := fun ds' C M0 => ds' = ds ∧ M0 = M ∧ C M
section
variable {elt iter : Expr} {scope : Scope} {x y : Str} {px py pt : Pos} {kt : Nat} {ds : List D}
theorem blk_kind {C : Addr} {cl : List (Str × Addr)} {k : NameKind} {x : Str} {scope : Scope} (hk : k ≠ .free) (h : scope.names.lookup x = some k) : (compEnvC scope cl C X.env).scope.names.lookup x = some k := lookup_relS_keep (sc := X.env.scope) hk h
theorem blk_name (i : Nat) {vs : List Nat} {sg1 : Sg} {d : D} (hN : X.N.Nodup) (hx : scope.names.lookup x = some .local ∨ scope.names.lookup x = some .cell) (hi : X.N[i]? = some x) : Blk X scope fun Y => WG Y (.Name x px) [i] d sg1 (sg1.set i (some d)) := fun s H C cl fp => by
  rcases hx with h | h
  · exact wg_name i hN hi (.inl (blk_kind (by decide) h)) (.inr (blk_kind (by decide) h))
  · refine wg_name i hN hi (.inr (blk_kind (by decide) h)) (.inl ?_)
    show (scope.names.lookup x == some .cell) = true
    rw [h]
    rfl
/-- a turn whose target is one name -/
theorem turn1 (i : Nat) {ifs : List Expr} {vs : List Nat} {d : D} {M1 : Mem} {QT : D → Mem → Prop} {QF : Mem → Prop} (hv : i ∈ vs) (hN : X.N.Nodup) (hx : scope.names.lookup x = some .local ∨ scope.names.lookup x = some .cell) (hi : X.N[i]? = some x)
    (QB : Bool → Mem → Prop) (ht : Blk X scope fun Y => WTs Y ifs ((wipeD sg vs).set i (some d)) M1 QB) (he : ∀ M2, QB true M2 → Blk X scope fun Y => WE Y elt ((wipeD sg vs).set i (some d)) M2 QT) (hf : ∀ M2, QB false M2 → QF M2) : LcTurn X scope vs (.Name x px) elt ifs sg d M1 QT QF :=
  ⟨[i], _, fun j hj => by rw [List.mem_singleton.mp hj]; exact hv, blk_name (vs := vs) i hN hx hi, QB, ht, he, hf⟩
/-- .. two names -/
theorem turn2 (i j : Nat) {ifs : List Expr} {vs : List Nat} {a b : D} {M1 : Mem} {QT : D → Mem → Prop} {QF : Mem → Prop} (hv : i ∈ vs) (hw : j ∈ vs) (hc : X.calm = true) (hN : X.N.Nodup) (hx : scope.names.lookup x = some .local ∨ scope.names.lookup x = some .cell) (hi : X.N[i]? = some x) (hy : scope.names.lookup y = some .local ∨ scope.names.lookup y = some .cell) (hj : X.N[j]? = some y)
    (QB : Bool → Mem → Prop) (ht : Blk X scope fun Y => WTs Y ifs (((wipeD sg vs).set i (some a)).set j (some b)) M1 QB) (he : ∀ M2, QB true M2 → Blk X scope fun Y => WE Y elt (((wipeD sg vs).set i (some a)).set j (some b)) M2 QT) (hf : ∀ M2, QB false M2 → QF M2) : LcTurn X scope vs (.Tuple [.Name x px, .Name y py] kt pt) elt ifs sg (.tup [a, b]) M1 QT QF := by
  refine ⟨[i] ++ ([j] ++ []), ((wipeD sg vs).set i (some a)).set j (some b), fun l hl => ?_, fun s H C cl fp => wg_tup hc (wgs_cons (blk_name (vs := vs) i hN hx hi s H C cl fp) (wgs_cons (blk_name (vs := vs) j hN hy hj s H C cl fp) wgs_nil)), QB, ht, he, hf⟩
  rcases List.mem_append.mp hl with h | h
  · rw [List.mem_singleton.mp h]; exact hv
  · rcases List.mem_append.mp h with h | h
    · rw [List.mem_singleton.mp h]; exact hw
    · cases h
/-- [elt for x in iter], nothing changing -/
theorem ok_lc1 (i : Nat) (f : D → D) (hc : X.calm = true) (hN : X.N.Nodup) (hz : ds.length < sizeLine) (h : ∀ (j : Nat) (d : D), ds[j]? = some d → Blk X scope fun Y => EE Y elt ((wipeD sg [i]).set i (some d)) M (f d))
    (ok : BlkOk X.N X.env.scope scope [(x, i)] := by exact blkOk_by (by with_unfolding_all rfl)) (hx : scope.names.lookup x = some .local ∨ scope.names.lookup x = some .cell := by first | exact Or.inl rfl | exact Or.inr rfl) : LcOk X scope [i] (.Name x px) elt [] sg (ItQ ds M) fun x M' => x = (.lst (ds.map f)) ∧ M' = M :=
  fun ds' C M0 ⟨e1, e2, hC⟩ => by
    subst e1; subst e2
    refine ⟨fun j acc M1 => j ≤ ds'.length ∧ acc = (ds'.take j).map f ∧ M1 = M0, ⟨Nat.zero_le _, rfl, rfl⟩, fun j acc M1 ⟨hj, e1, e2⟩ => ?_, fun j d acc M1 hd ⟨hj, e1, e2⟩ => ?_, fun acc M1 ⟨_, e1, e2⟩ => ?_⟩
    · subst e1; subst e2
      refine ⟨hC, ?_⟩
      rw [List.length_map, List.length_take]
      omega
    · subst e1; subst e2
      refine turn1 i (List.mem_singleton.mpr rfl) hN hx (ok.ix _ (List.mem_singleton.mpr rfl)) (fun b M2 => b = true ∧ M2 = M1) (fun _ _ _ _ _ => ⟨rfl, rfl⟩) (fun M2 ⟨_, e⟩ => ?_) (fun M2 ⟨e, _⟩ => Bool.noConfusion e)
      subst e
      exact fun s H C cl fp => (h j d hd s H C cl fp).imp fun z M3 ⟨e3, e4⟩ => ⟨(List.getElem?_eq_some_iff.mp hd).1, by rw [e3, List.take_add_one, hd, List.map_append]; rfl, e4⟩
    · rw [List.take_length] at e1
      subst e1
      exact ⟨rfl, e2⟩
theorem ee_lc1 (i : Nat) (f : D → D) (hc : X.calm = true) (hN : X.N.Nodup) (hi : WI X (.Name x px) iter sg M (ItQ ds M)) (hz : ds.length < sizeLine) (h : ∀ (j : Nat) (d : D), ds[j]? = some d → Blk X scope fun Y => EE Y elt ((wipeD sg [i]).set i (some d)) M (f d))
    (ok : BlkOk X.N X.env.scope scope [(x, i)] := by exact blkOk_by (by with_unfolding_all rfl)) (hx : scope.names.lookup x = some .local ∨ scope.names.lookup x = some .cell := by first | exact Or.inl rfl | exact Or.inr rfl) (hs : ∀ x, foldedSetIterable iter X.env x = pure x := by intro _; rfl) : EE X (.ListComp elt [⟨.Name x px, iter, [], 0⟩] scope pos) sg M (.lst (ds.map f)) :=
  we_lc [(x, i)] hc hN ok hi (ok_lc1 i f hc hN hz h ok hx) (Nat.zero_le _) hs
/-- [elt for x in iter if c] -/
theorem ok_lc1if {c : Expr} (i : Nat) (p : D → Bool) (f : D → D) (hc : X.calm = true) (hN : X.N.Nodup) (hz : ds.length < sizeLine) (ht : ∀ (j : Nat) (d : D), ds[j]? = some d → Blk X scope fun Y => ET Y c ((wipeD sg [i]).set i (some d)) M (p d)) (h : ∀ (j : Nat) (d : D), ds[j]? = some d → p d = true → Blk X scope fun Y => EE Y elt ((wipeD sg [i]).set i (some d)) M (f d))
    (ok : BlkOk X.N X.env.scope scope [(x, i)] := by exact blkOk_by (by with_unfolding_all rfl)) (hx : scope.names.lookup x = some .local ∨ scope.names.lookup x = some .cell := by first | exact Or.inl rfl | exact Or.inr rfl) : LcOk X scope [i] (.Name x px) elt [c] sg (ItQ ds M) fun x M' => x = (.lst ((ds.filter p).map f)) ∧ M' = M :=
  fun ds' C M0 ⟨e1, e2, hC⟩ => by
    subst e1; subst e2
    refine ⟨fun j acc M1 => j ≤ ds'.length ∧ acc = ((ds'.take j).filter p).map f ∧ M1 = M0, ⟨Nat.zero_le _, rfl, rfl⟩, fun j acc M1 ⟨hj, e1, e2⟩ => ?_, fun j d acc M1 hd ⟨hj, e1, e2⟩ => ?_, fun acc M1 ⟨_, e1, e2⟩ => ?_⟩
    · subst e1; subst e2
      refine ⟨hC, ?_⟩
      rw [List.length_map]
      have a1 := List.length_filter_le p (ds'.take j)
      rw [List.length_take] at a1
      omega
    · subst e1; subst e2
      have hlt := (List.getElem?_eq_some_iff.mp hd).1
      have tk : ds'.take (j + 1) = ds'.take j ++ [d] := by rw [List.take_add_one, hd]; rfl
      refine turn1 i (List.mem_singleton.mpr rfl) hN hx (ok.ix _ (List.mem_singleton.mpr rfl)) (fun b M2 => b = p d ∧ M2 = M1) (ht j d hd) (fun M2 ⟨e3, e⟩ => ?_) (fun M2 ⟨e3, e⟩ => ⟨hlt, ?_, e⟩)
      · subst e
        refine fun s H C cl fp => (h j d hd e3.symm s H C cl fp).imp fun z M3 ⟨e5, e4⟩ => ⟨hlt, ?_, e4⟩
        rw [e5, tk, List.filter_append, List.map_append, List.filter_cons_of_pos e3.symm]
        rfl
      · rw [tk, List.filter_append, List.filter_cons_of_neg (by rw [← e3]; exact Bool.false_ne_true), List.filter_nil, List.append_nil]
    · rw [List.take_length] at e1
      subst e1
      exact ⟨rfl, e2⟩
theorem ee_lc1if {c : Expr} (i : Nat) (p : D → Bool) (f : D → D) (hc : X.calm = true) (hN : X.N.Nodup) (hi : WI X (.Name x px) iter sg M (ItQ ds M)) (hz : ds.length < sizeLine) (ht : ∀ (j : Nat) (d : D), ds[j]? = some d → Blk X scope fun Y => ET Y c ((wipeD sg [i]).set i (some d)) M (p d)) (h : ∀ (j : Nat) (d : D), ds[j]? = some d → p d = true → Blk X scope fun Y => EE Y elt ((wipeD sg [i]).set i (some d)) M (f d))
    (ok : BlkOk X.N X.env.scope scope [(x, i)] := by exact blkOk_by (by with_unfolding_all rfl)) (hx : scope.names.lookup x = some .local ∨ scope.names.lookup x = some .cell := by first | exact Or.inl rfl | exact Or.inr rfl) (hs : ∀ x, foldedSetIterable iter X.env x = pure x := by intro _; rfl) : EE X (.ListComp elt [⟨.Name x px, iter, [c], 0⟩] scope pos) sg M (.lst ((ds.filter p).map f)) :=
  we_lc [(x, i)] hc hN ok hi (ok_lc1if i p f hc hN hz ht h ok hx) (Nat.le_refl _) hs
def fstD : D → D
  | .tup (a :: _) => a
  | _ => .non
def sndD : D → D
  | .tup (_ :: b :: _) => b
  | _ => .non
/-- [elt for x, y in iter] -/
theorem ok_lc2 (i j : Nat) (f : D → D → D) (hc : X.calm = true) (hN : X.N.Nodup) (hz : ds.length < sizeLine) (h : ∀ (l : Nat) (d : D), ds[l]? = some d → ∃ a b, d = .tup [a, b] ∧ Blk X scope fun Y => EE Y elt (((wipeD sg [i, j]).set i (some a)).set j (some b)) M (f a b))
    (ok : BlkOk X.N X.env.scope scope [(x, i), (y, j)] := by exact blkOk_by (by with_unfolding_all rfl)) (hx : scope.names.lookup x = some .local ∨ scope.names.lookup x = some .cell := by first | exact Or.inl rfl | exact Or.inr rfl) (hy : scope.names.lookup y = some .local ∨ scope.names.lookup y = some .cell := by first | exact Or.inl rfl | exact Or.inr rfl) : LcOk X scope [i, j] (.Tuple [.Name x px, .Name y py] kt pt) elt [] sg (ItQ ds M) fun x M' => x = (.lst (ds.map fun d => f (fstD d) (sndD d))) ∧ M' = M :=
  fun ds' C M0 ⟨e1, e2, hC⟩ => by
    subst e1; subst e2
    refine ⟨fun l acc M1 => l ≤ ds'.length ∧ acc = (ds'.take l).map (fun d => f (fstD d) (sndD d)) ∧ M1 = M0, ⟨Nat.zero_le _, rfl, rfl⟩, fun l acc M1 ⟨hj, e1, e2⟩ => ?_, fun l d acc M1 hd ⟨hj, e1, e2⟩ => ?_, fun acc M1 ⟨_, e1, e2⟩ => ?_⟩
    · subst e1; subst e2
      refine ⟨hC, ?_⟩
      rw [List.length_map, List.length_take]
      omega
    · subst e1; subst e2
      obtain ⟨a, b, ed, hb⟩ := h l d hd
      subst ed
      refine turn2 i j (by simp) (by simp) hc hN hx (ok.ix (x, i) (by simp)) hy (ok.ix (y, j) (by simp)) (fun b M2 => b = true ∧ M2 = M1) (fun _ _ _ _ _ => ⟨rfl, rfl⟩) (fun M2 ⟨_, e⟩ => ?_) (fun M2 ⟨e, _⟩ => Bool.noConfusion e)
      subst e
      exact fun s H C cl fp => (hb s H C cl fp).imp fun z M3 ⟨e3, e4⟩ => ⟨(List.getElem?_eq_some_iff.mp hd).1, by rw [e3, List.take_add_one, hd, List.map_append]; rfl, e4⟩
    · rw [List.take_length] at e1
      subst e1
      exact ⟨rfl, e2⟩
theorem ee_lc2 (i j : Nat) (f : D → D → D) (hc : X.calm = true) (hN : X.N.Nodup) (hi : WI X (.Tuple [.Name x px, .Name y py] kt pt) iter sg M (ItQ ds M)) (hz : ds.length < sizeLine) (h : ∀ (l : Nat) (d : D), ds[l]? = some d → ∃ a b, d = .tup [a, b] ∧ Blk X scope fun Y => EE Y elt (((wipeD sg [i, j]).set i (some a)).set j (some b)) M (f a b))
    (ok : BlkOk X.N X.env.scope scope [(x, i), (y, j)] := by exact blkOk_by (by with_unfolding_all rfl)) (hx : scope.names.lookup x = some .local ∨ scope.names.lookup x = some .cell := by first | exact Or.inl rfl | exact Or.inr rfl) (hy : scope.names.lookup y = some .local ∨ scope.names.lookup y = some .cell := by first | exact Or.inl rfl | exact Or.inr rfl) (hs : ∀ x, foldedSetIterable iter X.env x = pure x := by intro _; rfl) : EE X (.ListComp elt [⟨.Tuple [.Name x px, .Name y py] kt pt, iter, [], 0⟩] scope pos) sg M (.lst (ds.map fun d => f (fstD d) (sndD d))) :=
  we_lc [(x, i), (y, j)] hc hN ok hi (ok_lc2 i j f hc hN hz h ok hx hy) (Nat.zero_le _) hs
/-- [elt for x, y in iter if c] -/
theorem ok_lc2if {c : Expr} (i j : Nat) (p : D → D → Bool) (f : D → D → D) (hc : X.calm = true) (hN : X.N.Nodup) (hz : ds.length < sizeLine) (h : ∀ (l : Nat) (d : D), ds[l]? = some d → ∃ a b, d = .tup [a, b] ∧ (Blk X scope fun Y => ET Y c (((wipeD sg [i, j]).set i (some a)).set j (some b)) M (p a b)) ∧ (p a b = true → Blk X scope fun Y => EE Y elt (((wipeD sg [i, j]).set i (some a)).set j (some b)) M (f a b)))
    (ok : BlkOk X.N X.env.scope scope [(x, i), (y, j)] := by exact blkOk_by (by with_unfolding_all rfl)) (hx : scope.names.lookup x = some .local ∨ scope.names.lookup x = some .cell := by first | exact Or.inl rfl | exact Or.inr rfl) (hy : scope.names.lookup y = some .local ∨ scope.names.lookup y = some .cell := by first | exact Or.inl rfl | exact Or.inr rfl) : LcOk X scope [i, j] (.Tuple [.Name x px, .Name y py] kt pt) elt [c] sg (ItQ ds M) fun x M' => x = (.lst ((ds.filter fun d => p (fstD d) (sndD d)).map fun d => f (fstD d) (sndD d))) ∧ M' = M :=
  fun ds' C M0 ⟨e1, e2, hC⟩ => by
    subst e1; subst e2
    refine ⟨fun l acc M1 => l ≤ ds'.length ∧ acc = ((ds'.take l).filter fun d => p (fstD d) (sndD d)).map (fun d => f (fstD d) (sndD d)) ∧ M1 = M0, ⟨Nat.zero_le _, rfl, rfl⟩, fun l acc M1 ⟨hj, e1, e2⟩ => ?_, fun l d acc M1 hd ⟨hj, e1, e2⟩ => ?_, fun acc M1 ⟨_, e1, e2⟩ => ?_⟩
    · subst e1; subst e2
      refine ⟨hC, ?_⟩
      rw [List.length_map]
      have a1 := List.length_filter_le (fun d => p (fstD d) (sndD d)) (ds'.take l)
      rw [List.length_take] at a1
      omega
    · subst e1; subst e2
      obtain ⟨a, b, ed, ht, hb⟩ := h l d hd
      subst ed
      have hlt := (List.getElem?_eq_some_iff.mp hd).1
      have tk : ds'.take (l + 1) = ds'.take l ++ [D.tup [a, b]] := by rw [List.take_add_one, hd]; rfl
      refine turn2 i j (by simp) (by simp) hc hN hx (ok.ix (x, i) (by simp)) hy (ok.ix (y, j) (by simp)) (fun k M2 => k = p a b ∧ M2 = M1) ht (fun M2 ⟨e3, e⟩ => ?_) (fun M2 ⟨e3, e⟩ => ⟨hlt, ?_, e⟩)
      · subst e
        refine fun s H C cl fp => (hb e3.symm s H C cl fp).imp fun z M3 ⟨e5, e4⟩ => ⟨hlt, ?_, e4⟩
        have e6 : (fun d => p (fstD d) (sndD d)) (.tup [a, b]) = true := e3.symm
        rw [e5, tk, List.filter_append, List.map_append, List.filter_cons_of_pos (p := fun d => p (fstD d) (sndD d)) e6]
        rfl
      · have e6 : ¬ (fun d => p (fstD d) (sndD d)) (.tup [a, b]) = true := by
          show ¬ p a b = true
          rw [← e3]
          exact Bool.false_ne_true
        rw [tk, List.filter_append, List.filter_cons_of_neg (p := fun d => p (fstD d) (sndD d)) e6, List.filter_nil, List.append_nil]
    · rw [List.take_length] at e1
      subst e1
      exact ⟨rfl, e2⟩
theorem ee_lc2if {c : Expr} (i j : Nat) (p : D → D → Bool) (f : D → D → D) (hc : X.calm = true) (hN : X.N.Nodup) (hi : WI X (.Tuple [.Name x px, .Name y py] kt pt) iter sg M (ItQ ds M)) (hz : ds.length < sizeLine) (h : ∀ (l : Nat) (d : D), ds[l]? = some d → ∃ a b, d = .tup [a, b] ∧ (Blk X scope fun Y => ET Y c (((wipeD sg [i, j]).set i (some a)).set j (some b)) M (p a b)) ∧ (p a b = true → Blk X scope fun Y => EE Y elt (((wipeD sg [i, j]).set i (some a)).set j (some b)) M (f a b)))
    (ok : BlkOk X.N X.env.scope scope [(x, i), (y, j)] := by exact blkOk_by (by with_unfolding_all rfl)) (hx : scope.names.lookup x = some .local ∨ scope.names.lookup x = some .cell := by first | exact Or.inl rfl | exact Or.inr rfl) (hy : scope.names.lookup y = some .local ∨ scope.names.lookup y = some .cell := by first | exact Or.inl rfl | exact Or.inr rfl) (hs : ∀ x, foldedSetIterable iter X.env x = pure x := by intro _; rfl) : EE X (.ListComp elt [⟨.Tuple [.Name x px, .Name y py] kt pt, iter, [c], 0⟩] scope pos) sg M (.lst ((ds.filter fun d => p (fstD d) (sndD d)).map fun d => f (fstD d) (sndD d))) :=
  we_lc [(x, i), (y, j)] hc hN ok hi (ok_lc2if i j p f hc hN hz h ok hx hy) (Nat.le_refl _) hs
end
theorem LcOk.imp {scope : Scope} {vs : List Nat} {tg elt : Expr} {ifs : List Expr} {Qi : List D → (Mem → Prop) → Mem → Prop} {Q' : D → Mem → Prop} (h : LcOk X scope vs tg elt ifs sg Qi Q) (k : ∀ d M', Q d M' → Q' d M') : LcOk X scope vs tg elt ifs sg Qi Q' := fun ds C M0 q => let ⟨Pv, a, b, c, d⟩ := h ds C M0 q; ⟨Pv, a, b, c, fun acc M1 z => k _ _ (d acc M1 z)⟩
theorem LcOk.to {scope : Scope} {vs : List Nat} {tg elt : Expr} {ifs : List Expr} {Qi : List D → (Mem → Prop) → Mem → Prop} {d : D} (h : LcOk X scope vs tg elt ifs sg Qi fun x M' => x = d ∧ M' = M) (q : Q d M) : LcOk X scope vs tg elt ifs sg Qi Q := h.imp fun x M' ⟨e1, e2⟩ => by subst e1; subst e2; exact q
/-- an expression assigned to a name by a comprehension on one line: the rule for the plain one serves, where it changes nothing -/
theorem ws_setLcE (i : Nat) {y : Str} {py : Pos} {iter elt tg : Expr} {ifs : List Expr} {scope : Scope} {spos : Pos} (own : List (Str × Nat)) {Qi : List D → (Mem → Prop) → Mem → Prop} (hc : X.calm = true) (hN : X.N.Nodup) (hi : WI X tg iter sg M Qi) (h : LcOk X scope (own.map (·.2)) tg elt ifs sg Qi fun d M1 => E.nx (sg.set i (some d)) M1)
    (ok : BlkOk X.N X.env.scope scope own := by exact blkOk_by (by with_unfolding_all rfl)) (hif : ifs.length ≤ 1 := by decide) (hy : X.N[i]? = some y := by rfl) (hyl : X.env.scope.names.lookup y = some .local := by rfl) (hsw : swapsWith (.ListComp elt [⟨tg, iter, ifs, 0⟩] scope pos) (some (.Name y py)) spos.line X.env = pure true := by exact sw_true rfl rfl rfl (by decide +kernel)) (hs : ∀ x, foldedSetIterable iter X.env x = pure x := by intro _; rfl) : WS X (.Assign [.Name y py] (.ListComp elt [⟨tg, iter, ifs, 0⟩] scope pos) spos) sg M E := ws_setLc i own hc hN ok hi h hif hy hyl hsw hs
end
end DL
set_option Elab.async false
set_option linter.all false
set_option maxRecDepth 100000
set_option maxHeartbeats 4000000
/-! DLj: what the first law had of its own and every law can use. -/
namespace DL
open PySem L2 PyProof.Rows HT
def isW (d : D) : Bool := isI d && !isB d
theorem pl_lk {x : D} (M : Mem) (h : pl x = true) : LkD M x := by cases x <;> first | exact trivial | cases h
theorem plA_at : ∀ {ds : List D} {i : Nat} {d : D}, plA ds = true → ds[i]? = some d → pl d = true
  | [], i, _, _, h => by simp at h
  | d :: ds, 0, _, h, e => by
    simp at e
    subst e
    exact (Bool.and_eq_true_iff.mp h).1
  | d :: ds, i + 1, _, h, e => plA_at (Bool.and_eq_true_iff.mp h).2 (by simpa using e)
def itemsD : D → List D
  | .tup ds => ds
  | _ => []
def intOf : D → Int
  | .int i => i
  | _ => 0
def Ok (x : D) : Prop := pl x = true ∧ (itemsD x).length < 1000
theorem enumD_at {ds : List D} {i : Nat} {d : D} (hd : (enumD ds)[i]? = some d) : ∃ c, ds[i]? = some c ∧ d = .tup [.int (i : Int), c] := by
  unfold enumD at hd
  rw [List.getElem?_mapIdx] at hd
  cases e : ds[i]? with
  | none => rw [e] at hd; cases hd
  | some c => rw [e] at hd; exact ⟨c, rfl, (Option.some.inj hd).symm⟩
theorem mapIdx_map {α β γ : Type} (f : Nat → α → β) (g : β → γ) (l : List α) : (l.mapIdx f).map g = l.mapIdx fun i a => g (f i a) := by
  apply List.ext_getElem?
  intro i
  rw [List.getElem?_map, List.getElem?_mapIdx, List.getElem?_mapIdx, Option.map_map]
  rfl
theorem lt1000 {n : Nat} (h : n < 1000) : n < sizeLine := Nat.lt_of_lt_of_le h (by decide)
theorem getD_at {α : Type} {l : List α} {i : Nat} {d : α} (h : i < l.length) : l.getD i d = l[i] := by simp [List.getD, h]
abbrev tI (ps : List Int) : D := .tup (ps.map .int)
theorem enumD_ints (ps : List Int) : enumD (ps.map D.int) = ps.zipIdx.map fun q => .tup [.int (q.2 : Int), .int q.1] := by
  unfold enumD
  apply List.ext_getElem?
  intro i
  rw [List.getElem?_mapIdx, List.getElem?_map, List.getElem?_map, List.getElem?_zipIdx, Option.map_map, Option.map_map]
  simp only [Nat.zero_add]
  rfl
theorem atI_ints {ps : List Int} {i : Int} (h0 : 0 ≤ i) (h1 : i < ps.length) : atI (ps.map D.int) i = some (.int (ps.getD i.toNat 0)) := by
  have e : i = ((i.toNat : Nat) : Int) := by omega
  have hl : i.toNat < ps.length := by omega
  rw [e]
  refine atI_nat ?_
  rw [List.getElem?_map, List.getElem?_eq_getElem hl, getD_at (by omega)]
  rfl
theorem cut_to {α : Type} {xs : List α} {k : Int} (h0 : 0 ≤ k) (h1 : k ≤ xs.length) : DL.cutD xs none (some k) = xs.take k.toNat := by
  unfold DL.cutD
  have e : k = ((k.toNat : Nat) : Int) := by omega
  rw [e, HT.sIx_nat, HT.sIx_none, List.drop_zero, Nat.sub_zero, ← e, Nat.min_eq_left (by omega)]
theorem cut_from {α : Type} {xs : List α} {k : Int} (h0 : 0 ≤ k) (h1 : k ≤ xs.length) : DL.cutD xs (some k) none = xs.drop k.toNat := by
  unfold DL.cutD
  have e : k = ((k.toNat : Nat) : Int) := by omega
  rw [e, HT.sIx_nat, HT.sIx_none, ← e, Nat.min_eq_left (by omega), ← List.length_drop, List.take_length]
theorem at_map {α β : Type} {f : α → β} {l : List α} {i : Nat} {d : β} (h : (l.map f)[i]? = some d) : ∃ a, l[i]? = some a ∧ d = f a := by
  rw [List.getElem?_map] at h
  cases e : l[i]? with
  | none => rw [e] at h; cases h
  | some a => rw [e] at h; exact ⟨a, rfl, (Option.some.inj h).symm⟩
theorem dec_not (p : Prop) [Decidable p] : (!decide p) = decide (¬ p) := by by_cases h : p <;> simp [h]
theorem Mem.ext {M M' : Mem} (h : M.f = M'.f) (h' : M.b = M'.b) : M = M' := by
  cases M; cases M'
  cases h; cases h'
  rfl
theorem updM_upd {M : Mem} {p : Addr} {a b : Option MO} : updM (updM M p a) p b = updM M p b := by
  refine Mem.ext ?_ rfl
  funext q
  show (if q = p then b else if q = p then a else M.f q) = if q = p then b else M.f q
  split <;> rfl
theorem updM_id {M : Mem} {p : Addr} {a : Option MO} (h : M p = a) : updM M p a = M := by
  refine Mem.ext ?_ rfl
  funext q
  show (if q = p then a else M.f q) = M.f q
  split
  · rename_i e; rw [e, ← h]
  · rfl
def wf (L : Nat) : Nat → D → Bool
  | 0, _ => false
  | n + 1, .tup ds => decide (ds.length ≤ L) && ds.all (wf L n)
  | n + 1, .lst ds => decide (ds.length ≤ L) && ds.all (wf L n)
  | _ + 1, .ptr _ => false
  | _ + 1, .scr _ => false
  | _ + 1, _ => true
theorem plA_all : ∀ {ds : List D}, (∀ d ∈ ds, pl d = true) → plA ds = true
  | [], _ => rfl
  | d :: ds, h => Bool.and_eq_true_iff.mpr ⟨h d List.mem_cons_self, plA_all fun x hx => h x (List.mem_cons_of_mem _ hx)⟩
theorem wf_pl {L : Nat} : ∀ {n : Nat} {d : D}, wf L n d = true → pl d = true
  | 0, _, h => by cases h
  | n + 1, .tup ds, h => plA_all fun d hd => wf_pl (List.all_eq_true.mp (Bool.and_eq_true_iff.mp h).2 d hd)
  | n + 1, .lst ds, h => plA_all fun d hd => wf_pl (List.all_eq_true.mp (Bool.and_eq_true_iff.mp h).2 d hd)
  | n + 1, .ptr _, h => by cases h
  | n + 1, .scr _, h => by cases h
  | n + 1, .non, _ => rfl
  | n + 1, .bl _, _ => rfl
  | n + 1, .int _, _ => rfl
  | n + 1, .str _, _ => rfl
theorem wf_mono {L L' : Nat} (hL : L ≤ L') : ∀ {n m : Nat} {d : D}, n ≤ m → wf L n d = true → wf L' m d = true
  | 0, _, _, _, h => by cases h
  | n + 1, 0, _, hm, _ => absurd hm (by omega)
  | n + 1, m + 1, .tup ds, hm, h => by
    have q := Bool.and_eq_true_iff.mp h
    have q1 := of_decide_eq_true q.1
    exact Bool.and_eq_true_iff.mpr ⟨decide_eq_true (by omega), List.all_eq_true.mpr fun d hd => wf_mono hL (by omega) (List.all_eq_true.mp q.2 d hd)⟩
  | n + 1, m + 1, .lst ds, hm, h => by
    have q := Bool.and_eq_true_iff.mp h
    have q1 := of_decide_eq_true q.1
    exact Bool.and_eq_true_iff.mpr ⟨decide_eq_true (by omega), List.all_eq_true.mpr fun d hd => wf_mono hL (by omega) (List.all_eq_true.mp q.2 d hd)⟩
  | n + 1, m + 1, .ptr _, _, h => by cases h
  | n + 1, m + 1, .scr _, _, h => by cases h
  | n + 1, m + 1, .non, _, _ => rfl
  | n + 1, m + 1, .bl _, _, _ => rfl
  | n + 1, m + 1, .int _, _, _ => rfl
  | n + 1, m + 1, .str _, _, _ => rfl
theorem wf_tup {L n : Nat} {ds : List D} (h : wf L (n + 1) (.tup ds) = true) : ds.length ≤ L ∧ ∀ d ∈ ds, wf L n d = true := by
  have q := Bool.and_eq_true_iff.mp h
  exact ⟨of_decide_eq_true q.1, List.all_eq_true.mp q.2⟩
theorem wf_lst {L n : Nat} {ds : List D} (h : wf L (n + 1) (.lst ds) = true) : ds.length ≤ L ∧ ∀ d ∈ ds, wf L n d = true := by
  have q := Bool.and_eq_true_iff.mp h
  exact ⟨of_decide_eq_true q.1, List.all_eq_true.mp q.2⟩
theorem tup_wf {L n : Nat} {ds : List D} (h : ds.length ≤ L) (h2 : ∀ d ∈ ds, wf L n d = true) : wf L (n + 1) (.tup ds) = true := Bool.and_eq_true_iff.mpr ⟨decide_eq_true h, List.all_eq_true.mpr h2⟩
theorem wf_pos {L n : Nat} {d : D} (h : wf L n d = true) : 0 < n := by cases n with | zero => cases h | succ n => omega
theorem wf_tI {L n : Nat} {ps : List Int} (h : ps.length ≤ L) : wf L (n + 2) (tI ps) = true := tup_wf (by rw [List.length_map]; exact h) fun d hd => by
  obtain ⟨p, _, rfl⟩ := List.mem_map.mp hd
  rfl
noncomputable def eqD (a b : D) : Bool := @decide (a = b) (Classical.propDecidable _)
theorem eqD_iff {a b : D} : eqD a b = true ↔ a = b := @decide_eq_true_iff (a = b) (Classical.propDecidable _)
theorem eqD_false {a b : D} : eqD a b = false ↔ ¬ a = b := @decide_eq_false_iff_not (a = b) (Classical.propDecidable _)
theorem eqD_of {a b : D} {r : Bool} (h : r = true ↔ a = b) : r = eqD a b := by
  rw [Bool.eq_iff_iff, h, eqD_iff]
theorem eq_lists {as bs : List D} : (decide ((as.length : Int) = (bs.length : Int)) && ((List.range as.length).map fun j => eqD (as.getD j .non) (bs.getD j .non)).all id) = true ↔ as = bs := by
  rw [Bool.and_eq_true, decide_eq_true_eq]
  constructor
  · intro ⟨hl, h⟩
    have hl' : as.length = bs.length := by omega
    apply List.ext_getElem hl'
    intro i h1 h2
    rw [List.all_map, List.all_eq_true] at h
    have q := eqD_iff.mp (h i (List.mem_range.mpr h1))
    rw [getD_at h1, getD_at h2] at q
    exact q
  · intro e
    subst e
    refine ⟨rfl, ?_⟩
    rw [List.all_map, List.all_eq_true]
    intro i _
    exact eqD_iff.mpr rfl
theorem rngD_at {lo : Int} {n j : Nat} {d : D} (h : (rngD lo n)[j]? = some d) : j < n ∧ d = .int (lo + (j : Int)) := by
  unfold rngD at h
  obtain ⟨a, ha, rfl⟩ := at_map h
  rw [List.getElem?_range (by
    have := (List.getElem?_eq_some_iff.mp ha).1
    rw [List.length_range] at this
    exact this)] at ha
  have e := Option.some.inj ha
  subst e
  have := (List.getElem?_eq_some_iff.mp h).1
  rw [List.length_map, List.length_range] at this
  exact ⟨this, rfl⟩
theorem rngD_len {lo : Int} {n : Nat} : (rngD lo n).length = n := by unfold rngD; rw [List.length_map, List.length_range]
theorem atI_of {ds : List D} {j : Nat} (h : j < ds.length) : atI ds (0 + (j : Int)) = some (ds.getD j .non) := by
  rw [Int.zero_add, getD_at h]
  exact atI_nat (List.getElem?_eq_getElem h)
theorem same_leaf2 {a b : D} (h : (isB a || isB b) = true) : (isB a && (isB b && eqD a b)) = eqD a b := by
  cases h1 : isB a with
  | true =>
    cases h2 : isB b with
    | true => rfl
    | false =>
      refine (eqD_false.mpr fun e => ?_).symm
      rw [e, h2] at h1
      cases h1
  | false =>
    refine (eqD_false.mpr fun e => ?_).symm
    rw [e] at h1
    rw [e, h1] at h
    cases h
theorem same_leaf4 {a b : D} (ha : pl a = true) (hb : pl b = true) (h1 : (isT a && isT b || isL a && isL b) = false) (h2 : (isB a || isB b) = false) (h3 : (isI a && isI b || isS a && isS b) = false) : (isNon a && isNon b) = eqD a b := by
  refine eqD_of ⟨fun h => ?_, fun e => ?_⟩
  · cases a <;> cases b <;> first | rfl | exact absurd (show false = true from h) Bool.false_ne_true
  · subst e
    cases a <;> first | rfl | exact absurd (show false = true from ha) Bool.false_ne_true | exact absurd (show false = true from h1.symm) Bool.false_ne_true | exact absurd (show false = true from h2.symm) Bool.false_ne_true | exact absurd (show false = true from h3.symm) Bool.false_ne_true
def wholeB (x : D) (lo hi : Int) : Bool := isW x && (decide (lo ≤ intOf x) && decide (intOf x ≤ hi))
theorem cut_sub {α : Type} {l : List α} {lo hi : Option Int} {d : α} (h : d ∈ DL.cutD l lo hi) : d ∈ l := by
  unfold DL.cutD at h
  exact List.mem_of_mem_drop (List.mem_of_mem_take h)
theorem cut_len {α : Type} (l : List α) (lo hi : Option Int) : (DL.cutD l lo hi).length ≤ l.length := by
  unfold DL.cutD
  rw [List.length_take, List.length_drop]
  omega
theorem cut_last {α : Type} (l : List α) : (DL.cutD l (some (-1)) none).length ≤ 1 := by
  unfold DL.cutD
  rw [List.length_take, List.length_drop, HT.sIx_none]
  have : HT.sIx l.length 0 (some (-1)) = l.length - 1 := by
    unfold HT.sIx
    simp
    omega
  omega
theorem cut_two {α : Type} {l : List α} {r : Int} (h0 : 0 ≤ r) (h1 : r < l.length) : (DL.cutD l none (some r)).length + (DL.cutD l (some (r + 1)) none).length + 1 ≤ l.length := by
  unfold DL.cutD
  simp only [List.length_take, List.length_drop, HT.sIx_none]
  have e1 : HT.sIx l.length l.length (some r) = r.toNat := by unfold HT.sIx; simp only []; split <;> omega
  have e2 : HT.sIx l.length 0 (some (r + 1)) = r.toNat + 1 := by unfold HT.sIx; simp only []; split <;> omega
  omega
def sk (a i : Nat) : Nat := if i < a then i else i + 1
theorem range_skip {a n : Nat} (h : a < n) : (List.range n).filter (fun i => !decide (i = a)) = (List.range (n - 1)).map (sk a) := by
  obtain ⟨m, rfl⟩ : ∃ m, n = a + 1 + m := ⟨n - (a + 1), by omega⟩
  have e1 : (List.range a).filter (fun i => !decide (i = a)) = (List.range a).map (sk a) := by
    rw [List.filter_eq_self.mpr fun i hi => by have := List.mem_range.mp hi; simp; omega]
    have : (List.range a).map (sk a) = (List.range a).map id := List.map_congr_left fun i hi => by
      have := List.mem_range.mp hi
      exact if_pos this
    rw [this, List.map_id]
  have e2 : ((List.range m).map (a + 1 + ·)).filter (fun i => !decide (i = a)) = (List.range m).map (fun i => sk a (a + i)) := by
    rw [List.filter_eq_self.mpr fun i hi => by
      obtain ⟨j, _, rfl⟩ := List.mem_map.mp hi
      simp; omega]
    refine List.map_congr_left fun i hi => ?_
    show a + 1 + i = if a + i < a then a + i else a + i + 1
    rw [if_neg (by omega)]
    omega
  rw [List.range_add, List.range_succ, List.filter_append, List.filter_append, e1, e2, show a + 1 + m - 1 = a + m by omega, List.range_add, List.map_append, List.map_map]
  have e3 : ([a].filter fun i => !decide (i = a)) = [] := by simp
  rw [e3, List.append_nil]
  rfl
theorem as_range {α : Type} (d : α) (ps : List α) : ps = (List.range ps.length).map fun i => ps.getD i d := by
  apply List.ext_getElem
  · simp
  · intro i h1 h2
    rw [List.getElem_map, List.getElem_range, List.getD_eq_getElem?_getD, List.getElem?_eq_getElem h1]
    rfl
theorem zip_range (ps : List Int) : ps.zipIdx = (List.range ps.length).map fun i => (ps.getD i 0, i) := by
  apply List.ext_getElem
  · simp
  · intro i h1 h2
    have hi : i < ps.length := by rw [List.length_zipIdx] at h1; exact h1
    rw [List.getElem_map, List.getElem_range, List.getD_eq_getElem?_getD, List.getElem?_eq_getElem hi, List.getElem_zipIdx]
    simp
theorem getD_map {n i : Nat} {f : Nat → Int} (h : i < n) : ((List.range n).map f).getD i 0 = f i := by
  rw [List.getD_eq_getElem?_getD, List.getElem?_map, List.getElem?_range h]
  rfl
theorem range_split {α : Type} {f : Nat → α} {n a : Nat} (h : a < n) : (List.range n).map f = (List.range a).map f ++ f a :: (List.range (n - a - 1)).map fun i => f (a + 1 + i) := by
  obtain ⟨m, rfl⟩ : ∃ m, n = a + 1 + m := ⟨n - (a + 1), by omega⟩
  rw [show a + 1 + m - a - 1 = m by omega, List.range_add, List.range_succ, List.map_append, List.map_append, List.map_map, List.append_assoc]
  rfl
section
variable {X : Cx} {sg sg1 : Sg} {M : Mem} {E : EndsD}
def Fg : Sg → Sg → Prop
  | [], [] => True
  | none :: a, _ :: b => Fg a b
  | some d :: a, e :: b => e = some d ∧ Fg a b
  | _, _ => False
theorem Fg.len : ∀ {a b : Sg}, Fg a b → a.length = b.length
  | [], [], _ => rfl
  | [], _ :: _, h => h.elim
  | none :: a, _ :: b, h => congrArg Nat.succ (Fg.len (a := a) h)
  | some d :: a, e :: b, h => congrArg Nat.succ (Fg.len h.2)
  | none :: _, [], h => h.elim
  | some _ :: _, [], h => h.elim
theorem Fg.at : ∀ {a b : Sg}, Fg a b → ∀ (i : Nat) (d : D), a[i]? = some (some d) → b[i]? = some (some d)
  | [], [], _, i, d, e => e
  | [], _ :: _, h, _, _, _ => h.elim
  | none :: a, _ :: b, h, 0, d, e => by cases e
  | none :: a, _ :: b, h, i + 1, d, e => Fg.at (a := a) (b := b) h i d e
  | some x :: a, y :: b, h, 0, d, e => by rw [h.1]; exact e
  | some x :: a, y :: b, h, i + 1, d, e => Fg.at h.2 i d e
  | none :: _, [], h, _, _, _ => h.elim
  | some _ :: _, [], h, _, _, _ => h.elim
theorem wss_fg {sts : List Stmt} (f : Fg sg1 sg) (h : WSs X sts sg1 M E) : WSs X sts sg M E := fun σ H G w s => h σ H G w (s.forget f.len f.at)
theorem ws_fg {st : Stmt} (f : Fg sg1 sg) (h : WS X st sg1 M E) : WS X st sg M E := fun σ H G w s => h σ H G w (s.forget f.len f.at)
theorem toPy_pairs_lay : ∀ qs : List (Int × Int), PyData.canLayAll0 (toPyA (qs.map pairD)) = true
  | [] => rfl
  | q :: qs => by
    show (PyData.canLay0 (toPy (pairD q)) && PyData.canLayAll0 (toPyA (qs.map pairD))) = true
    rw [toPy_pairs_lay qs]
    rfl
theorem plA_pairs : ∀ qs : List (Int × Int), plA (qs.map pairD) = true
  | [] => rfl
  | q :: qs => by
    show (pl (pairD q) && plA (qs.map pairD)) = true
    rw [plA_pairs qs]
    rfl
theorem toPy_pairs_depth : ∀ qs : List (Int × Int), PyData.depthAll (toPyA (qs.map pairD)) ≤ 4
  | [] => by decide
  | q :: qs => by
    have := toPy_pairs_depth qs
    show max (PyData.depth (toPy (pairD q))) (PyData.depthAll (toPyA (qs.map pairD))) ≤ 4
    have e : PyData.depth (toPy (pairD q)) ≤ 4 := by
      show PyData.depth (.tuple [.int q.1, .int q.2]) ≤ 4
      exact Nat.le_of_ble_eq_true rfl
    omega
theorem shaped_pairs (qs : List (Int × Int)) : SeqAt.shaped (.list (toPyA (qs.map pairD))) = true := by
  refine Bool.and_eq_true_iff.mpr ⟨toPy_pairs_lay qs, decide_eq_true ?_⟩
  have := toPy_pairs_depth qs
  show PyData.depthAll (toPyA (qs.map pairD)) + 1 ≤ 64
  omega
theorem eqv_pairs (qs : List (Int × Int)) : PyData.eqv (.list (toPyA (qs.map pairD))) (.list (toPyA (qs.map pairD))) = true := SeqAt.eqv_refl _ (toPy_pairs_lay qs)
theorem srt_eq {qs rs : List (Int × Int)} (h1 : SrtP qs) (h2 : SrtP rs) (h : qs.Perm rs) : qs = rs := by
  refine List.Perm.eq_of_pairwise (fun a b _ _ e1 e2 => ?_) h1 h2 h
  have n1 : ¬ SrtO.lexB b a = true := by rw [e1]; exact Bool.false_ne_true
  have n2 : ¬ SrtO.lexB a b = true := by rw [e2]; exact Bool.false_ne_true
  rw [SrtO.lexB_iff] at n1 n2
  have a1 : a.1 = b.1 := by omega
  have a2 : a.2 = b.2 := by omega
  exact Prod.ext a1 a2
end
theorem pairs_if (p : Int × Int → Bool) (g : Int × Int → Int × Int) (qs : List (Int × Int)) : ((qs.map DL.pairD).filter fun d => p (intOf (fstD d), intOf (sndD d))).map (fun d => DL.pairD (g (intOf (fstD d), intOf (sndD d)))) = ((qs.filter p).map g).map DL.pairD := by
  rw [List.filter_map, List.map_map, List.map_map]
  rfl
theorem pairs_all (g : Int × Int → Int × Int) (qs : List (Int × Int)) : (qs.map DL.pairD).map (fun d => DL.pairD (g (intOf (fstD d), intOf (sndD d)))) = (qs.map g).map DL.pairD := by
  rw [List.map_map, List.map_map]
  rfl
theorem not_eqD {x y : D} (h : x = y) : (!eqD x y) = false := by rw [eqD_iff.mpr h]; rfl
theorem LcOk.pick {X : Cx} {scope : Scope} {vs : List Nat} {tg elt : Expr} {ifs : List Expr} {sg : Sg} {Qi : List D → (Mem → Prop) → Mem → Prop} {Q : D → Mem → Prop} (h : ∀ ds C M0, Qi ds C M0 → LcOk X scope vs tg elt ifs sg (ItQ ds M0) Q ∧ C M0) : LcOk X scope vs tg elt ifs sg Qi Q := fun ds C M0 q => (h ds C M0 q).1 ds C M0 ⟨rfl, rfl, (h ds C M0 q).2⟩
theorem fg_set : ∀ {a b : Sg}, Fg a b → ∀ (i : Nat) (d : D), Fg (a.set i (some d)) (b.set i (some d))
  | [], [], h, _, _ => h
  | [], _ :: _, h, _, _ => h.elim
  | none :: a, _ :: b, h, 0, d => ⟨rfl, h⟩
  | none :: a, _ :: b, h, i + 1, d => fg_set (a := a) (b := b) h i d
  | some x :: a, y :: b, h, 0, d => ⟨rfl, h.2⟩
  | some x :: a, y :: b, h, i + 1, d => ⟨h.1, fg_set h.2 i d⟩
  | none :: _, [], h, _, _ => h.elim
  | some _ :: _, [], h, _, _ => h.elim
theorem fg_trans : ∀ {a b c : Sg}, Fg a b → Fg b c → Fg a c
  | [], [], _, _, h => h
  | [], _ :: _, _, h, _ => h.elim
  | none :: a, [], _, h, _ => h.elim
  | some _ :: a, [], _, h, _ => h.elim
  | none :: a, none :: b, [], _, h => h.elim
  | none :: a, some _ :: b, [], _, h => h.elim
  | some _ :: a, none :: b, [], _, h => h.elim
  | some _ :: a, some _ :: b, [], _, h => h.elim
  | none :: a, none :: b, _ :: c, h, h2 => fg_trans (a := a) (b := b) (c := c) h h2
  | none :: a, some _ :: b, _ :: c, h, h2 => fg_trans (a := a) (b := b) (c := c) h h2.2
  | some d :: a, none :: b, _ :: c, h, h2 => by cases h.1
  | some d :: a, some e :: b, z :: c, h, h2 => ⟨h2.1.trans h.1, fg_trans h.2 h2.2⟩
section
variable {P : Program} {w : World} {K : PySem.W.Frag} {mg : Str → Option Value} {base : Heap}
theorem dfnF {x qual : Str} {st : Stmt} {f : Addr} {fd : FuncData} {N ps : List Str} {k n : Nat} {S : SpD} (F : Fun K x qual st f fd) (sc : FnScope N ps (defScope st)) (hn : ps.length = n)
    (body : ∀ (f : Addr) (cdv : Value) (A : Around) (outer : List Env) (s : Shared) (H : Hp) (E : XK) (ds : List D) (M : Mem) (Q : D → Mem → Prop), Room k (A.deeper (envOfC qual (defScope st) s.heap.objs.size f cdv)) → ds.length = n → S ds M Q →
      WSs (cxOf CX0 P w K mg base N qual (defScope st) f cdv A outer s H E).nox (defBody st) (startD N ds) M { nx := fun _ M' => Q .non M', rt := Q }) : FnOk P w K mg base CX0 (k + 1) f fd ps (spD K n S) := by
  refine F.ok sc (fun vs H R E h => ?_) (fun cdv A outer s H vs R E hr h => ?_)
  · obtain ⟨G, M, ds, Q, _, r, l, _⟩ := h
    rw [r.length, l, hn]
  · obtain ⟨G, M, ds, Q, wd, r, l, hs, q⟩ := h
    refine ⟨tWSs _ (defBody st), pss_w, (body f cdv A outer s H E ds M Q hr l hs _ H G wd (start_rp r)).imp (fun σ' H' ⟨sg', G', M', st', w', s', q'⟩ => q _ _ ⟨.non, G', M', st', w', .non, q'⟩) (fun v H' p => q v H' p) (fun _ _ p => ?_) (fun _ _ p => ?_)⟩
    · obtain ⟨_, _, _, _, _, _, z⟩ := p; exact z
    · obtain ⟨_, _, _, _, _, _, z⟩ := p; exact z
theorem df_mk {h : Heap} {x : Str} {st : Stmt} {ps : List Str} {f : Addr} {od an : Option Addr} {sl : Array (Option Value)} {oc kV dc pm cd ct : Value} (X : K.In h) (G : h.Ns mainGlobals mg) (a : PySem.W.nsIn K mainGlobals x = some (some (.ref f))) (l : K.lookup f = some ⟨oc, od, .func (PySem.W.fnOf x x (defArgs st) (defBody st) (defScope st) .none kV dc pm an cd ct), sl⟩) (c : PySem.W.codeIn K cd x = true) (k : PySem.W.keepIn K (.ref f) = true)
    (hb : ∀ (kV doc pm : Value) (an : Option Addr) (cdv ct : Value) (us : List Value), us.length = ps.length → bindArgs (PySem.W.fnOf x x (defArgs st) (defBody st) (defScope st) .none kV doc pm an cdv ct) ⟨us, []⟩ = pure (ps.zip us)) : Df K mg x st ps :=
  ⟨f, _, fun_mk l c k, PySem.W.mg_of X G a, (fun_mk l c k).binds hb⟩
def spLaw (K : PySem.W.Frag) : Sp := fun vs H Q _ => ∃ (a : Addr) (ns : List Int), vs = [.ref a] ∧ SqL K H a (ns.map V.int) ∧ ns.length ≤ 63 ∧ ∀ H', Q (.bl true) H'
def S_script : SpD := fun ds M Q => ∃ ns : List Int, ds = [.scr ns] ∧ ns.length ≤ 63 ∧ ∀ M', Q (.bl true) M'
theorem spLaw_spD {vs : List V} {H : Hp} {R : VK} {E : XK} (h : spLaw K vs H R E) : spD K 1 S_script vs H R E := by
  obtain ⟨a, ns, rfl, hS, hl, q⟩ := h
  refine ⟨H, ⟨fun _ => none, ⟨H, fun _ => none, H⟩⟩, [.scr ns], fun d _ => d = .bl true, ⟨fun x u e => e, (fun x m e => by cases e), fun x u e m => ⟨e, rfl, rfl⟩⟩, .cons (.scr hS) .nil, rfl, ⟨ns, rfl, hl, fun M' => rfl⟩, fun v H' ⟨d, G', M', st, w', r, e⟩ => ?_⟩
  subst e
  cases r
  exact q H'
end
end DL
set_option Elab.async false
set_option linter.all false
set_option maxRecDepth 100000
set_option maxHeartbeats 4000000
/-! DLk: more methods of lists. -/
namespace DL
open PySem L2 PyProof.Rows HT
section
variable {K : PySem.W.Frag} {M : Mem} {Q : D → Mem → Prop}
theorem md_pop0 {p : Addr} {ds : List D} {d : D} (hm : M p = some (.lst (d :: ds))) (q : Q d (updM M p (some (.lst ds)))) : MtD K rPopAt (.ptr p) [.int 0] M Q := fun G H v vs R w rv rs k => by
  cases rv
  obtain ⟨u, rfl, ru⟩ := rs.one
  cases ru
  obtain ⟨g, xs, h1, r1⟩ := w.mem _ _ hm
  cases r1 with
  | @cons y _ ys _ ry r2 =>
    refine ⟨p, _, 0, 0, y, rfl, rfl, h1, by decide, by decide, ?_, rfl, k _ _ ?_⟩
    · simp [seqIndex?, List.length_cons]
    · obtain ⟨w', st⟩ := w.write hm (o := .lst ys) (mo := .lst ds) ⟨_, upd_same, r2⟩
      exact ⟨_, _, _, st, w', ry, q⟩
end
theorem cut_nat {α : Type} (l : List α) (a b : Nat) : cutD l (some (a : Int)) (some (b : Int)) = (l.drop a).take (b - a) := by
  unfold cutD
  rw [HT.sIx_nat, HT.sIx_nat]
  by_cases h : a ≤ l.length
  · rw [Nat.min_eq_left h]
    by_cases h2 : b ≤ l.length
    · rw [Nat.min_eq_left h2]
    · rw [Nat.min_eq_right (show l.length ≤ b by omega), List.take_of_length_le (by rw [List.length_drop]; omega), List.take_of_length_le (by rw [List.length_drop]; omega)]
  · rw [show min a l.length = l.length by omega, List.drop_length, List.drop_of_length_le (show l.length ≤ a by omega), List.take_nil, List.take_nil]
theorem cut_toN {α : Type} (l : List α) (b : Nat) : cutD l none (some (b : Int)) = l.take b := by
  unfold cutD
  rw [HT.sIx_none, HT.sIx_nat, List.drop_zero, Nat.sub_zero]
  by_cases h2 : b ≤ l.length
  · rw [Nat.min_eq_left h2]
  · rw [Nat.min_eq_right (by omega), List.take_of_length_le (Nat.le_refl _), List.take_of_length_le (by omega)]
theorem cut_fromN {α : Type} (l : List α) (a : Nat) : cutD l (some (a : Int)) none = l.drop a := by
  unfold cutD
  rw [HT.sIx_none, HT.sIx_nat]
  by_cases h : a ≤ l.length
  · rw [Nat.min_eq_left h, ← List.length_drop, List.take_length]
  · rw [Nat.min_eq_right (by omega), Nat.sub_self, List.take_zero, List.drop_of_length_le (by omega)]
theorem cut_mapD {α β : Type} (f : α → β) (l : List α) (lo hi : Option Int) : cutD (l.map f) lo hi = (cutD l lo hi).map f := by
  unfold cutD
  rw [List.length_map, List.map_take, List.map_drop]
end DL
set_option Elab.async false
set_option linter.all false
set_option maxRecDepth 100000
set_option maxHeartbeats 4000000
/-! DLx: exceptions by data: what leaves a def, calls that may raise. -/
namespace DL
open PySem L2 PyProof.Rows HT
abbrev QXD := Addr → List (Str × D) → Mem → Prop
abbrev QXS := Addr → List (Str × D) → Sg → Mem → Prop
/-- nobody at the base knows p -/
def New (b : Base) (p : Addr) : Prop := ∀ u, b.H p = some u → b.M p = none → False
/-- an error of the class C leaves, its own dict with these fields -/
def PX (K : PySem.W.Frag) (b : Base) (QX : QXD) : XK := fun cls d H' => ∃ (C dd : Addr) (fs : List (Str × V)) (ds : List (Str × D)) (G' : Hp) (M' : Mem), cls = .ref C ∧ d = some dd ∧ H' dd = some (.xd fs) ∧ KVd K G' fs ds ∧ M'.b = b ∧ Wd K G' M' H' ∧ (G' dd = none ∧ M' dd = none ∧ New b dd) ∧ QX C ds M'
def PXs (K : PySem.W.Frag) (b : Base) (QX : QXS) : WX := fun cls d σ H' => ∃ (C dd : Addr) (fs : List (Str × V)) (ds : List (Str × D)) (G' : Hp) (M' : Mem) (sg : Sg), cls = .ref C ∧ d = some dd ∧ H' dd = some (.xd fs) ∧ KVd K G' fs ds ∧ M'.b = b ∧ Wd K G' M' H' ∧ (G' dd = none ∧ M' dd = none ∧ New b dd) ∧ SRp K G' sg σ ∧ QX C ds sg M'
/-- X lets such errors out -/
def Out (X : Cx) (b : Base) (QX : QXS) : Prop := ∃ W : WX, Takes X W ∧ ∀ cls d σ H', PXs X.K b QX cls d σ H' → W cls d σ H'
section
variable {K : PySem.W.Frag} {G G0 G' H H0 H' : Hp} {M M0 M' : Mem}
theorem Wd.rb (w : Wd K G M H) : Wd K G (M.rb ⟨G, M.f, H⟩) H := ⟨w.sub, w.mem, fun x o h m => ⟨h, rfl, m⟩⟩
theorem Wd.unrb (w0 : Wd K G0 M0 H0) (w : Wd K G' M' H') (hb : M'.b = ⟨G0, M0.f, H0⟩) : Wd K G' (M'.rb M0.b) H' ∧ Stp G0 M0 H0 G' (M'.rb M0.b) H' := by
  have st : Stp G0 M0 H0 G' (M'.rb M0.b) H' := ⟨fun x o h m => by
    have e := w.hist x o
    rw [hb] at e
    exact e h m, rfl⟩
  exact ⟨⟨w.sub, w.mem, w0.far st⟩, st⟩
end
abbrev SpDX := List D → Mem → (D → Mem → Prop) → QXD → Prop
def spDX (K : PySem.W.Frag) (n : Nat) (S : SpDX) : Sp := fun vs H R E => ∃ (G : Hp) (M : Mem) (ds : List D) (Q : D → Mem → Prop) (QX : QXD), Wd K G M H ∧ RpA K G vs ds ∧ ds.length = n ∧ S ds M Q QX ∧ (∀ v H', PV K G M H Q v H' → R v H') ∧ ∀ cls d H', PX K M.b QX cls d H' → E cls d H'
/-- the name x calls a def that keeps S and may raise -/
def CalX (P : Program) (w : World) (K : PySem.W.Frag) (mg : Str → Option Value) (base : Heap) (k : Nat) (x : Str) (n : Nat) (S : SpDX) : Prop :=
  ∃ f fd ps, FnOk P w K mg base (L2.CX P w) k f fd ps (spDX K n S) ∧ mg x = some (.ref f) ∧ PySem.W.keepIn K (.ref f) = true ∧ Binds K fd ps []
section
variable {X : Cx} {sg : Sg} {M : Mem} {Q : D → Mem → Prop} {pos : Pos}
theorem we_callX {k n : Nat} {x : Str} {S : SpDX} {p : Pos} {e : Expr} {es : List Expr} {QX : QXS} (C : CalX X.prog X.w X.K X.mg X.base k x n S) (hr : Room k X.A) (o : Out X M.b QX)
    (h : WA X (e :: es) sg M fun ds M1 => ds.length = n ∧ ∀ b0, S ds (M1.rb b0) (fun d M' => Q d (M'.rb M.b)) (fun C fs M' => QX C fs sg (M'.rb M.b))) (hg : Gl X x := by rfl) (hd : (x == ("__debug__" : Str)) = false := by decide)
    (he : starEach (e :: es) X.env = (false, eval e X.env) :: starEach es X.env := by exact star1 rfl) (hpl : (backTo pos (starEach es X.env)).any (·.1) = false := by exact starN rfl) : DL.WE X (.Call (.Name x p) (e :: es) [] pos) sg M Q := by
  obtain ⟨f, fd, ps, F, hm, kp, hb⟩ := C
  obtain ⟨W, tk, hW⟩ := o
  refine WE.of (pe_callS F hr hg hm kp hb (fun σ => passAt tk σ) pa_w hd he hpl) fun σ H G w s => (h σ H G w s).imp fun vs H1 ⟨ds, G1, M1, st, w1, r1, hl, hS⟩ => ?_
  refine ⟨G1, M1.rb ⟨G1, M1.f, H1⟩, ds, _, _, w1.rb, r1, hl, hS _, fun v H' ⟨d, G', M', st', w', r', q⟩ => ?_, fun cls d H' ⟨C, dd, fs, fds, G', M', e1, e2, e3, kv, hb', w', ⟨f1, f2, f3⟩, qx⟩ => ?_⟩
  · obtain ⟨w2, st2⟩ := w1.unrb w' st'.base
    rw [st.base] at w2 st2
    exact PV.base st ⟨d, G', M'.rb M.b, st2, w2, r', q⟩
  · obtain ⟨w2, st2⟩ := w1.unrb w' hb'
    rw [st.base] at w2 st2
    exact hW _ _ _ _ ⟨C, dd, fs, fds, G', M'.rb M.b, sg, e1, e2, e3, kv, rfl, w2, ⟨f1, f2, fun u k1 k2 => by
      have z := w1.hist dd u
      rw [st.base] at z
      obtain ⟨z1, _, z3⟩ := z k1 k2
      exact f3 u z1 z3⟩, s.mono ((st.trans st2).gx w), qx⟩
end
section
variable {P : Program} {w : World} {K : PySem.W.Frag} {mg : Str → Option Value} {base : Heap}
abbrev cxX (P : Program) (w : World) (K : PySem.W.Frag) (mg : Str → Option Value) (base : Heap) (N : List Str) (x : Str) (st : Stmt) (f : Addr) (cdv : Value) (A : Around) (outer : List Env) (s : Shared) (H : Hp) (E : XK) : Cx := cxOf (L2.CX P w) P w K mg base N x (defScope st) f cdv A outer s H E
theorem dfnX {x : Str} {st : Stmt} {N ps : List Str} {k n : Nat} {S : SpDX} (F : Df K mg x st ps) (sc : FnScope N ps (defScope st)) (hn : ps.length = n)
    (body : ∀ (f : Addr) (cdv : Value) (A : Around) (outer : List Env) (s : Shared) (H : Hp) (E : XK) (ds : List D) (M : Mem) (Q : D → Mem → Prop) (QX : QXD), Room k (A.deeper (envOfC x (defScope st) s.heap.objs.size f cdv)) → ds.length = n → S ds M Q QX →
      Out (cxX P w K mg base N x st f cdv A outer s H E) M.b (fun C fs _ M' => QX C fs M') →
      WSs (cxX P w K mg base N x st f cdv A outer s H E) (defBody st) (startD N ds) M { nx := fun _ M' => Q .non M', rt := Q }) : CalX P w K mg base (k + 1) x n S := by
  obtain ⟨f, fd, F, hm, hb⟩ := F
  refine ⟨f, fd, ps, F.okX sc (fun vs H R E h => ?_) (fun cdv A outer s H vs R E hr h => ?_), hm, F.kp, hb⟩
  · obtain ⟨G, M, ds, Q, QX, _, r, l, _⟩ := h
    rw [r.length, l, hn]
  · obtain ⟨G, M, ds, Q, QX, wd, r, l, hs, q, qx⟩ := h
    have o : Out (cxX P w K mg base N x st f cdv A outer s H E) M.b (fun C fs _ M' => QX C fs M') := ⟨fun cls d _ H => E cls d H, takes_of rfl rfl rfl rfl, fun cls d σ H' ⟨C, dd, fs, fds, G', M', sg, e1, e2, e3, kv, hb', w', fr, _, z⟩ => qx _ _ _ ⟨C, dd, fs, fds, G', M', e1, e2, e3, kv, hb', w', fr, z⟩⟩
    refine ⟨tWSs _ (defBody st), pss_w, (body f cdv A outer s H E ds M Q QX hr l hs o _ H G wd (start_rp r)).imp (fun σ' H' ⟨sg', G', M', st', w', s', q'⟩ => q _ _ ⟨.non, G', M', st', w', .non, q'⟩) (fun v H' p => q v H' p) (fun _ _ p => ?_) (fun _ _ p => ?_)⟩
    · obtain ⟨_, _, _, _, _, _, z⟩ := p; exact z
    · obtain ⟨_, _, _, _, _, _, z⟩ := p; exact z
end
end DL
set_option Elab.async false
set_option linter.all false
set_option maxRecDepth 100000
set_option maxHeartbeats 4000000
/-! DLy: try .. except X as n by data; a caught error's field. -/
namespace DL
open PySem L2 PyProof.Rows HT
theorem SRp.setN {K : PySem.W.Frag} {G : Hp} {sg : Sg} {σ : L2.St} (r : SRp K G sg σ) (i : Nat) : SRp K G (sg.set i none) (σ.set i none) := by
  refine ⟨by simp [r.len], fun j e q => ?_⟩
  by_cases hj : i = j
  · subst hj
    by_cases hl : i < sg.length
    · rw [List.getElem?_set_self hl] at q
      cases q
    · rw [List.getElem?_eq_none (by simpa using hl)] at q; cases q
  · rw [List.getElem?_set_ne hj] at q ⊢
    exact r.at_ j e q
theorem kvd_lookup {K : PySem.W.Frag} {G : Hp} {n : Str} {d : D} : ∀ {vs : List (Str × V)} {ds : List (Str × D)}, KVd K G vs ds → ds.lookup n = some d → ∃ v, vs.lookup n = some v ∧ Rp K G v d
  | [], [], _, h => by cases h
  | [], _ :: _, k, _ => by cases k.1
  | _ :: _, [], k, _ => by cases k.1
  | (a, v) :: vs, (b, e) :: ds, k, h => by
    obtain ⟨k1, k2⟩ := k
    simp only [List.map_cons, List.cons.injEq] at k1
    obtain ⟨k1, k3⟩ := k1
    subst k1
    cases k2 with
    | cons r1 r2 =>
      by_cases hn : n = a
      · subst hn
        simp only [List.lookup_cons, beq_self_eq_true] at h ⊢
        cases h
        exact ⟨v, rfl, r1⟩
      · have e1 : (n == a) = false := by simpa using hn
        simp only [List.lookup_cons, e1] at h ⊢
        exact kvd_lookup ⟨k3, r2⟩ h
section
variable {K : PySem.W.Frag} {G G' H H' : Hp} {M M' : Mem}
/-- an error's dict, taken into the memory -/
theorem Wd.takeX (w : Wd K G M H) (w' : Wd K G' M' H') (st : Stp G M H G' M' H') {dd : Addr} {fs : List (Str × V)} {ds : List (Str × D)} (e : H' dd = some (.xd fs)) (kv : KVd K G' fs ds) (g : G' dd = none) (m : M' dd = none) (nw : ∀ u, H dd = some u → M dd = none → False) :
    Wd K G' (updM M' dd (some (.xd ds))) H' ∧ Stp G M H G' (updM M' dd (some (.xd ds))) H' := by
  have st2 : Stp G M H G' (updM M' dd (some (.xd ds))) H' := ⟨fun x o h hm => by
    have hx : x ≠ dd := fun z => by subst z; exact nw o h hm
    obtain ⟨a1, a2, a3⟩ := st.keep x o h hm
    exact ⟨a1, a2, by rw [updM_ne hx]; exact a3⟩, st.base⟩
  refine ⟨⟨w'.sub, fun x mo q => ?_, w.far st2⟩, st2⟩
  by_cases hx : x = dd
  · subst hx
    rw [updM_same] at q
    cases q
    exact ⟨g, fs, e, kv⟩
  · rw [updM_ne hx] at q
    exact w'.mem x mo q
end
section
variable {X : Cx} {sg : Sg} {M : Mem} {E : EndsD} {Q : D → Mem → Prop} {pos : Pos}
/-- an error's dict that nobody asks for any more -/
theorem wss_dropX {dd : Addr} {fs : List (Str × D)} {sts : List Stmt} (hm : M dd = some (.xd fs)) (h : WSs X sts sg (updM M dd none) E) : WSs X sts sg M E := fun σ H G w s => by
  obtain ⟨g, xs, e, r⟩ := w.mem _ _ hm
  have gx : Gx G (upd G dd (.xd xs)) := fun x u q => by rw [upd_ne (ne_of_none q g)]; exact q
  have st : Stp G M H (upd G dd (.xd xs)) (updM M dd none) H := ⟨fun x u q m => by
    have hx : x ≠ dd := fun z => by subst z; rw [hm] at m; cases m
    exact ⟨q, upd_ne hx, by rw [updM_ne hx]; exact m⟩, rfl⟩
  have w1 : Wd X.K (upd G dd (.xd xs)) (updM M dd none) H := ⟨fun x u q => by
    by_cases hx : x = dd
    · subst hx; rw [upd_same] at q; cases q; exact e
    · rw [upd_ne hx] at q; exact w.sub _ _ q, fun x m q => by
    have hx : x ≠ dd := fun z => by subst z; rw [updM_same] at q; cases q
    rw [updM_ne hx] at q
    obtain ⟨h1, h2⟩ := w.mem _ _ q
    exact ⟨by rw [upd_ne hx]; exact h1, h2.carry gx rfl⟩, w.far st⟩
  exact toE_base st (h σ H _ w1 (s.mono gx))
theorem we_xf {a C dd : Addr} {oe : Obj} {pn : List (Addr × Obj)} {e : Expr} {n : Str} {fs : List (Str × D)} {d : D} (T : XfC X.K C) (hno : PySem.W.findIn X.K (.ref C) n = some none) (hz : Zc (.ref C) (some dd) oe) (hf : ∃ vs, oe.data = .fields vs)
    (hM : M dd = some (.xd fs)) (hl : fs.lookup n = some d) (he : EE (X.suite a ((a, oe) :: pn)) e sg M (.ptr a)) (q : Q d M) (hb : attributeBase e n X.env (eval e X.env) = eval e X.env := by rfl) : DL.WE (X.suite a ((a, oe) :: pn)) (.Attribute e n pos) sg M Q :=
  WE.of (pe_xf T hno hz hf pe_w hb) fun σ H G w s => (he σ H G w s).imp fun v H1 ⟨x, G1, M1, st, w1, r1, e1, e2⟩ => by
    subst e1; subst e2
    cases r1
    obtain ⟨g, vs, hx, kv⟩ := w1.mem _ _ hM
    obtain ⟨u, lu, ru⟩ := kvd_lookup kv hl
    exact ⟨rfl, rfl, dd, vs, u, rfl, hx, lu, (PV.here w1 ru q).base st⟩
theorem ws_try_as (i : Nat) {n x : Str} {c : Value} {body suite : List Stmt} {b₀ : Stmt} {np pos' : Pos} {Wo : WX} {QX : QXS} (hN : X.N.Nodup) (hc : Names X x c) (tk : Takes X Wo)
    (hb : ∀ b0 pn xe, Out (X.tr pn xe) b0 QX → PassesOwn (model X.prog X.w) X.A X.env xe → WSs (X.tr pn xe) body sg (M.rb b0) { nx := fun sg' M' => E.nx sg' (M'.rb M.b), rt := fun d M' => E.rt d (M'.rb M.b), bk := fun sg' M' => E.bk sg' (M'.rb M.b), ct := fun sg' M' => E.ct sg' (M'.rb M.b) })
    (hsu : ∀ C fs sg' M', QX C fs sg' M' → PySem.W.exmOne X.K (.ref C) c = some true ∧ ∀ a dd oe pn, Zc (.ref C) (some dd) oe → (∃ vs, oe.data = .fields vs) → M' dd = none →
      WSs (X.suite a ((a, oe) :: pn)) (b₀ :: suite) (sg'.set i (some (.ptr a))) (updM (M'.rb M.b) dd (some (.xd fs))) { nx := fun sg2 M2 => E.nx (sg2.set i none) M2, rt := E.rt, bk := fun sg2 M2 => E.bk (sg2.set i none) M2, ct := fun sg2 M2 => E.ct (sg2.set i none) M2 })
    (hs : X.stack = X.env :: X.outer := by rfl) (hf : X.env.frame = some X.env.locals := by rfl) (hi : X.N[i]? = some n := by rfl) (hln : X.env.kindOf n = some .local := by rfl) : WS X (.Try body [.ExceptHandler (some (.Name x np)) (some n) (b₀ :: suite) pos'] [] [] pos) sg M E := by
  refine WS.of (ps_try_as (tb := fun W D σ H => ∀ pn xe, Takes (X.tr pn xe) W → PassesOwn (model X.prog X.w) X.A X.env xe → tWSs (X.tr pn xe) body D σ H) (ts := fun a cls d D σ H => ∀ oe pn, Zc cls d oe → (∃ vs, oe.data = .fields vs) → tWSs (X.suite a ((a, oe) :: pn)) (b₀ :: suite) D σ H) hs hf hN hi hln hc tk
    (fun W pn xe t1 t2 => ⟨fun pins s σ H D I h => (h pn xe t1 t2).run pins s I⟩) (fun a oe cls d pn hz hf => ⟨fun pins s σ H D I h => (h oe pn hz hf).run pins s I⟩)) fun σ H G w s => ?_
  intro pn xe t1 t2
  refine (hb ⟨G, M.f, H⟩ pn xe ⟨_, t1, fun cls d σ' H' px => ?_⟩ t2 σ H G w.rb s).imp (fun σ' H' ⟨sg', G', M', st', w', s', q⟩ => ?_) (fun v H' ⟨d, G', M', st', w', r', q⟩ => ?_) (fun σ' H' ⟨sg', G', M', st', w', s', q⟩ => ?_) (fun σ' H' ⟨sg', G', M', st', w', s', q⟩ => ?_)
  · obtain ⟨C, dd, fs, ds, G', M', sg', e1, e2, e3, kv, hb', w', ⟨f1, f2, f3⟩, s', qx⟩ := px
    subst e1; subst e2
    obtain ⟨ex, su⟩ := hsu C ds sg' M' qx
    refine ⟨true, ex, fun _ a ha => fun oe pn2 hz hf2 => ?_, fun z => Bool.noConfusion z⟩
    obtain ⟨w2, st2⟩ := w.unrb w' hb'
    obtain ⟨w3, st3⟩ := w.takeX w2 st2 e3 kv f1 f2 f3
    exact (su a dd oe pn2 hz hf2 f2 _ _ _ w3 (s'.set i (.ptr a))).imp (fun σ2 H2 ⟨sg2, G2, M2, st4, w4, s4, q4⟩ => ⟨sg2.set i none, G2, M2, st3.trans st4, w4, s4.setN i, q4⟩) (fun v H2 p => PV.base st3 p) (fun σ2 H2 ⟨sg2, G2, M2, st4, w4, s4, q4⟩ => ⟨sg2.set i none, G2, M2, st3.trans st4, w4, s4.setN i, q4⟩) (fun σ2 H2 ⟨sg2, G2, M2, st4, w4, s4, q4⟩ => ⟨sg2.set i none, G2, M2, st3.trans st4, w4, s4.setN i, q4⟩)
  · obtain ⟨w2, st2⟩ := w.unrb w' st'.base
    exact ⟨sg', G', M'.rb M.b, st2, w2, s', q⟩
  · obtain ⟨w2, st2⟩ := w.unrb w' st'.base
    exact ⟨d, G', M'.rb M.b, st2, w2, r', q⟩
  · obtain ⟨w2, st2⟩ := w.unrb w' st'.base
    exact ⟨sg', G', M'.rb M.b, st2, w2, s', q⟩
  · obtain ⟨w2, st2⟩ := w.unrb w' st'.base
    exact ⟨sg', G', M'.rb M.b, st2, w2, s', q⟩
end
end DL
set_option Elab.async false
set_option linter.all false
set_option maxRecDepth 100000
set_option maxHeartbeats 4000000
/-! DLz: raise C(e) by data, C an own class with one field, given how it is made. -/
namespace DL
open PySem L2 PyProof.Rows HT
/-- C(e): an error whose own dict, new, has one field -/
def tMkX (C : Addr) (f : Str) (ta : TA) : L2.St → Hp → XK → Prop := fun σ H Q => ta σ H fun vs H1 => ∃ i : Int, vs = [.int i] ∧ i.natAbs.log2 < 1920 ∧ ∀ d, H1 d = none → Q (.ref C) (some d) (upd H1 d (.xd [(f, .int i)]))
theorem small_log {i : Int} (h0 : 0 ≤ i) (h1 : i < 4294967296) : i.natAbs.log2 < 1920 := by
  by_cases h : i.natAbs = 0
  · rw [h]; decide
  · rw [Nat.log2_lt h]
    exact Nat.lt_of_lt_of_le (show i.natAbs < 2 ^ 32 by omega) (Nat.pow_le_pow_right (by decide) (by decide))
section
variable {X : Cx} {sg : Sg} {M : Mem} {E : EndsD} {pos pos2 : Pos}
theorem ws_raise {x f : Str} {C : Addr} {p : Pos} {a : Expr} {QX : QXS} (hc : X.calm = true) (o : Out X M.b QX) (hmk : PMk X (.Call (.Name x p) [a] [] pos) (tMkX C f (tWA X [a]))) (h : WA X [a] sg M fun ds M1 => ∃ i : Int, ds = [.int i] ∧ i.natAbs.log2 < 1920 ∧ QX C [(f, .int i)] sg M1) :
    WS X (.Raise (some (.Call (.Name x p) [a] [] pos)) none pos2) sg M E := by
  obtain ⟨W, tk, hW⟩ := o
  refine WS.of (ps_raise hc tk hmk) fun σ H G w s => (h σ H G w s).imp fun vs H1 ⟨ds, G1, M1, st, w1, r1, i, e, hi, qx⟩ => ?_
  subst e
  obtain ⟨v, rfl, rv⟩ := r1.one
  cases rv
  refine ⟨i, rfl, hi, fun dd hd => hW _ _ _ _ ⟨C, dd, [(f, .int i)], [(f, .int i)], G1, M1, sg, rfl, rfl, upd_same, ⟨rfl, .cons (.int i) .nil⟩, st.base, w1.other (w1.free hd).1 (w1.free hd).2 fun u k1 k2 => w1.fresh hd k1 k2, ⟨(w1.free hd).1, (w1.free hd).2, fun u k1 k2 => ?_⟩, s.mono (st.gx w), qx⟩⟩
  rw [← st.base] at k1 k2
  exact w1.fresh hd k1 k2
end
end DL
set_option Elab.async false
set_option linter.all false
set_option maxRecDepth 100000
set_option maxHeartbeats 4000000
/-! DLv: a def as a value; a call of a local name that holds one. -/
namespace DL
open PySem L2 PyProof.Rows HT
section
variable {X : Cx} {CX : CXT} {k i : Nat} {f : Addr} {fd : FuncData} {ps : List Str} {sp : Sp} {E : L2.St → XK} {x : Str} {p pos : Pos} {e : Expr} {es : List Expr} {t : TA}
def tCallLS (i : Nat) (f : Addr) (sp : Sp) (E : L2.St → XK) (t : TA) : TE := fun σ H Q => σ[i]? = some (some (.ref f)) ∧ t σ H fun vs H1 => sp vs H1 Q (E σ)
theorem pe_callLS (F : FnOk X.prog X.w X.K X.mg X.base CX k f fd ps sp) (hr : Room k X.A) (hN : X.N[i]? = some x) (hv : Vis X.env.scope x) (hk : PySem.W.keepIn X.K (.ref f) = true) (hb : Binds X.K fd ps []) (hx : ∀ σ, PassesAt CX X σ (E σ)) (ha : PA X (e :: es) t)
    (hdb : (x == ("__debug__" : Str)) = false := by decide) (hcd : (x == ("__classdict__" : Str)) = false := by decide)
    (he : starEach (e :: es) X.env = (false, eval e X.env) :: starEach es X.env := by rfl) (hpl : (backTo pos (starEach es X.env)).any (·.1) = false := by rfl) : PE X (.Call (.Name x p) (e :: es) [] pos) (tCallLS i f sp E t) := by
  refine ⟨fun pins s σ H Q I h => ?_⟩
  obtain ⟨hs, ht⟩ := h
  refine wpAny_Call_Name_kw (thn ((pe_var (pos := p) hN hv hdb hcd).run pins s σ H (fun v H1 => v = .ref f ∧ H1 = H) I ⟨.ref f, hs, rfl, rfl⟩) fun u s1 ⟨v, H1, I1, r1, q1⟩ => ?_)
  obtain ⟨rfl, rfl⟩ := q1
  cases r1
  refine PySem.W.callWith_K (h₀ := X.base) I.ok.mod.kin hk (thn (ha.run pos pins s1 σ _ _ I1 ht) fun us s2 ⟨vs, H2, I2, r, q⟩ => ⟨I2.kIn, ?_⟩) he hpl
  exact run_fnS F hr hb (hx σ) I2 r q
end
section
variable {X : Cx} {sg : Sg} {M : Mem} {Q : D → Mem → Prop} {pos : Pos}
/-- the name of a def: its address -/
theorem ee_fn {x : Str} {f : Addr} (hm : X.mg x = some (.ref f)) (hg : Gl X x := by rfl) (hd : (x == ("__debug__" : Str)) = false := by decide) : EE X (.Name x pos) sg M (.ptr f) := WE.of (pe_glob (v := .ref f) hg hm rfl hd) fun σ H G w r => PV.here w (.ptr f) ⟨rfl, rfl⟩
theorem we_callXL (i : Nat) {k n : Nat} {x y : Str} {f : Addr} {S : SpDX} {p : Pos} {e : Expr} {es : List Expr} {QX : QXS} (C : CalX X.prog X.w X.K X.mg X.base k y n S) (hy : X.mg y = some (.ref f)) (hr : Room k X.A) (o : Out X M.b QX) (hs : sg[i]? = some (some (.ptr f)))
    (h : WA X (e :: es) sg M fun ds M1 => ds.length = n ∧ ∀ b0, S ds (M1.rb b0) (fun d M' => Q d (M'.rb M.b)) (fun C fs M' => QX C fs sg (M'.rb M.b))) (hN : X.N[i]? = some x := by rfl) (hv : Vis X.env.scope x := by first | exact Or.inl rfl | exact Or.inr (Or.inl rfl) | exact Or.inr (Or.inr rfl))
    (hd : (x == ("__debug__" : Str)) = false := by decide) (hcd : (x == ("__classdict__" : Str)) = false := by decide)
    (he : starEach (e :: es) X.env = (false, eval e X.env) :: starEach es X.env := by exact star1 rfl) (hpl : (backTo pos (starEach es X.env)).any (·.1) = false := by exact starN rfl) : DL.WE X (.Call (.Name x p) (e :: es) [] pos) sg M Q := by
  obtain ⟨f2, fd, ps, F, hm, kp, hb⟩ := C
  rw [hy] at hm
  cases hm
  obtain ⟨W, tk, hW⟩ := o
  refine WE.of (pe_callLS (i := i) F hr hN hv kp hb (fun σ => passAt tk σ) pa_w hd hcd he hpl) fun σ H G w s => ?_
  obtain ⟨v0, e0, r0⟩ := s.at_ i _ hs
  cases r0
  refine ⟨e0, (h σ H G w s).imp fun vs H1 ⟨ds, G1, M1, st, w1, r1, hl, hS⟩ => ?_⟩
  refine ⟨G1, M1.rb ⟨G1, M1.f, H1⟩, ds, _, _, w1.rb, r1, hl, hS _, fun v H' ⟨d, G', M', st', w', r', q⟩ => ?_, fun cls d H' ⟨C, dd, fs, fds, G', M', e1, e2, e3, kv, hb', w', ⟨f1, f2, f3⟩, qx⟩ => ?_⟩
  · obtain ⟨w2, st2⟩ := w1.unrb w' st'.base
    rw [st.base] at w2 st2
    exact PV.base st ⟨d, G', M'.rb M.b, st2, w2, r', q⟩
  · obtain ⟨w2, st2⟩ := w1.unrb w' hb'
    rw [st.base] at w2 st2
    exact hW _ _ _ _ ⟨C, dd, fs, fds, G', M'.rb M.b, sg, e1, e2, e3, kv, rfl, w2, ⟨f1, f2, fun u k1 k2 => by
      have z := w1.hist dd u
      rw [st.base] at z
      obtain ⟨z1, _, z3⟩ := z k1 k2
      exact f3 u z1 z3⟩, s.mono ((st.trans st2).gx w), qx⟩
end
end DL
set_option Elab.async false
set_option linter.all false
set_option maxRecDepth 100000
set_option maxHeartbeats 4000000
/-! DLu: an own error over ValueError whose __init__ says super().__init__(text), then self.f = n. -/
namespace DL
open PySem L2 PyProof.Rows HT NdefX
section
variable {prog : Program} {w : World} {A : Around} {E : Value → Shared → Prop} {h : Heap} {g : Array GenState} {d : Drawn} {t : Nat} {os : OsState}
variable {nm q : Str} {C N : Addr} {bs bm : List Value} {hdct : Bool} {sn : List Str} {sub : List Value} {ab : Bool} {col : Option Bool} {dd : Option Addr} {k0 k1 k2 k3 k5 : Option Value}
theorem call_mw {u e t0 : Addr} {rest : List Value} {Q : Value → Shared → Prop}
    (hC : h.get? C = some (excClassObj nm q C N bs bm hdct sn sub ab col dd k0 k1 k2 k3 k5 "ValueError.__new__")) (he : h.get? e = some (HandSPX.excO C t0)) (hu : h.get? u = some (PySem.W.kxs_mw "ValueError.__init__" e)) (hrest : rest.length ≤ sizeLine)
    (hq : ∀ h' t1, (∀ b o, b ≠ e → h.get? b = some o → h'.get? b = some o) → h'.get? e = some (HandSPX.excO C t1) → Q .none ⟨h', g, d, t, os⟩) :
    wpAny (model prog w) A (call (.ref u) rest) Q E ⟨h, g, d, t, os⟩ := by
  refine wpAny_call (codeAny_of_tree ?_)
  show wpAny _ A.in1 (callAny (.ref u) ⟨rest, []⟩) _ _ _
  simp only [callAny]
  refine wpAny_bind (wpAny_load hu ?_)
  simp only [PySem.W.kxs_mw, show (Value.type "method-wrapper" == Value.type "method" || Value.type "method-wrapper" == Value.type "builtin_function_or_method" || Value.type "method-wrapper" == Value.type "method-wrapper") = true by decide, if_true]
  refine PySem.W.KFB.if_so (by decide) ?_
  refine wpAny_bind (ESX.check_bound F.excBase_ValueError hC he rfl ?_)
  refine wpAny_bind (wpAny_pure (wpAny_pure ?_))
  refine ⟨Code.quiet_builtin _ (by decide +kernel), codeAny_builtin F.excBase_ValueError.initEntry ?_⟩
  rw [Around.under_plainId F.excBase_ValueError.init.plain _]
  wp_walk
  refine hq _ h.objs.size (fun b o hb ho => ?_) ?_
  · rw [Heap.get?_update_other _ _ (Ne.symm hb)]
    exact Heap.get?_push_of_some _ ho
  · rw [Heap.get?_update_self _ (Heap.get?_push_of_some _ he) rfl]
    rfl
end

abbrev sSelf : Str := "self"
abbrev sCls : Str := "__class__"
/-- what stands of an error class whose __init__ says super().__init__(..), then self.fld = a parameter -/
structure SupX (P : Program) (K : PySem.W.Frag) (mg : Str → Option Value) (C fI cc c : Addr) (F : NF) (fd : FuncData) (fld pn : Str) : Prop where
  oex : OexC K C
  lk : ∃ oc od dV kV doc pm an ct osl, fd = PySem.W.fnX F.name F.qual F.params F.body F.scope F.cl dV kV doc pm an (.ref c) ct ∧ F.c = c ∧ F.cl = [(sCls, cc)] ∧ K.lookup fI = some ⟨oc, od, .func fd, osl⟩
  code : ∃ ccl cdd vs ccs file tf, K.lookup c = some ⟨ccl, cdd, .fields vs, ccs⟩ ∧ vs[2]? = some (.str file tf) ∧ ((P.main.file : Str) == file) = true
  cq : PySem.W.codeIn K (.ref c) F.qual = true
  cell : ∃ cl cld csl, K.lookup cc = some ⟨cl, cld, .cell (some (.ref C)), csl⟩
  sub : PySem.W.mroIn K C (.ref C) = some true
  ve : PySem.W.subIn K (.ref C) (.type "ValueError") = some true
  sup : PySem.W.ks_superIn K C C "__init__" = some (some (.builtin "ValueError.__init__"))
  opq : PySem.W.nsIn K cStatics "thirdparty.any" = some none
  mgS : mg "super" = none
  top : (P.main.scope.names.lookup ("super" : Str)).isSome = false
  sc : NScope [sSelf, pn, sCls] [sSelf, pn] [sCls] F.scope
  hS : F.scope.names.lookup ("super" : Str) = some .globalImplicit
  par : (F.params.posonlyargs ++ F.params.args).head?.map (·.arg) = some sSelf
  no : PySem.W.findIn K (.ref C) fld = some none
  init : PySem.W.findIn K (.ref C) "__init__" = some (some (.ref fI))
  ty : PySem.W.typeIn K (.ref fI) = some (.type "function")
  bind : Binds K fd [sSelf, pn] []
/-- the promise of __init__ -/
def spSup (K : PySem.W.Frag) (C : Addr) (fld : Str) : Sp := fun vs H Q _ => ∃ (a : Addr) (i : Int), vs = [.ref a, .int i] ∧ i.natAbs.log2 < 1920 ∧ H a = some (exo a C none) ∧ ∀ dx, H dx = none → dx ≠ a → Q .non (upd (upd H dx (exd dx [(fld, .int i)])) a (exo a C (some dx)))
section
variable {P : Program} {w : World} {K : PySem.W.Frag} {mg : Str → Option Value} {base : Heap}
theorem sup_init {C fI cc c : Addr} {F : NF} {fd : FuncData} {fld pn : Str} {a : Expr} {p0 p1 p2 p3 p4 p5 p6 p7 p8 : Pos} (T : SupX P K mg C fI cc c F fd fld pn)
    (hbody : F.body = [.Expr (.Call (.Attribute (.Call (.Name "super" p0) [] [] p1) "__init__" p2) [a] [] p3) p4, .Assign [.Attribute (.Name "self" p5) fld p6] (.Name pn p7) p8])
    (hst : nst a = true) (hsw : ∀ env, swapsWith (.Name pn p7) (some (.Attribute (.Name "self" p5) fld p6)) p8.line env = pure false) (hpd : (pn == ("__debug__" : Str)) = false) (hpc : (pn == ("__classdict__" : Str)) = false)
    (hsw2 : ∀ env, swapsWith (.Call (.Attribute (.Call (.Name "super" p0) [] [] p1) "__init__" p2) [a] [] p3) none p4.line env = pure false)
    (hev : ∀ env : Env, ∃ pl : Sem Bool, eval (.Call (.Attribute (.Call (.Name "super" p0) [] [] p1) "__init__" p2) [a] [] p3) env = (do
      let ov ← attributeBase (.Call (.Name "super" p0) [] [] p1) "__init__" env (eval (.Call (.Name "super" p0) [] [] p1) env)
      standAt p2.atName
      let (f, first) ← holding [ov] (getMethod ov "__init__" pl)
      callWith p3 f first (backTo p3 (starEach [a] env)) []))
    (ha : ∀ X : Cx, X.K = K → X.mg = mg → X.N = [sSelf, pn, sCls] → X.env.scope = F.scope → PE X a (fun σ H Q => ∃ i : Int, σ[1]? = some (some (.int i)) ∧ i.natAbs.log2 < 1920 ∧ ∀ t : Str, Q (.str t) H)) :
    FnOk P w K mg base CX0 1 fI fd [sSelf, pn] (spSup K C fld) := by
  obtain ⟨oc, od, dV, kV, doc, pm, an, ct, osl, hfd, hc, hcl, lk⟩ := T.lk
  obtain ⟨nm0, qual, params, body, scope, cl, c0⟩ := F
  have hc : c0 = c := hc
  have hcl : cl = [(sCls, cc)] := hcl
  have hbody : body = _ := hbody
  subst hc; subst hcl
  subst hfd
  have S : NScope [sSelf, pn, sCls] [sSelf, pn] [sCls] scope := T.sc
  refine ⟨fun vs H Q E h => ?_, fun A outer s H args us vs Q E hr e0 hb r hsp => ?_⟩
  · obtain ⟨a, i, e, _⟩ := h
    rw [e]
    rfl
  obtain ⟨x, i, rfl, hi, hx, q⟩ := hsp
  have KX : K.In s.heap := e0.mod.kin.keeps fun b o e => (e0.bs b o e).1
  have lim : s.heap.NoLimit := e0.mod.nolimit.keeps fun b o e => (e0.bs b o e).1
  obtain ⟨cl, cld, csl, hcell⟩ := T.cell
  obtain ⟨ccl, cdd, fvs, ccs, file, tf, hcode, hvs, hfile⟩ := T.code
  refine ks_codeAny_call_defAt hr.depth (KX _ _ lk) rfl lim (PySem.W.codeRec_of KX T.cq) rfl hb S.nocell (fun ⟨n, _⟩ hy => S.par n (List.of_mem_zip hy).1) (fun h₁ hns hk => ?_) S.co S.gen S.kind
  have hcb : H cc = none ∧ s.heap.IsCell cc (some (.ref C)) := ⟨(e0.bs cc _ (e0.mod.kin _ _ hcell)).2, ⟨_, KX _ _ hcell, rfl⟩⟩
  have CA : CellsAt [(sCls, cc)] [sCls] [none] s.heap H := by
    refine ⟨rfl, fun y c1 e => ?_, fun y z c1 e1 e2 => ?_, fun j y e => ?_⟩
    · have : c1 = cc := by
        by_cases hy : (y == sCls) = true
        · simp only [List.lookup, hy] at e
          exact (Option.some.inj e).symm
        · simp only [List.lookup, hy] at e
          cases e
      subst this
      exact ⟨hcb.1, _, hcb.2⟩
    · have h1 : ∀ {y : Str}, List.lookup y [(sCls, cc)] = some c1 → y = sCls := fun {y} e => by
        by_cases hy : (y == sCls) = true
        · exact by simpa using hy
        · simp only [List.lookup, hy] at e
          cases e
      rw [h1 e1, h1 e2]
    · cases j with
      | zero =>
        cases e
        exact ⟨cc, by simp [List.lookup], fun v hv => by cases hv⟩
      | succ j => simp at e
  have I : Inv (ncx CX0 P w K mg base [sSelf, pn, sCls] ⟨nm0, qual, params, body, scope, [(sCls, cc)], c0⟩ fI A outer s H E) [] (startF [sSelf, pn, sCls] [.ref x, .int i] [none]) H { s with heap := h₁, toks := s.toks + ([sSelf, pn].zip us).length } := inv_startN S hr.hd e0 rfl r CA hns hk
  have hKX : ∃ X, X = ncx CX0 P w K mg base [sSelf, pn, sCls] ⟨nm0, qual, params, body, scope, [(sCls, cc)], c0⟩ fI A outer s H E := ⟨_, rfl⟩
  have fin : ∀ {σ' : L2.St} {H' : Hp} {v : V} {u : Value} {s' : Shared}, Inv (ncx CX0 P w K mg base [sSelf, pn, sCls] ⟨nm0, qual, params, body, scope, [(sCls, cc)], c0⟩ fI A outer s H E) [] σ' H' s' → L2.RelV v u → Q v H' → CE outer P w H s Q u s' :=
    fun {σ' H' v u s'} J rv q => ⟨v, H', J.os, J.bare, J.base, J.hok, rv, q⟩
  show PySem.wpAt (model P w) (A.deeper (envF ⟨nm0, qual, params, body, scope, [(sCls, cc)], c0⟩ fI s.heap.objs.size)) (.func body (envF ⟨nm0, qual, params, body, scope, [(sCls, cc)], c0⟩ fI s.heap.objs.size)) (execs body (envF ⟨nm0, qual, params, body, scope, [(sCls, cc)], c0⟩ fI s.heap.objs.size)) _ _ _
  have hks : (envF ⟨nm0, qual, params, body, scope, [(sCls, cc)], c0⟩ fI s.heap.objs.size).kindOf "super" = some .globalImplicit := T.hS
  have hkc : (envF ⟨nm0, qual, params, body, scope, [(sCls, cc)], c0⟩ fI s.heap.objs.size).kindOf "__class__" = some .free := S.frk _ (List.mem_cons_self ..)
  have quiet := I.quiet
  have hsx : ∀ env : Env, execs body env = execs [.Expr (.Call (.Attribute (.Call (.Name "super" p0) [] [] p1) "__init__" p2) [a] [] p3) p4, .Assign [.Attribute (.Name "self" p5) fld p6] (.Name pn p7) p8] env := fun env => congrArg (fun b => execs b env) hbody
  rw [hsx]
  refine ks_wpAt_execs_cons (ks_wpAt_Expr_any ?_ quiet (hsw2 _))
  obtain ⟨pl, hev⟩ := hev (envF ⟨nm0, qual, params, body, scope, [(sCls, cc)], c0⟩ fI s.heap.objs.size)
  refine ks_wpAt_MethodCall (pl := pl) ?_ hev
  obtain ⟨nm, q1, N1, bs1, bm, sn, sub, ab, col, dd, k0, k1, k2, k3, k5, hC, hbm⟩ := T.oex.cls
  have hcls : PySem.W.clsIn K C = some { name := nm, bases := bs1, mro := .ref C :: bm, ns := N1, qualname := q1, hasDict := true, slotNames := sn, subclasses := sub, abstract := ab, collection := col, hasDel := false } := by unfold PySem.W.clsIn; rw [hC] <;> rfl
  obtain ⟨ar, har, harn⟩ : ∃ ar : Arg, (params.posonlyargs ++ params.args).head? = some ar ∧ ar.arg = sSelf := by
    have hp := T.par
    cases e : (params.posonlyargs ++ params.args).head? with
    | none =>
      have hp : ((params.posonlyargs ++ params.args).head?).map (·.arg) = some sSelf := hp
      rw [e] at hp; cases hp
    | some ar =>
      have hp : ((params.posonlyargs ++ params.args).head?).map (·.arg) = some sSelf := hp
      rw [e] at hp
      exact ⟨ar, rfl, Option.some.inj hp⟩
  have K1 : K.In h₁ := KX.keeps hk
  have r0 := r
  obtain ⟨u0, us1, eus, ru0, ru1⟩ : ∃ u0 us1, us = u0 :: us1 ∧ L2.RelV (.ref x) u0 ∧ Vals [.int i] us1 := by
    cases r with
    | cons r1 r2 => exact ⟨_, _, rfl, r1, r2⟩
  obtain rfl : u0 = Value.ref x := ru0
  have nd2 : [sSelf, pn].Nodup := by
    have := S.nd
    exact (List.nodup_append.mp (show ([sSelf, pn] ++ [sCls]).Nodup from this)).1
  obtain ⟨mb, hb1, hb2⟩ := e0.mod.blt
  refine ks_wpAt_super_base hks hkc (by decide) rfl (hk _ _ (KX _ _ lk)) rfl har rfl (hk _ _ (KX _ _ hcode)) rfl hvs hfile T.top ?_
  refine PySem.W.ks_loadName_global S.kind hks (Calls.loadGlobal_builtin (e0.mod.glob.keeps fun b o e => hk _ _ (e0.bs b o e).1) T.mgS (hb1.keeps fun b o e => hk _ _ (e0.bs b o e).1) ((hb2 "super" (by decide)).trans (show bootBuiltins "super" = some (.type "super") by decide +kernel)) ⟨rfl, ?_⟩)
  refine wpAny_loadName_free S.kind hkc (c := cc) (by rfl) ⟨_, K1 _ _ hcell, rfl⟩ ?_
  rw [harn]
  refine wpAny_loadName_local S.kind (S.par _ (List.mem_cons_self ..)) hns (zip_look (i := 0) nd2 rfl (by rw [eus]; rfl)) ?_
  refine ks_wpAny_isType_cls (K1 _ _ hC) rfl ⟨rfl, ?_⟩
  obtain ⟨t1, hxo⟩ := exo_at I.hok hx
  refine ks_wpAny_call_super (K1 _ _ hC) rfl hxo rfl (fun c e => by cases e) (PySem.W.looks_mroIn K1 T.sub) (fun h2 e2 k => ?_)
  have I1 := I.kept (h' := h2) (t' := s.toks + ([sSelf, pn].zip us).length) k
  have K2 : K.In h2 := K1.keeps k
  obtain ⟨t2, hxo2⟩ := exo_at I1.hok hx
  have hxC : x ≠ C := fun e => by
    have y := K2 _ _ hC
    rw [← e] at y
    rw [y] at hxo2
    cases hxo2
  have IA : PySem.W.InstAt h2 x (HandSPX.excO C t2) C none := ⟨hxo2, rfl, rfl, trivial⟩
  refine PySem.W.kxs_getMethod PySem.W.kxs_ValueError e2 (PySem.W.looks_opaque K2 T.opq) (l₀ := .ref C :: bm) ((PySem.W.looks_clsIn K2 hcls).andThen .now) rfl K2 ?_ (IA.type.andThen (PySem.W.looks_subIn K2 T.ve)) hxC (by decide) ?_
  · have := T.sup
    unfold PySem.W.ks_superIn at this
    rw [hcls] at this
    exact this
  have kp : ∀ b o, h2.get? b = some o → (h2.push (PySem.W.kxs_mw "ValueError.__init__" x)).get? b = some o := fun b o e => Heap.get?_push_of_some _ e
  have I2 := (I1.kept (h' := h2.push (PySem.W.kxs_mw "ValueError.__init__" x)) (t' := s.toks + ([sSelf, pn].zip us).length + 1) kp).pins_of (pins' := [(h2.objs.size, PySem.W.kxs_mw "ValueError.__init__" x)]) (fun p hp => by
    rw [List.mem_singleton.mp hp]
    exact ⟨Heap.get?_push_at rfl rfl, I1.hok.fresh (Nat.le_refl _), fun z => absurd I1.lt (by show ¬ _ < h2.objs.size; rw [← z]; exact Nat.lt_irrefl _), I1.nofs (Nat.le_refl _), fun v z => by cases z⟩)
  have he : starEach [a] (envF ⟨nm0, qual, params, body, scope, [(sCls, cc)], c0⟩ fI s.heap.objs.size) = (false, eval a (envF ⟨nm0, qual, params, body, scope, [(sCls, cc)], c0⟩ fI s.heap.objs.size)) :: starEach [] (envF ⟨nm0, qual, params, body, scope, [(sCls, cc)], c0⟩ fI s.heap.objs.size) := star1 hst
  have pa := pa_cons (ha (ncx CX0 P w K mg base [sSelf, pn, sCls] ⟨nm0, qual, params, body, scope, [(sCls, cc)], c0⟩ fI A outer s H E) rfl rfl rfl rfl) pa_nil he
  have pr := pa.run p3 _ _ _ H (fun vs H1 => ∃ t : Str, vs = [.str t] ∧ H1 = H) I2 ⟨i, rfl, hi, fun t => ⟨t, rfl, rfl⟩⟩
  have pr : wpAny (model P w) (A.deeper (envF ⟨nm0, qual, params, body, scope, [(sCls, cc)], c0⟩ fI s.heap.objs.size)) (spliced (backTo p3 (starEach [a] (envF ⟨nm0, qual, params, body, scope, [(sCls, cc)], c0⟩ fI s.heap.objs.size)))) _ _ _ := pr
  rw [he] at pr
  show wpAny _ _ (callWith p3 (.ref h2.objs.size) [] (backTo p3 (starEach [a] (envF ⟨nm0, qual, params, body, scope, [(sCls, cc)], c0⟩ fI s.heap.objs.size))) []) _ _ _
  rw [he]
  refine PySem.W.kxs_callWith (i := "ValueError.__init__") (x := x) rfl (Calls.evalArgs_plain (wpAny_mono pr (fun ws s3 ⟨vs, H3, I3, r3, t, e1, e2⟩ => ?_) fun _ _ z => z))
  subst e1
  rw [e2] at I3
  have pin := (I3.pin (h2.objs.size, PySem.W.kxs_mw "ValueError.__init__" x) (by simp)).1
  refine ⟨pin, ?_⟩
  obtain ⟨t3, hxo3⟩ := exo_at I3.hok hx
  obtain ⟨h3, g3, d3, tk3, os3⟩ := s3
  refine call_mw (I3.kIn _ _ hC) hxo3 pin (by rw [List.nil_append, ← r3.length, sizeLine_eq]; show 1 ≤ 16777216; omega) (fun h4 t4 k4 hxo4 => ?_)
  have J := (I3.write (t' := tk3) (x := x) (e := x) (o := exo x C none) (by rw [hx]; exact True.intro) (.inl rfl) k4 ⟨_, hxo4⟩ (exo_ok hxo4)).pins_of (pins' := []) (fun p hp => by cases hp)
  have eu : upd H x (exo x C none) = H := by
    funext b
    by_cases hb : b = x
    · rw [hb, upd_same, hx]
    · rw [upd_ne hb]
  rw [eu] at J
  refine wpAt_of_wpAny ?_
  have hself : scope.names.lookup sSelf = some .local := S.par _ (List.mem_cons_self ..)
  have ps := pss_cons (ps_ost (X := ncx CX0 P w K mg base [sSelf, pn, sCls] ⟨nm0, qual, params, body, scope, [(sCls, cc)], c0⟩ fI A outer s H E) (f := fld) (pe_var (i := 0) (x := sSelf) (pos := p5) rfl (.inl hself)) (pe_var (i := 1) (x := pn) (pos := p7) rfl (.inl (S.par _ (List.mem_cons_of_mem _ (List.mem_cons_self ..)))) hpd hpc) (hsw _)) pss_nil
  refine thn (ps.run [] _ _ H { nx := fun _ H' => Q .non H', rt := Q } J ⟨.int i, rfl, .ref x, rfl, x, C, rfl, T.oex, T.no, .inl ⟨hx, fun dx hd hne => q dx hd hne⟩⟩) fun f s' hs => ?_
  cases f with
  | ret u =>
    obtain ⟨v, σ', H', J, rv, q⟩ := hs
    exact fin J rv q
  | next =>
    obtain ⟨σ', H', J, q⟩ := hs
    exact fin (v := V.non) (u := Value.none) J rfl q
  | brk =>
    obtain ⟨_, _, _, q⟩ := hs
    exact False.elim q
  | cont =>
    obtain ⟨_, _, _, q⟩ := hs
    exact False.elim q
end
/-- how an error of this class is made, in any frame with room -/
def MkE (P : Program) (w : World) (K : PySem.W.Frag) (mg : Str → Option Value) (base : Heap) (x : Str) (C : Addr) (fld : Str) : Prop := ∀ (X : Cx), X.prog = P → X.w = w → X.K = K → X.mg = mg → X.base = base → Room 2 X.A → Gl X x → ∀ (a : Expr) (p pos : Pos), nst a = true → PMk X (.Call (.Name x p) [a] [] pos) (tMkX C fld (tWA X [a]))
theorem mke {P : Program} {w : World} {K : PySem.W.Frag} {mg : Str → Option Value} {base : Heap} {C fI cc c : Addr} {F : NF} {fd : FuncData} {fld pn x : Str} (T : SupX P K mg C fI cc c F fd fld pn) (F1 : FnOk P w K mg base CX0 1 fI fd [sSelf, pn] (spSup K C fld)) (hm : mg x = some (.ref C)) (hdb : (x == ("__debug__" : Str)) = false) : MkE P w K mg base x C fld := by
  intro X e1 e2 e3 e4 e5 hr hg a p pos hst pins s σ H Q I h
  subst e1; subst e2; subst e3; subst e4; subst e5
  refine pmk_oex T.oex T.init T.ty F1 hr T.bind .nil pass0 hg hm (pa_w (es := [a])) hdb (star1 hst) rfl pins s σ H Q I ?_
  refine tWA.imp h fun vs H1 ⟨i, e, hi, q⟩ => ?_
  subst e
  refine ⟨by show 1 ≤ 1000; omega, fun b hb => ⟨b, i, rfl, hi, upd_same, fun dx hd hne => ⟨rfl, dx, _, upd_same, by rw [upd_ne hne, upd_same], by rw [upd_ne hne] at hd; exact hd, ?_⟩⟩⟩
  have hd1 : H1 dx = none := by rw [upd_ne hne] at hd; exact hd
  have ee : upd (del (upd (upd (upd H1 b (exo b C none)) dx (exd dx [(fld, .int i)])) b (exo b C (some dx))) b) dx (.xd [(fld, .int i)]) = upd H1 dx (.xd [(fld, .int i)]) := by
    funext y
    by_cases h1 : y = dx
    · subst h1; rw [upd_same, upd_same]
    · rw [upd_ne h1, upd_ne h1]
      by_cases h2 : y = b
      · subst h2; rw [del_same, hb]
      · rw [del_ne h2, upd_ne h2, upd_ne h1, upd_ne h2]
  rw [ee]
  exact q dx hd1
end DL
set_option Elab.async false
set_option linter.all false
set_option maxRecDepth 100000
set_option maxHeartbeats 4000000
/-! DLt: tuple * 1; range with a step; a list that changes, out of a sum. -/
namespace DL
open PySem PySem.Spec L2 PyProof.Rows HT
theorem tuple_mul1 (l : Addr) (items : Array Value) (n : Nat) (sl : Array (Option Value)) (dd : Option Addr) (x : Int) (u : Tok) (c0 : (decide (x < -(2 ^ 63)) || decide (x ≥ 2 ^ 63)) = false) (c1 : (items.isEmpty || x == 1) = true) :
    Meets (Builtin.«tuple.__mul__» ⟨[.ref l, .int x u], []⟩) (fun _ R s => s.heap.get? l = some { cls := .type "tuple", dict := dd, data := .seq items n, slots := sl } ∧ R (.ok (.ret (Value.ref l))) s) :=
  .of_wp fun prog w A R s h => by
    obtain ⟨hp, g, d, tk, os⟩ := s
    obtain ⟨hl, h⟩ := h
    have f1 := AutoSeq1.idx_int
    wp_walk using wpAny_loadPart' hl
    repeat (first
      | (refine wpAny_ite_false (decide_eq_false (by rw [c0]; exact Bool.false_ne_true)) ?_; wp_walk using wpAny_loadPart' hl)
      | (refine wpAny_ite_true (decide_eq_true (by rw [c1])) ?_; wp_walk using wpAny_loadPart' hl))
    exact ⟨_, rfl, h⟩
/-- tuple * 1, or of the empty one: itself -/
def rRep1 (K : PySem.W.Frag) : R2 := fun x y H Q => ∃ l k xs, x = .ref l ∧ y = .int k ∧ SqT K H l xs ∧ (xs = [] ∨ k = 1) ∧ -(2 ^ 62) ≤ k ∧ k < 2 ^ 62 ∧ Q (.ref l) H
def rRepA (K : PySem.W.Frag) : R2 := fun x y H Q => rRepT K x y H Q ∨ rRep1 K x y H Q
section
variable {X : Cx}
theorem op_repA : OpR X (binaryOp .Mult) (rRepA X.K) := by
  intro pins s σ H x y v u Q I rx ry h
  rcases h with h | h
  · exact op_repT pins s σ H x y v u Q I rx ry h
  obtain ⟨l, k, xs, rfl, rfl, hT, h1, h2, h3, q⟩ := h
  cases rx
  obtain ⟨t, rfl⟩ := ry
  obtain ⟨its, r, ⟨⟨cls, dd, data, sl⟩, ho, hc, n, hd⟩, hs⟩ := I.tuple hT
  simp only at hc hd
  subst hc hd
  have c0 : (decide (k < -(2 ^ 63)) || decide (k ≥ 2 ^ 63)) = false := by
    rw [decide_eq_false (by omega), decide_eq_false (by omega)] <;> rfl
  have c1 : (its.toArray.isEmpty || k == 1) = true := by
    rcases h1 with h1 | h1
    · subst h1
      cases r
      rfl
    · subst h1
      rw [Bool.or_eq_true]
      exact .inr rfl
  refine wpAny_binaryOp_repeat_ref (T := "tuple") (U := "int") (by decide) ⟨_, ho, rfl⟩ (fun s' => typeIs_int s' k t) noFill_tuple_mul F.fills_int_mul F.slot_int_rmul repeat_tuple F.slot_int_index.lookup
    (call_meets F.slot_int_rmul (typeIs_int s k t) F.entry_int_rmul (F.args_int_rmul_2 _ _) (int_rmul_tuple k t l its.toArray n dd sl)
      ⟨ho, rfl, ⟨_, ho, rfl⟩, call_meets F.slot_tuple_mul ⟨_, ho, rfl⟩ F.entry_tuple_mul (F.args_tuple_mul_2 _ _) (tuple_mul1 l its.toArray n sl dd k t c0 c1) ⟨ho, ?_⟩⟩)
  exact ⟨.ref l, H, I, rfl, q⟩
end
section
variable {K : PySem.W.Frag} {M : Mem} {Q : D → Mem → Prop}
theorem od_repA {ds : List D} {i : Int} (h1 : 1 ≤ i) (h2 : i ≤ 1000) (h3 : ds.length ≤ 1000) (q : Q (.tup (List.replicate i.toNat ds).flatten) M) : OpD K (rRepA K) (.tup ds) (.int i) M Q := fun G H v u R w rx ry k => by
  cases ry
  cases rx with
  | @tup a xs _ e1 r1 =>
    by_cases h0 : xs = [] ∨ i = 1
    · have e : (List.replicate i.toNat ds).flatten = ds := by
        rcases h0 with h0 | h0
        · subst h0
          cases r1
          simp
        · subst h0
          simp
      rw [e] at q
      exact .inr ⟨_, _, xs, rfl, rfl, e1.sq w.sub, h0, by omega, by omega, k _ _ (PV.here w (.tup e1 r1) q)⟩
    · have h5 : ¬ xs = [] := fun z => h0 (.inl z)
      have h6 : ¬ i = 1 := fun z => h0 (.inr z)
      exact .inl ⟨_, _, _, rfl, rfl, e1.sq w.sub, h5, by omega, h2, by rw [r1.length]; exact h3, fun p hp => k _ _ (new_tup w hp (r1.rep _) q)⟩
/-- a sum of lists that may change -/
theorem od_catM {x y : D} {ds es : List D} (hx : LsD M x ds) (hy : LsD M y es) (h : ds.length + es.length ≤ sizeLine) (q : ∀ p, M p = none → Q (.ptr p) (updM M p (some (.lst (ds ++ es))))) : OpD K rCat x y M Q := fun G H v u R w rx ry k => by
  obtain ⟨a, xs, rfl, h1, r1⟩ := hx.at w rx
  obtain ⟨b, ys, rfl, h2, r2⟩ := hy.at w ry
  exact ⟨a, b, xs, ys, rfl, rfl, h1, h2, by rw [r1.length, r2.length]; exact h, fun p hp => k _ _ (new_lstM w hp (r1.append r2) q)⟩
/-- lo, lo + c, .. -/
def rngC (lo c : Int) (n : Nat) : List D := (List.range n).map fun (i : Nat) => D.int (lo + (i : Int) * c)
theorem rngC_at {lo c : Int} {n j : Nat} {d : D} (h : (rngC lo c n)[j]? = some d) : j < n ∧ d = .int (lo + (j : Int) * c) := by
  unfold rngC at h
  rw [List.getElem?_map] at h
  cases e : (List.range n)[j]? with
  | none => rw [e] at h; cases h
  | some i =>
    rw [e] at h
    have hj := (List.getElem?_eq_some_iff.mp e).1
    rw [List.length_range] at hj
    rw [List.getElem?_range hj] at e
    cases e
    exact ⟨hj, (Option.some.inj h).symm⟩
theorem rngC_len {lo c : Int} {n : Nat} : (rngC lo c n).length = n := by unfold rngC; rw [List.length_map, List.length_range]
theorem itd_rngC {G : Hp} {lo c : Int} {n : Nat} : ItD K G (Itc lo c n) (rngC lo c n) fun _ => True := fun G1 M1 H1 gx w _ i => by
  refine ⟨fun h => by rw [rngC_len] at h; exact Nat.le_of_eq h.symm, fun d hd => ?_⟩
  obtain ⟨hi, e⟩ := rngC_at hd
  subst e
  refine ⟨hi, fun x H' ⟨e1, e2⟩ => ?_⟩
  subst e1; subst e2
  exact ⟨G1, Stp.refl, w, .int _⟩
theorem rgc_up {j c : Int} (h0 : 0 ≤ j) (h1 : j < 2 ^ 30) (c0 : 0 < c) (c1 : c < 2 ^ 29) : ∃ n : Nat, RgC 0 j c n ∧ (n : Int) ≤ j ∧ ∀ i : Nat, i < n → (i : Int) * c < j := by
  have hr : Builtin.Range.rangeSize 0 j c = if 0 < j then (j - 1) / c + 1 else 0 := by
    unfold Builtin.Range.rangeSize
    rw [if_pos c0, Int.sub_zero]
  refine ⟨(if 0 < j then (j - 1) / c + 1 else 0).toNat, ⟨by omega, by omega, ?_, ?_⟩, ?_, ?_⟩
  · unfold Builtin.Range.small
    rw [hr]
    by_cases hj : 0 < j
    · rw [if_pos hj]
      have d0 : 0 ≤ (j - 1) / c := Int.ediv_nonneg (by omega) (by omega)
      have d1 : (j - 1) / c ≤ j - 1 := Int.ediv_le_self _ (by omega)
      have d2 : (j - 1) / c * c ≤ j - 1 := Int.ediv_mul_le _ (by omega)
      simp only [Builtin.Range.rangeFitsLong, Bool.and_eq_true, Bool.or_eq_true, decide_eq_true_eq, beq_iff_eq]
      rw [if_pos c0]
      simp only [Builtin.Range.rangeFitsLong, Bool.and_eq_true, decide_eq_true_eq]
      omega
    · rw [if_neg hj]
      simp [Builtin.Range.rangeFitsLong]
      omega
  · rw [hr]
    split
    · have d0 : 0 ≤ (j - 1) / c := Int.ediv_nonneg (by omega) (by omega)
      omega
    · rfl
  · split
    · have d0 : 0 ≤ (j - 1) / c := Int.ediv_nonneg (by omega) (by omega)
      have d1 : (j - 1) / c ≤ j - 1 := Int.ediv_le_self _ (by omega)
      omega
    · omega
  · intro i hi
    by_cases hj : 0 < j
    · rw [if_pos hj] at hi
      have d0 : 0 ≤ (j - 1) / c := Int.ediv_nonneg (by omega) (by omega)
      have d2 : (j - 1) / c * c ≤ j - 1 := Int.ediv_mul_le _ (by omega)
      have d3 : (i : Int) * c ≤ (j - 1) / c * c := Int.mul_le_mul_of_nonneg_right (by omega) (by omega)
      omega
    · rw [if_neg hj] at hi
      simp at hi
end
section
variable {X : Cx} {sg : Sg} {M : Mem} {tg : Expr} {pos : Pos} {Qi : List D → (Mem → Prop) → Mem → Prop}
theorem wi_rng3 {a b c : Expr} {p : Pos} (hm : X.mg "range" = none) (h : WA X [a, b, c] sg M fun ds M1 => ∃ (i j k : Int) (n : Nat), ds = [.int i, .int j, .int k] ∧ RgC i j k n ∧ Qi (rngC i k n) (fun _ => True) M1) (hg : Gl X "range" := by rfl)
    (hs : starEach [a, b, c] X.env = (false, eval a X.env) :: starEach [b, c] X.env := by exact star1 rfl) (hpl : (backTo pos (starEach [b, c] X.env)).any (·.1) = false := by exact starN rfl) : WI X tg (.Call (.Name "range" p) [a, b, c] [] pos) sg M Qi := ⟨_, pi_range3 hg hm pa_w hs hpl, fun σ H G R w s k => (h σ H G w s).imp fun vs H1 ⟨ds, G1, M1, st, w1, r1, i, j, c, n, e, b1, q⟩ => by
  subst e
  cases r1 with
  | cons r1 r2 =>
    obtain ⟨u1, u2, rfl, rv, ru⟩ := r2.two
    cases r1; cases rv; cases ru
    exact ⟨i, j, c, n, rfl, b1, k _ _ _ _ G1 M1 st w1 itd_rngC q⟩⟩
end
end DL
set_option Elab.async false
set_option linter.all false
set_option maxRecDepth 100000
set_option maxHeartbeats 4000000
/-! DLs: enumerate of a list, each pair held by one name. -/
namespace DL
open PySem PySem.Spec L2 PyProof.Rows HT
/-- an enumerate object, whatever pair it gave last -/
def EnX (h : Heap) (e it : Addr) (i : Int) : Prop := ∃ (o0 b old : Value), (o0 = .none ∨ ∃ a : Int, o0 = rawInt a) ∧ h.get? e = some { cls := .type "enumerate", dict := none, data := .fields #[o0, b, .ref it, rawInt i, .none, old], slots := #[] }
section
variable {prog : Program} {w : World} {M : Model} {A : Around} {E : Value → Shared → Prop} {s : Shared}
theorem wpAny_alive {a : Addr} {Q : Option Obj → Shared → Prop} (h : Q (s.heap.get? a) s) : wpAny M A (loadIfAlive a) Q E s := fun Γ p hΓ => by
  unfold loadIfAlive
  rw [Sem.wp_loadIfAlive]
  exact h
theorem enx_free {e it : Addr} {i : Int} {Q : Bool → Shared → Prop} (he : EnX s.heap e it i) (ht : Q true s) (hf : ∀ h', EnX h' e it i → Heap.SameBut e s.heap h' → Q false { s with heap := h' }) :
    wpAny (model prog w) A (Builtin.SmallTypes.ownedTupleIsFree (.ref e)) Q E s := by
  obtain ⟨o0, b, old, h0, he⟩ := he
  unfold Builtin.SmallTypes.ownedTupleIsFree
  rcases h0 with h0 | ⟨a, h0⟩
  · subst h0
    exact wpAny_bind (wpAny_field he rfl (x := .none) rfl (wpAny_pure ht))
  · subst h0
    refine wpAny_bind (wpAny_field he rfl (x := rawInt a) rfl ?_)
    show wpAny _ _ (loadIfAlive a.toNat >>= _) _ _ _
    refine wpAny_bind (wpAny_alive ?_)
    cases hg : s.heap.get? a.toNat with
    | none => exact wpAny_pure ht
    | some o =>
      show wpAny _ _ (field (.ref e) 1 >>= _) _ _ _
      refine wpAny_bind (wpAny_field he rfl (x := b) rfl ?_)
      by_cases hb : (b != .bool true) = true
      · rw [if_pos hb]
        refine wpAny_bind (wpAny_setField_rec he (by simp) fun h' he' hs' => ?_)
        exact wpAny_pure (hf h' ⟨rawInt a, .bool true, old, .inr ⟨a, rfl⟩, he'⟩ hs')
      · rw [if_neg hb]
        exact wpAny_pure (hf s.heap ⟨rawInt a, b, old, .inr ⟨a, rfl⟩, he⟩ ⟨rfl, fun _ _ => rfl⟩)

theorem enx_next {e it l : Addr} {i : Nat} {items : Array Value} {x : Value} {Q : Value → Shared → Prop}
    (he : EnX s.heap e it i) (hit : s.heap.IsListIter it l i) (hl : s.heap.IsList l items) (hx : items[i]? = some x) (hne : e ≠ it)
    (hQ : ∀ h', EnX h' e it ((i : Int) + 1) → h'.IsListIter it l (i + 1) → h'.get? s.heap.objs.size = some { cls := .type "tuple", data := .seq #[.int i s.toks, x] } → h'.objs.size = s.heap.objs.size + 1 →
      (∀ b o, b ≠ e → b ≠ it → s.heap.get? b = some o → h'.get? b = some o) → Q (.ref s.heap.objs.size) { s with heap := h', toks := s.toks + 1 }) :
    wpAny (model prog w) A (Builtin.«enumerate.__next__» ⟨[.ref e], []⟩) (fun fin s' => ∃ v, fin = .done (.ret v) ∧ Q v s') E s := by
  obtain ⟨hp, g, d, tk, os⟩ := s
  obtain ⟨o0, b0, old, h0, he⟩ := he
  show wpAny _ _ (field (.ref e) 2 >>= _) _ _ _
  refine wpAny_bind (wpAny_field he rfl (x := .ref it) rfl ?_)
  refine wpAny_bind (wpAny_nextOf_list_item hit hl hx fun h₁ hit₁ hs₁ => ?_)
  have he1 := (hs₁.2 e hne).trans he
  show wpAny _ _ (field (.ref e) 3 >>= _) _ _ ⟨h₁, g, d, tk, os⟩
  refine wpAny_bind (wpAny_field he1 rfl (x := rawInt i) rfl ?_)
  show wpAny _ _ (field (.ref e) 4 >>= _) _ _ ⟨h₁, g, d, tk, os⟩
  refine wpAny_bind (wpAny_field he1 rfl (x := .none) rfl ?_)
  show wpAny _ _ (mkInt i >>= _) _ _ ⟨h₁, g, d, tk, os⟩
  refine wpAny_bind (wpAny_mkInt ?_)
  show wpAny _ _ (setField (.ref e) 3 (rawInt ((i : Int) + 1)) >>= _) _ _ ⟨h₁, g, d, tk + 1, os⟩
  refine wpAny_bind (wpAny_setField_rec he1 (by simp) fun h₂ he2 hs₂ => ?_)
  show wpAny _ _ (setField (.ref e) 4 .none >>= _) _ _ ⟨h₂, g, d, tk + 1, os⟩
  refine wpAny_bind (wpAny_setField_rec he2 (by simp) fun h₃ he3 hs₃ => ?_)
  show wpAny _ _ (newTuple [.int i tk, x] >>= _) _ _ ⟨h₃, g, d, tk + 1, os⟩
  refine wpAny_bind (wpAny_newTuple ?_)
  have he4 : EnX (h₃.push { cls := .type "tuple", data := .seq #[.int i tk, x] }) e it ((i : Int) + 1) := ⟨o0, b0, old, h0, Heap.get?_push_of_some _ he3⟩
  generalize hh4 : h₃.push { cls := .type "tuple", data := .seq #[.int i tk, x] } = h₄ at he4
  replace hs₁ : Heap.SameBut it hp h₁ := hs₁
  replace hs₂ : Heap.SameBut e h₁ h₂ := hs₂
  replace hs₃ : Heap.SameBut e h₂ h₃ := hs₃
  have hsz : h₃.objs.size = hp.objs.size := by rw [hs₃.1, hs₂.1, hs₁.1]
  have hel : e < hp.objs.size := Heap.lt_size he
  have ne : hp.objs.size ≠ e := Nat.ne_of_gt hel
  have ht4 : h₄.get? hp.objs.size = some { cls := .type "tuple", data := .seq #[.int i tk, x] } := by rw [← hh4, ← hsz]; exact Heap.get?_push_size _ rfl
  have hz4 : h₄.objs.size = hp.objs.size + 1 := by rw [← hh4, Heap.size_push, hsz]
  have hk4 : ∀ b o, b ≠ e → b ≠ it → hp.get? b = some o → h₄.get? b = some o := fun b o hbe hbi hb => by
    rw [← hh4]; exact Heap.get?_push_of_some _ (hs₃.extBut b o hbe (hs₂.extBut b o hbe (hs₁.extBut b o hbi hb)))
  have hit4 : h₄.IsListIter it l (i + 1) := by
    rw [← hh4]; obtain ⟨o, ho, r⟩ := (hit₁.extBut hs₂.extBut (Ne.symm hne)).extBut hs₃.extBut (Ne.symm hne); exact ⟨o, Heap.get?_push_of_some _ ho, r⟩
  show wpAny _ _ (Builtin.SmallTypes.ownedTupleIsFree (.ref e) >>= _) _ _ ⟨h₄, g, d, tk + 1, os⟩
  rw [hsz]
  clear hh4 he3 hs₃ he2 hs₂ he1 hs₁ hit₁ hsz h₃ h₂ h₁
  refine wpAny_bind (enx_free he4 ?_ fun h₅ he5 hs5 => ?_)
  · simp only [if_true]
    obtain ⟨o1, b1, old1, h1, he4⟩ := he4
    refine wpAny_bind (wpAny_rule ?_)
    refine wpAny_bind (wpAny_field he4 rfl (x := old1) rfl ?_)
    refine wpAny_bind (wpAny_setField_rec he4 (by simp) fun h₅ he5 hs5 => ?_)
    replace hs5 : Heap.SameBut e h₄ h₅ := hs5
    show wpAny _ _ (Builtin.SmallTypes.ownedTupleHandOut (.ref e) (.ref hp.objs.size) >>= _) _ _ ⟨h₅, g, d, tk + 1, os⟩
    refine wpAny_bind ?_
    unfold Builtin.SmallTypes.ownedTupleHandOut
    refine wpAny_bind (wpAny_setField_rec he5 (by simp) fun h₆ he6 hs6 => ?_)
    replace hs6 : Heap.SameBut e h₅ h₆ := hs6
    refine wpAny_setField_rec he6 (by simp) fun h₇ he7 hs7 => ?_
    replace hs7 : Heap.SameBut e h₆ h₇ := hs7
    refine wpAny_bind (wpAny_letGo (wpAny_pure ⟨_, rfl, hQ h₇ ⟨rawInt hp.objs.size, .bool false, x, .inr ⟨_, rfl⟩, he7⟩ ?_ ?_ ?_ ?_⟩))
    · exact ((hit4.extBut hs5.extBut (Ne.symm hne)).extBut hs6.extBut (Ne.symm hne)).extBut hs7.extBut (Ne.symm hne)
    · exact hs7.extBut _ _ ne (hs6.extBut _ _ ne (hs5.extBut _ _ ne ht4))
    · rw [hs7.1, hs6.1, hs5.1, hz4]
    · exact fun b o hbe hbi hb => hs7.extBut b o hbe (hs6.extBut b o hbe (hs5.extBut b o hbe (hk4 b o hbe hbi hb)))
  · replace hs5 : Heap.SameBut e h₄ h₅ := hs5
    simp only [Bool.false_eq_true, if_false]
    refine wpAny_pure ⟨_, rfl, hQ h₅ he5 (hit4.extBut hs5.extBut (Ne.symm hne)) (hs5.extBut _ _ ne ht4) (by rw [hs5.1, hz4]) fun b o hbe hbi hb => hs5.extBut b o hbe (hk4 b o hbe hbi hb)⟩
theorem enx_pyNext {e it l : Addr} {i : Nat} {items : Array Value} {x : Value} {Q : Option Value → Shared → Prop}
    (he : EnX s.heap e it i) (hit : s.heap.IsListIter it l i) (hl : s.heap.IsList l items) (hx : items[i]? = some x) (hne : e ≠ it)
    (hQ : ∀ h', EnX h' e it ((i : Int) + 1) → h'.IsListIter it l (i + 1) → h'.get? s.heap.objs.size = some { cls := .type "tuple", data := .seq #[.int i s.toks, x] } → h'.objs.size = s.heap.objs.size + 1 →
      (∀ b o, b ≠ e → b ≠ it → s.heap.get? b = some o → h'.get? b = some o) → Q (some (.ref s.heap.objs.size)) { s with heap := h', toks := s.toks + 1 }) :
    wpAny (model prog w) A (pyNext (.ref e)) Q E s := by
  have hT : s.TypeIs (.ref e) "enumerate" := let ⟨_, _, _, _, q⟩ := he; ⟨_, q, rfl⟩
  unfold pyNext
  exact wpAny_bind (wpAny_attempt (wpAny_callSpecial?_slot (name := Str.ofString "__next__") hT F.slot_enumerate_next
    (wpAny_call_entry F.slot_enumerate_next hT F.entry_enumerate_next
      (enx_next he hit hl hx hne fun h' a b c d k => wpAny_pure (hQ h' a b c d k)) (F.args_enumerate_next_1 _))))
theorem enx_end {e it l : Addr} {i : Nat} {items : Array Value} {Q : Option Value → Shared → Prop} (hh : A.handled = none)
    (he : EnX s.heap e it i) (hit : s.heap.IsListIter it l i) (hl : s.heap.IsList l items) (hx : items[i]? = none)
    (hQ : ∀ h', Heap.ExtBut it s.heap h' → Q none { s with heap := h' }) : wpAny (model prog w) A (pyNext (.ref e)) Q E s := by
  obtain ⟨o0, b0, old, h0, he⟩ := he
  have hT : s.TypeIs (.ref e) "enumerate" := ⟨_, he, rfl⟩
  unfold pyNext
  refine wpAny_bind (wpAny_attempt (wpAny_callSpecial?_slot (name := Str.ofString "__next__") hT F.slot_enumerate_next
    (wpAny_call_entry F.slot_enumerate_next hT F.entry_enumerate_next ?_ (F.args_enumerate_next_1 _))))
  show wpAny _ _ (field (.ref e) 2 >>= _) _ _ _
  refine wpAny_bind (wpAny_field he rfl (x := .ref it) rfl ?_)
  refine wpAny_bind (wpAny_nextOf_list_end hh hit hl hx fun h' x he' hx' => ?_)
  obtain ⟨o, ho, hc⟩ := hx'
  refine wpAny_bind (wpAny_isInstance (T := "StopIteration") (b := true) ⟨o, ho, hc⟩ isSubtype_stop ?_)
  exact wpAny_pure (hQ _ he')
end
/-- the turns, each pair under one name -/
theorem turn_enx {P : Program} {w : World} {K : PySem.W.Frag} {x : Str} {px : Pos} (a e it : Addr) :
    Turn P w K (.Name x px) (Ite K a) [e, it] e (fun i h => EnX h e it ((i : Nat) : Int) ∧ h.IsListIter it a i ∧ e ≠ it) where
  mem := by simp
  obj := fun i h st b hb => by
    obtain ⟨⟨_, _, _, _, he⟩, ⟨o, ho, hc, hd⟩, _⟩ := st
    have e' : b = e ∨ b = it := by simpa using hb
    rcases e' with z | z
    · rw [z]; exact ⟨_, he, fun v q => nomatch q⟩
    · rw [z]; exact ⟨o, ho, fun v q => by rw [hd] at q; cases q⟩
  keep := fun i h h' st k => let ⟨⟨o0, b0, old, h0, he⟩, hi, hne⟩ := st; ⟨⟨o0, b0, old, h0, k e (by simp) _ he⟩, hi.at fun o q => k it (by simp) o q, hne⟩
  item := by
    intro X hP hw hK hc i pins s σ H E I hf st hg
    subst hP hw hK
    obtain ⟨he, hit, hne⟩ := st
    obtain ⟨xs, y, hq, hx⟩ := hg
    obtain ⟨its, rv, p, hz⟩ := I.list hq
    obtain ⟨u, hu, ru⟩ := rv.get hx
    have hel : e < s.heap.objs.size := by obtain ⟨_, _, _, _, q⟩ := he; exact Heap.lt_size q
    have hil : it < s.heap.objs.size := by obtain ⟨_, q, _⟩ := hit; exact Heap.lt_size q
    refine enx_pyNext he hit p.isList (x := u) (by simpa using hu) hne fun h' ho hit' hT hsz hk => ?_
    refine ⟨_, rfl, ?_⟩
    show wpAny _ _ (pure ()) _ _ _
    refine wpAny_pure ?_
    have new : ObjOk X.prog X.w (upd H s.heap.objs.size (.tup [.int (i : Nat), y])) h' s.heap.objs.size (.tup [.int (i : Nat), y]) :=
      ⟨by show 2 ≤ sizeLine; decide, [.int i s.toks, u], .cons ⟨_, rfl⟩ (.cons ru .nil), ⟨_, hT, rfl, _, rfl⟩⟩
    have I1 : Inv X pins σ (upd H s.heap.objs.size (.tup [.int (i : Nat), y])) { s with heap := h', toks := s.toks + 1 } :=
      I.turnedNew (ch := [e, it]) (fun b ob hb q => hk b ob (fun z => hb (by simp [z])) (fun z => hb (by simp [z])) q) hf (Nat.le_refl _) new
    refine ⟨.ref s.heap.objs.size, _, I1, rfl, ⟨_, y, rfl, I.hok.fresh (Nat.le_refl _), rfl, fun ys hy => by rw [I.list_inj hy hq]; exact hx⟩, ⟨?_, hit', hne⟩, fun b hb => ?_⟩
    · have e1 : ((i + 1 : Nat) : Int) = (i : Int) + 1 := by omega
      rw [e1]; exact ho
    · have hb' : b < s.heap.objs.size := by
        have e' : b = e ∨ b = it := by simpa using hb
        rcases e' with z | z
        · rw [z]; exact hel
        · rw [z]; exact hil
      rw [upd_ne (Nat.ne_of_lt hb')]
      exact (hf b hb).1
  done := by
    intro X hP hw hK hc i pins s σ H E I hf st hg
    subst hP hw hK
    obtain ⟨he, hit, hne⟩ := st
    obtain ⟨xs, hq, hx⟩ := hg
    obtain ⟨its, rv, p, hz⟩ := I.list hq
    obtain ⟨f0, f1, f2, f3, f4, f5⟩ := hf it (by simp)
    have hl := rv.length
    exact enx_end (I.ok.hd hc) he hit p.isList (by simp; omega) fun h' eb => ⟨rfl, I.turned (t' := s.toks) (fun b o hb q => eb b o hb q) f0 f1 f3 f4 f5⟩
  self := fun A i s Q E st h => by
    obtain ⟨⟨o0, b0, old, h0, he⟩, _⟩ := st
    have hT : s.TypeIs (.ref e) "enumerate" := ⟨_, he, rfl⟩
    refine wpAny_pyIter_slot hT F.slot_enumerate_iter (wpAny_call_entry F.slot_enumerate_iter hT F.entry_enumerate_iter ?_ (F.args_enumerate_iter_1 _))
    show wpAny _ _ (ret (.ref e)) _ _ s
    exact wpAny_pure ⟨_, rfl, "enumerate", _, hT, F.slot_enumerate_next.lookup, h⟩
theorem pi_enx {X : Cx} {e : Expr} {ta : TA} {p pos px : Pos} {x : Str} (hg : Gl X "enumerate") (hm : X.mg "enumerate" = none) (ha : PA X [e] ta) (hs : starEach [e] X.env = [(false, eval e X.env)] := by rfl) :
    PI X (.Name x px) (.Call (.Name "enumerate" p) [e] [] pos) (iEnum X.K ta) := by
  refine ⟨fun pins s σ H R I h => ?_⟩
  refine Call_ (ld_blt I hg hm boot_enumerate (PyProof.Rows.callWith_type1 (thn (ha.run pos pins s σ H _ I h) fun us s1 ⟨vs, H1, I1, r1, q1⟩ => ?_) hs rfl))
  obtain ⟨a, xs, ex, hq, q⟩ := q1
  subst ex
  cases r1 with
  | cons r rr =>
    cases rr
    cases r
    obtain ⟨its, rv, p', hz⟩ := I1.list hq
    refine call_enumerate_list p'.isList fun h' he hit hsz hk => wpAny_pyIter_enum he ?_
    have I2 : Inv X pins σ H1 { s1 with heap := h' } := I1.kept (t' := s1.toks) hk
    refine ⟨s1.heap.objs.size + 1, [s1.heap.objs.size + 1, s1.heap.objs.size], _, _, H1, rfl, I2, turn_enx a (s1.heap.objs.size + 1) s1.heap.objs.size, ⟨⟨.none, .bool false, .none, .inl rfl, he⟩, hit, Nat.succ_ne_self _⟩, fun b hb => ?_, q⟩
    have e' : b = s1.heap.objs.size + 1 ∨ b = s1.heap.objs.size := by simpa using hb
    have hle : s1.heap.objs.size ≤ b := by
      rcases e' with z | z
      · rw [z]; exact Nat.le_add_right _ _
      · rw [z]; exact Nat.le_refl _
    exact I1.fpOk hle (I1.hok.fresh hle)
theorem wi_enx {X : Cx} {sg : Sg} {M : Mem} {Qi : List D → (Mem → Prop) → Mem → Prop} {e : Expr} {p px pos : Pos} {x : Str} (hm : X.mg "enumerate" = none) (h : WA X [e] sg M fun xs M1 => ∃ x ds, xs = [x] ∧ LsD M1 x ds ∧ Qi (enumD ds) (fun M => LsD M x ds) M1) (hg : Gl X "enumerate" := by rfl) (hs : starEach [e] X.env = [(false, eval e X.env)] := by exact star1n rfl) : WI X (.Name x px) (.Call (.Name "enumerate" p) [e] [] pos) sg M Qi := ⟨_, pi_enx hg hm pa_w hs, fun σ H G R w s k => (h σ H G w s).imp fun vs H1 ⟨xs, G1, M1, st, w1, r1, x, ds, e, l1, q⟩ => by
  subst e
  obtain ⟨v, rfl, rv⟩ := r1.one
  obtain ⟨a, ys, rfl, h1, rx⟩ := l1.at w1 rv
  refine ⟨a, ys, rfl, SqL.of h1, k _ _ _ _ G1 M1 st w1 (fun G2 M2 H2 gx w2 l2 i => ?_) q⟩
  obtain ⟨b, zs, e, h2, rz⟩ := l2.at w2 (rv.mono gx)
  cases e
  have hl : (enumD ds).length = ds.length := by unfold enumD; rw [List.length_mapIdx]
  refine ⟨fun hi => ⟨zs, SqL.of h2, by rw [rz.length]; rw [hl] at hi; exact Nat.le_of_eq hi.symm⟩, fun d hd => ?_⟩
  obtain ⟨c, hc, ec⟩ : ∃ c, ds[i]? = some c ∧ d = .tup [.int (i : Int), c] := by
    unfold enumD at hd
    rw [List.getElem?_mapIdx] at hd
    cases e : ds[i]? with
    | none => rw [e] at hd; cases hd
    | some c => rw [e] at hd; exact ⟨c, rfl, (Option.some.inj hd).symm⟩
  subst ec
  obtain ⟨z, hz, rd⟩ := rz.get hc
  refine ⟨⟨zs, z, SqL.of h2, hz⟩, fun t H' ⟨T, y, e1, e2, e3, e4⟩ => ?_⟩
  subst e1; subst e3
  have e := (e4 zs (SqL.of h2)).symm.trans hz
  cases e
  exact new_pair w2 e2 (.int _) rd⟩
end DL
set_option Elab.async false
set_option linter.all false
set_option maxRecDepth 100000
set_option maxHeartbeats 4000000
/-! DLr: truth of ints and lists, x in a list, list.index, min of pairs, a comprehension's list that changes. -/
namespace DL
open PySem PySem.Spec L2 PyProof.Rows HT
/-! ### ints as data -/
theorem toPyA_int : ∀ ns : List Int, toPyA (ns.map D.int) = ns.map PyData.int
  | [] => rfl
  | n :: ns => congrArg (PyData.int n :: ·) (toPyA_int ns)
theorem plA_int : ∀ ns : List Int, plA (ns.map D.int) = true
  | [] => rfl
  | n :: ns => by
    show (pl (D.int n) && plA (ns.map D.int)) = true
    rw [plA_int ns]; rfl
theorem lay_int : ∀ ns : List Int, PyData.canLayAll0 (ns.map PyData.int) = true
  | [] => rfl
  | n :: ns => by
    show (PyData.canLay0 (.int n) && PyData.canLayAll0 (ns.map PyData.int)) = true
    rw [lay_int ns]; rfl
theorem depth_int : ∀ ns : List Int, PyData.depthAll (ns.map PyData.int) = 0
  | [] => rfl
  | n :: ns => by
    show max (PyData.depth (.int n)) (PyData.depthAll (ns.map PyData.int)) = 0
    rw [depth_int ns]; rfl
theorem shapedL_int (ns : List Int) : SeqAt.shaped (.list (ns.map PyData.int)) = true := by
  refine Bool.and_eq_true_iff.mpr ⟨lay_int ns, decide_eq_true ?_⟩
  show PyData.depthAll (ns.map PyData.int) + 1 ≤ 64
  rw [depth_int]
  decide
theorem pyd_ints {M : Mem} {x : D} {ns : List Int} (h : LsD M x (ns.map .int)) : PyD M x (.list (ns.map PyData.int)) := .inr ⟨_, h, plA_int ns, by rw [toPyA_int]⟩
theorem eqv_int (a b : Int) : PyData.eqv (.int a) (.int b) = decide (a = b) := by simp [PyData.eqv]; rfl
section
variable {X : Cx} {sg : Sg} {M : Mem} {K : PySem.W.Frag} {Q : D → Mem → Prop} {Qb : Bool → Mem → Prop}
/-! ### truth -/
theorem wt_tru {e : Expr} {Qa : D → Mem → Prop} (h : WE X e sg M Qa) (hk : ∀ d M1, Qa d M1 → ∃ k, (∀ G H v, Wd X.K G M1 H → Rp X.K G v d → TruV X.K v H k) ∧ Qb k M1) (he : ∀ whole, isTrue e X.env whole = (do let v ← whole; standAt e.pos; holding [v] (truthy v)) := by intro _; rfl) : WT X e sg M Qb :=
  WT.of (pt_truth pe_w he) fun σ H G w s => (h σ H G w s).imp fun v H1 ⟨d, G1, M1, st, w1, r1, q⟩ => by
    obtain ⟨k, hk1, hk2⟩ := hk d M1 q
    exact ⟨k, hk1 G1 H1 v w1 r1, G1, M1, st, w1, hk2⟩
theorem et_truI {e : Expr} {i : Int} (h : EE X e sg M (.int i)) (he : ∀ whole, isTrue e X.env whole = (do let v ← whole; standAt e.pos; holding [v] (truthy v)) := by intro _; rfl) : ET X e sg M (i != 0) := wt_tru h (fun d M1 ⟨e1, e2⟩ => ⟨_, fun G H v w r => by
  subst e1
  cases r
  rfl, rfl, e2⟩) he
theorem et_truL {e : Expr} {x : D} {ds : List D} (h : EE X e sg M x) (hl : LsD M x ds) (he : ∀ whole, isTrue e X.env whole = (do let v ← whole; standAt e.pos; holding [v] (truthy v)) := by intro _; rfl) : ET X e sg M (!ds.isEmpty) := wt_tru h (fun d M1 ⟨e1, e2⟩ => ⟨_, fun G H v w r => by
  subst e1; subst e2
  obtain ⟨a, xs, rfl, h1, r1⟩ := hl.at w r
  refine .inl ⟨xs, SqL.of h1, ?_⟩
  cases r1 <;> rfl, rfl, e2⟩) he
/-! ### in, index -/
theorem od_in {x y : D} {d : PyData} {ds : List PyData} (hx : PyD M x d) (hy : PyD M y (.list ds)) (sd : SeqAt.shaped d = true) (se : SeqAt.shaped (.list ds) = true) (q : Q (.bl (ds.any fun z => PyData.eqv z d)) M) : OpD K (rInD K) x y M Q := fun G H v u R w rx ry k =>
  ⟨d, ds, hx.dp w rx, hy.dp w ry, sd, se, k _ _ (PV.here w (.bl _) q)⟩
theorem md_index {x : D} {ns : List Int} {n : Int} {j : Nat} (h : LsD M x (ns.map .int)) (hj : ns[j]? = some n) (hf : ∀ m, m < j → ns[m]? ≠ some n) (q : Q (.int (j : Int)) M) : MtD K (rIndexD K) x [.int n] M Q := fun G H v vs R w rv rs k => by
  obtain ⟨u, rfl, ru⟩ := rs.one
  cases ru
  have hd := (pyd_ints h).dp w rv
  obtain ⟨a, xs, rfl, h1, r1⟩ := h.at w rv
  refine ⟨a, _, _, ns.map PyData.int, j, .int n, rfl, rfl, hd, .int n, shapedL_int ns, rfl, by rw [List.getElem?_map, hj]; rfl, by rw [eqv_int]; simp, fun m z' hm hz => ?_, k _ _ (PV.here w (.int _) q)⟩
  rw [List.getElem?_map] at hz
  cases e : ns[m]? with
  | none => rw [e] at hz; cases hz
  | some y =>
    rw [e] at hz
    have hz := Option.some.inj hz
    subst hz
    rw [eqv_int]
    refine decide_eq_false fun z => ?_
    rw [z] at e
    exact hf m hm e
/-! ### min of pairs -/
def lexI (p q : Int × Int) : Bool := decide (p.1 < q.1 ∨ (p.1 = q.1 ∧ p.2 < q.2))
def minP (p : Int × Int) (ps : List (Int × Int)) : Int × Int := ps.foldl (fun a y => if lexI y a then y else a) p
def pPy (p : Int × Int) : PyData := .tuple [.int p.1, .int p.2]
theorem minP_py (p : Int × Int) : ∀ ps : List (Int × Int), PySem.W.minD (pPy p) (ps.map pPy) = pPy (minP p ps) := by
  intro ps
  unfold PySem.W.minD minP
  induction ps generalizing p with
  | nil => rfl
  | cons q r ih =>
    rw [List.map_cons, List.foldl_cons, List.foldl_cons, ← ih]
    congr 1
    show (if PySem.W.dataLt (pPy q) (pPy p) = true then pPy q else pPy p) = _
    unfold pPy
    rw [PySem.W.dataLt_ii]
    unfold lexI
    split <;> rfl
theorem toPyA_pr : ∀ ps : List (Int × Int), toPyA (ps.map DL.pairD) = ps.map pPy
  | [] => rfl
  | p :: ps => congrArg (pPy p :: ·) (toPyA_pr ps)
theorem alike_pr (ps : List (Int × Int)) : PySem.W.AlikeAll (ps.map pPy) := by
  refine ⟨fun x hx y hy => ?_, fun x hx => ?_⟩
  · obtain ⟨p, _, rfl⟩ := List.mem_map.mp hx
    obtain ⟨q, _, rfl⟩ := List.mem_map.mp hy
    unfold pPy
    simp [PySem.W.alike, PySem.W.alikeAll]
  · obtain ⟨p, _, rfl⟩ := List.mem_map.mp hx
    intro z; cases z
def rMinP (K : PySem.W.Frag) : List V → Hp → VK → Prop := fun vs H Q => ∃ (a : Addr) (xs : List V) (p : Int × Int) (ps : List (Int × Int)), vs = [V.ref a] ∧ SqL K H a xs ∧ DpAll K H xs ((p :: ps).map pPy) ∧ ∀ (i : Nat) (v : V), xs[i]? = some v → (p :: ps)[i]? = some (minP p ps) → Q v H
theorem cr_minP (hc : X.calm = true) (hu : X.A.units + 65 < cLine) : CallR X (.builtin "min") (rMinP X.K) := by
  intro pins s σ H vs us Q I r h
  obtain ⟨a, xs, p, ps, rfl, hs, ha, q⟩ := h
  obtain ⟨its, rv, hl, _⟩ := I.list hs
  rw [Vals.ref1 r]
  obtain ⟨as, hr⟩ := Dp.readsAll I _ _ its ha rv
  rw [List.map_cons] at hr
  have dep : PyData.depthAll (pPy p :: ps.map pPy) ≤ 1 := by
    have gen : ∀ l : List (Int × Int), PyData.depthAll (l.map pPy) ≤ 1 := by
      intro l
      induction l with
      | nil => exact Nat.zero_le _
      | cons q l ih =>
        show max (PyData.depth (pPy q)) (PyData.depthAll (l.map pPy)) ≤ 1
        have : PyData.depth (pPy q) ≤ 1 := Nat.le_of_ble_eq_true rfl
        omega
    exact gen (p :: ps)
  refine PySem.W.min_list_data (I.ok.hd hc) hl.isList hr (alike_pr (p :: ps)) (by omega) fun i v h' tk bs hi hrd hk => ?_
  rw [minP_py] at hrd
  have hi : its[i]? = some v := by simpa using hi
  obtain ⟨y, hy, ry⟩ : ∃ y, xs[i]? = some y ∧ RelV y v := by
    have hlt := (List.getElem?_eq_some_iff.mp hi).1
    have hl2 := rv.length
    cases e : xs[i]? with
    | none => rw [List.getElem?_eq_none_iff] at e; omega
    | some y =>
      obtain ⟨u, hu, ru⟩ := rv.get e
      rw [hi] at hu
      cases hu
      exact ⟨y, rfl, ru⟩
  obtain ⟨bs2, rd2, hlt2, _, _⟩ := PySem.W.readsAll_at hr i v hi
  have rd3 := PySem.W.reads_keeps hk rd2
  have ee := (Reads.unique rd3 _ _ hrd).1
  have hpi : (p :: ps)[i]? = some (minP p ps) := by
    rw [← List.map_cons] at hlt2 ee
    have hlt3 : i < (p :: ps).length := by rw [List.length_map] at hlt2; exact hlt2
    rw [List.getD_eq_getElem?_getD, List.getElem?_map, List.getElem?_eq_getElem hlt3] at ee
    rw [List.getElem?_eq_getElem hlt3]
    have ee : pPy (p :: ps)[i] = pPy (minP p ps) := ee
    unfold pPy at ee
    simp at ee
    exact congrArg some (Prod.ext ee.1 ee.2)
  exact ⟨y, H, I.kept (t' := tk) hk, ry, q i y hy hpi⟩
theorem cd_minP {x : D} {p : Int × Int} {ps : List (Int × Int)} (h : LsD M x ((p :: ps).map DL.pairD)) (q : Q (DL.pairD (minP p ps)) M) : ClD K (rMinP K) [x] M Q := fun G H vs R w r k => by
  obtain ⟨v, rfl, rv⟩ := r.one
  obtain ⟨a, xs, rfl, h1, r1⟩ := h.at w rv
  refine ⟨a, xs, p, ps, rfl, SqL.of h1, ?_, fun i v hv hp => k _ _ ?_⟩
  · have := dp_all w.sub r1 (plA_pairs (p :: ps))
    rw [toPyA_pr] at this
    exact this
  · obtain ⟨d, hd, rd⟩ := r1.getV hv
    rw [List.getElem?_map, hp] at hd
    have hd := Option.some.inj hd
    subst hd
    exact PV.here w rd q
end
/-! ### a comprehension's list that changes -/
section
variable {X : Cx} {sg : Sg} {M : Mem} {K : PySem.W.Frag} {Q : D → Mem → Prop} {tg : Expr} {pos : Pos} {Qi : List D → (Mem → Prop) → Mem → Prop}
theorem Wd.adoptM {G H : Hp} {M : Mem} {p : Addr} {xs : List V} {ds : List D} (w : Wd K G M H) (h : H p = some (.lst xs)) (g : G p = none) (m : M p = none) (r : RpA K G xs ds) (hb : ∀ u, M.b.H p = some u → M.b.M p = none → False) : Wd K G (updM M p (some (.lst ds))) H := by
  refine ⟨w.sub, fun x mo e => ?_, fun x u e e2 => ?_⟩
  · by_cases hx : x = p
    · subst hx
      rw [updM_same] at e
      cases e
      exact ⟨g, xs, h, r⟩
    · rw [updM_ne hx] at e
      exact w.mem _ _ e
  · have hx : x ≠ p := fun z => by subst z; exact hb u e e2
    obtain ⟨h1, h2, h3⟩ := w.hist x u e e2
    exact ⟨h1, h2, by rw [updM_ne hx]; exact h3⟩
theorem lc_runM {elt : Expr} {ifs : List Expr} {scope : Scope} {vs : List Nat} {wi : TI} (hw : ∀ (σ : L2.St) (H G : Hp) (R : It → Hp → Prop), Wd X.K G M H → SRp X.K G sg σ → (∀ J H' ds C G' M', Stp G M H G' M' H' → Wd X.K G' M' H' → ItD X.K G' J ds C → Qi ds C M' → R J H') → wi σ H R)
    (hif : ifs.length ≤ 1) (h : ∀ ds C M0, Qi ds C M0 → ∃ Pv : Nat → List D → Mem → Prop, Pv 0 [] M0 ∧ (∀ i acc M1, Pv i acc M1 → C M1 ∧ acc.length < sizeLine) ∧ (∀ i d acc M1, ds[i]? = some d → Pv i acc M1 → LcTurn X scope vs tg elt ifs sg d M1 (fun y M3 => Pv (i + 1) (acc ++ [y]) M3) (fun M3 => Pv (i + 1) acc M3)) ∧ ∀ acc M1, Pv ds.length acc M1 → ∀ p, M1 p = none → Q (.ptr p) (updM M1 p (some (.lst acc))))
    {σ : L2.St} {H G : Hp} {R : VK} (w : Wd X.K G M H) (s : SRp X.K G sg σ) (k : ∀ v H', PV X.K G M H Q v H' → R v H') : tLc wi (gB X scope tg) (testsB X scope ifs) (teB X scope elt) vs σ H R := by
  refine hw σ H G _ w s fun J H0 ds C G0 M0 st0 w0 it q => fun p hp => ?_
  obtain ⟨Pv, p0, pC, turn, fin⟩ := h ds C M0 q
  obtain ⟨g0, m0⟩ := w0.free hp
  have s0 := s.mono (st0.gx w)
  have st1 : Stp G0 M0 H0 G0 M0 (upd H0 p (.lst [])) := ⟨fun x o e m => ⟨by rw [upd_ne (ne_of_none e hp)]; exact e, rfl, m⟩, rfl⟩
  have hf0 : ∀ u, M0.b.H p = some u → M0.b.M p = none → False := fun u e m => w0.fresh hp e m
  refine ⟨fun i m H1 => m = ds.length - i ∧ i ≤ ds.length ∧ ∃ G1 M1 acc xs, Stp G0 M0 H0 G1 M1 H1 ∧ Gx G0 G1 ∧ Wd X.K G1 M1 H1 ∧ H1 p = some (.lst xs) ∧ G1 p = none ∧ M1 p = none ∧ RpA X.K G1 xs acc ∧ Pv i acc M1, ⟨ds.length, rfl, Nat.zero_le _, G0, M0, [], [], st1, Gx.refl _, w0.other g0 m0 hf0, upd_same, g0, m0, .nil, p0⟩, ?_⟩
  rintro i m H1 ⟨rfl, hle, G1, M1, acc, xs, st1, gx1, w1, h1, g1, m1, ra, p1⟩
  obtain ⟨stop, go⟩ := it G1 M1 H1 gx1 w1 (pC _ _ _ p1).1 i
  by_cases hlt : i < ds.length
  · obtain ⟨go1, yld⟩ := go ds[i] (List.getElem?_eq_getElem hlt)
    refine .inr ⟨go1, fun H2 => ∃ G2 M2 acc2 xs2, Stp G0 M0 H0 G2 M2 H2 ∧ Gx G0 G2 ∧ Wd X.K G2 M2 H2 ∧ H2 p = some (.lst xs2) ∧ G2 p = none ∧ M2 p = none ∧ RpA X.K G2 xs2 acc2 ∧ Pv (i + 1) acc2 M2, fun H2 n => ⟨ds.length - (i + 1), by omega, rfl, hlt, n⟩, fun x H' hy => ?_⟩
    obtain ⟨G2, st2, w2, rx⟩ := yld x H' hy
    obtain ⟨h2, g2, _⟩ := st2.keep p _ h1 m1
    obtain ⟨is, sg2, hv, hg, QB, ht, he, hf⟩ := turn i ds[i] acc M1 (List.getElem?_eq_getElem hlt) p1
    have gx2 : Gx G1 G2 := st2.gx w1
    have sw : SRp X.K G2 (wipeD sg vs) (wipe σ vs) := wipe_rp (s0.mono (gx1.trans gx2)) vs
    have body : ∀ σ2 : L2.St, SRp X.K G2 sg2 σ2 → ∀ b H3, PB X.K G2 M1 H' QB b H3 → if b = true then teB X scope elt σ2 H3 (fun y H4 => ∃ acc, H4 p = some (.lst acc) ∧ acc.length < sizeLine ∧ ∃ G2 M2 acc2 xs2, Stp G0 M0 H0 G2 M2 (upd H4 p (.lst (acc ++ [y]))) ∧ Gx G0 G2 ∧ Wd X.K G2 M2 (upd H4 p (.lst (acc ++ [y]))) ∧ (upd H4 p (.lst (acc ++ [y]))) p = some (.lst xs2) ∧ G2 p = none ∧ M2 p = none ∧ RpA X.K G2 xs2 acc2 ∧ Pv (i + 1) acc2 M2)
        else ∃ G2 M2 acc2 xs2, Stp G0 M0 H0 G2 M2 H3 ∧ Gx G0 G2 ∧ Wd X.K G2 M2 H3 ∧ H3 p = some (.lst xs2) ∧ G2 p = none ∧ M2 p = none ∧ RpA X.K G2 xs2 acc2 ∧ Pv (i + 1) acc2 M2 := fun σ2 s2 b H3 ⟨G3, M3, st3, w3, q3⟩ => by
      obtain ⟨h3, g3, m3⟩ := st3.keep p _ h2 m1
      have gx3 : Gx G2 G3 := st3.gx w2
      cases b with
      | true =>
        rw [if_pos rfl]
        intro t H5 C5 cl fp
        refine (he M3 q3 t H5 C5 cl fp σ2 H3 G3 w3 (s2.mono gx3)).imp fun y H4 ⟨d, G4, M4, st4, w4, r4, q4⟩ => ?_
        obtain ⟨h4, g4, m4⟩ := st4.keep p _ h3 m3
        have gx4 : Gx G3 G4 := st4.gx w3
        have g4' : G4 p = none := by rw [g4, g3, g2, g1]
        have stA := ((st1.trans st2).trans st3).trans st4
        refine ⟨xs, h4, by rw [ra.length]; exact (pC _ _ _ p1).2, G4, M4, acc ++ [d], xs ++ [y], ⟨fun z o e m => ?_, stA.base⟩, gx1.trans (gx2.trans (gx3.trans gx4)), w4.other g4' m4 (by rw [stA.base]; exact hf0), upd_same, g4', m4, (ra.mono (gx2.trans (gx3.trans gx4))).append (.cons r4 .nil), q4⟩
        obtain ⟨a1, a2, a3⟩ := stA.keep z o e m
        exact ⟨by rw [upd_ne (ne_of_none e hp)]; exact a1, a2, a3⟩
      | false =>
        rw [if_neg Bool.false_ne_true]
        exact ⟨G3, M3, acc, xs, (st1.trans st2).trans st3, gx1.trans (gx2.trans gx3), w3, h3, by rw [g3, g2, g1], m3, ra.mono (gx2.trans gx3), hf M3 q3⟩
    intro t H5 C5 cl fp
    refine hg t H5 C5 cl fp (wipe σ vs) H' G2 M1 x _ w2 sw rx fun σ2 s2 l2 o2 => ⟨wipe_same hv l2 o2, ?_⟩
    match ifs, hif, ht with
    | [], _, ht => exact body σ2 s2 true H' ⟨G2, M1, Stp.refl, w2, ht t H5 C5 cl fp⟩
    | [c], _, ht => exact fun t H5 C5 cl fp => (ht t H5 C5 cl fp σ2 H' G2 w2 s2).imp fun b H3 q => body σ2 s2 b H3 q
    | _ :: _ :: _, hif, _ => exact absurd hif (by simp)
  · have e : i = ds.length := by omega
    subst e
    have wM := w1.adoptM (ds := acc) h1 g1 m1 ra (by rw [st1.base]; exact hf0)
    refine .inl ⟨stop rfl, k _ _ (PV.base st0 ⟨.ptr p, G1, updM M1 p (some (.lst acc)), ⟨fun z o e m => ?_, st1.base⟩, wM, .ptr p, fin acc M1 p1 p m1⟩)⟩
    obtain ⟨a1, a2, a3⟩ := st1.keep z o e m
    exact ⟨a1, a2, by rw [updM_ne (ne_of_none e hp)]; exact a3⟩
abbrev LcOkM (X : Cx) (scope : Scope) (vs : List Nat) (tg elt : Expr) (ifs : List Expr) (sg : Sg) (Qi : List D → (Mem → Prop) → Mem → Prop) (Q : D → Mem → Prop) : Prop :=
  ∀ ds C M0, Qi ds C M0 → ∃ Pv : Nat → List D → Mem → Prop, Pv 0 [] M0 ∧ (∀ i acc M1, Pv i acc M1 → C M1 ∧ acc.length < sizeLine) ∧ (∀ i d acc M1, ds[i]? = some d → Pv i acc M1 → LcTurn X scope vs tg elt ifs sg d M1 (fun y M3 => Pv (i + 1) (acc ++ [y]) M3) (fun M3 => Pv (i + 1) acc M3)) ∧ ∀ acc M1, Pv ds.length acc M1 → ∀ p, M1 p = none → Q (.ptr p) (updM M1 p (some (.lst acc)))
theorem ws_setLcM {E : EndsD} (i : Nat) {y : Str} {py : Pos} {iter elt : Expr} {ifs : List Expr} {scope : Scope} {spos : Pos} (own : List (Str × Nat)) (hc : X.calm = true) (hN : X.N.Nodup) (ok : BlkOk X.N X.env.scope scope own) (hi : WI X tg iter sg M Qi) (h : LcOkM X scope (own.map (·.2)) tg elt ifs sg Qi fun d M1 => E.nx (sg.set i (some d)) M1) (hif : ifs.length ≤ 1 := by decide)
    (hy : X.N[i]? = some y := by rfl) (hyl : X.env.scope.names.lookup y = some .local := by rfl) (hsw : swapsWith (.ListComp elt [⟨tg, iter, ifs, 0⟩] scope pos) (some (.Name y py)) spos.line X.env = pure true := by exact sw_true rfl rfl rfl (by decide +kernel)) (hs : ∀ x, foldedSetIterable iter X.env x = pure x := by intro _; rfl) : WS X (.Assign [.Name y py] (.ListComp elt [⟨tg, iter, ifs, 0⟩] scope pos) spos) sg M E := by
  obtain ⟨wi, pi, hw⟩ := hi
  refine WS.of (ps_setLc hc hN hy hyl hsw pi ok blk_pg (blk_pts hif) blk_pe hs) fun σ H G w s => lc_runM (Q := fun d M1 => E.nx (sg.set i (some d)) M1) hw hif h w s fun v H' q => ?_
  obtain ⟨d, G1, M1, st, w1, r1, q⟩ := q
  exact ⟨_, G1, M1, st, w1, (s.mono (st.gx w)).set i r1, q⟩
end
section
variable {X : Cx} {sg : Sg} {M : Mem} {E : EndsD} {pos : Pos}
theorem ws_par3 (i j l : Nat) {x y z : Str} {a b c : Expr} {px py pz pt : Pos} {kt k2 : Nat} {pt2 : Pos} (hc : X.calm = true) (hN : X.N.Nodup) (h : WA X [a, b, c] sg M fun ds M1 => ∃ d e f, ds = [d, e, f] ∧ E.nx (((sg.set i (some d)).set j (some e)).set l (some f)) M1) (hi : X.N[i]? = some x := by rfl) (hj : X.N[j]? = some y := by rfl) (hl : X.N[l]? = some z := by rfl) (hij : i ≠ j := by decide) (hil : i ≠ l := by decide) (hjl : j ≠ l := by decide)
    (hx : X.env.scope.names.lookup x = some .local := by rfl) (hy : X.env.scope.names.lookup y = some .local := by rfl) (hz : X.env.scope.names.lookup z = some .local := by rfl) (hw : swappedStores [.Tuple [.Name x px, .Name y py, .Name z pz] kt pt] (.Tuple [a, b, c] k2 pt2) X.env = pure (some [x, y, z]) := by rfl) (hs : swapsWithSole [.Tuple [.Name x px, .Name y py, .Name z pz] kt pt] (.Tuple [a, b, c] k2 pt2) pos.line X.env = pure false := by rfl) : WS X (.Assign [.Tuple [.Name x px, .Name y py, .Name z pz] kt pt] (.Tuple [a, b, c] k2 pt2) pos) sg M E :=
  WS.of (ps_par3 hc hN hi hj hl hij hil hjl hx hy hz pa_w hw hs) fun σ H G w s => (h σ H G w s).imp fun vs H1 ⟨ds, G1, M1, st, w1, r1, d, e, f, eq, q⟩ => by
    subst eq
    cases r1 with
    | cons r1 r2 =>
      obtain ⟨v, u, rfl, rv, ru⟩ := r2.two
      exact ⟨_, v, u, rfl, _, G1, M1, st, w1, (((s.mono (st.gx w)).set i r1).set j rv).set l ru, q⟩
end
end DL
set_option Elab.async false
set_option linter.all false
set_option maxRecDepth 100000
set_option maxHeartbeats 4000000
namespace DL
open PySem L2 PyProof.Rows PySem.Spec
/-! ### zip of a tuple, a list and a tuple of one length -/
def Itz3 (K : PySem.W.Frag) (a b c : Addr) (n : Nat) : It :=
  ⟨fun i H => ∃ (xs ys zs : List V) (x y z : V), (SqT K H a xs ∧ SqL K H b ys ∧ SqT K H c zs) ∧ (xs.length = n ∧ ys.length = n ∧ zs.length = n) ∧ xs[i]? = some x ∧ ys[i]? = some y ∧ zs[i]? = some z,
    fun i H v H' => ∃ T x y z, v = .ref T ∧ H T = none ∧ H' = upd H T (.tup [x, y, z]) ∧ (∀ xs, SqT K H a xs → xs[i]? = some x) ∧ (∀ ys, SqL K H b ys → ys[i]? = some y) ∧ ∀ zs, SqT K H c zs → zs[i]? = some z,
    fun i H => ∃ xs ys zs : List V, (SqT K H a xs ∧ SqL K H b ys ∧ SqT K H c zs) ∧ (xs.length = n ∧ ys.length = n ∧ zs.length = n) ∧ i = n⟩
theorem turn_zip3 {P : Program} {w : World} {K : PySem.W.Frag} {elts : List Expr} {kk : Nat} {tpos : Pos} {n : Nat} {a b c z TI TO i1 i2 i3 : Addr} (S : ZipSep3 z TI TO i1 i2 i3 [i1, a] [i2, b] [i3, c]) (ha : a ≠ i1) (hb : b ≠ i2) (hcc : c ≠ i3) :
    Turn P w K (.Tuple elts kk tpos) (Itz3 K a b c n) [z, TI, TO, i1, i2, i3] z (fun i h => IsZip h z TI TO .none ∧ IsTupOf3 h TI (.ref i1) (.ref i2) (.ref i3) ∧ (∃ x y u, IsTupOf3 h TO x y u) ∧ h.IsTupleIter i1 a i ∧ h.IsListIter i2 b i ∧ h.IsTupleIter i3 c i) where
  mem := by simp
  obj := fun i h st x hx => by
    obtain ⟨hz, hTI, ⟨x1, x2, x3, hTO⟩, ⟨o1, e1, _, d1⟩, ⟨o2, e2, _, d2⟩, ⟨o3, e3, _, d3⟩⟩ := st
    have e' : x = z ∨ x = TI ∨ x = TO ∨ x = i1 ∨ x = i2 ∨ x = i3 := by simpa using hx
    rcases e' with q | q | q | q | q | q
    · rw [q]; exact ⟨_, hz, fun v q => nomatch q⟩
    · rw [q]; exact ⟨_, hTI, fun v q => nomatch q⟩
    · rw [q]; exact ⟨_, hTO, fun v q => nomatch q⟩
    · rw [q]; exact ⟨o1, e1, fun v q => by rw [d1] at q; cases q⟩
    · rw [q]; exact ⟨o2, e2, fun v q => by rw [d2] at q; cases q⟩
    · rw [q]; exact ⟨o3, e3, fun v q => by rw [d3] at q; cases q⟩
  keep := fun i h h' st k => by
    obtain ⟨hz, hTI, ⟨x1, x2, x3, hTO⟩, h1, h2, h3⟩ := st
    exact ⟨k z (by simp) _ hz, k TI (by simp) _ hTI, ⟨x1, x2, x3, k TO (by simp) _ hTO⟩, h1.at fun o q => k i1 (by simp) o q, h2.at fun o q => k i2 (by simp) o q, h3.at fun o q => k i3 (by simp) o q⟩
  item := by
    intro X hP hw hK hc i pins s σ H E I hf st hg
    subst hP hw hK
    obtain ⟨hz, hTI, ⟨x1, x2, x3, hTO⟩, h1, h2, h3⟩ := st
    obtain ⟨xs, ys, zs, x, y, u, ⟨hqx, hqy, hqz⟩, _, hx, hy, hu⟩ := hg
    obtain ⟨its, rv, p, _⟩ := I.tuple hqx
    obtain ⟨its2, rv2, p2, _⟩ := I.list hqy
    obtain ⟨its3, rv3, p3, _⟩ := I.tuple hqz
    obtain ⟨u1, hu1, ru1⟩ := rv.get hx
    obtain ⟨u2, hu2, ru2⟩ := rv2.get hy
    obtain ⟨u3, hu3, ru3⟩ := rv3.get hu
    have hh : X.A.in1.handled = none := I.ok.hd hc
    have hzl : z < s.heap.objs.size := Heap.lt_size hz
    have lt1 := (List.getElem?_eq_some_iff.mp hu1).1
    have lt2 := (List.getElem?_eq_some_iff.mp hu2).1
    have lt3 := (List.getElem?_eq_some_iff.mp hu3).1
    refine wpAny_pyNext_zipD3_item S (Draws.tuple hh i1 a ha its.toArray) (Draws.list hh i2 b hb its2.toArray) (Draws.tuple hh i3 c hcc its3.toArray) hz hTI hTO ⟨h1, p⟩ ⟨h2, p2.isList⟩ ⟨h3, p3⟩ (by simpa using lt1) (by simpa using lt2) (by simpa using lt3) fun v1 v2 v3 h' tk q1 q2 q3 z' TO' s1 s2 s3 hT hsz hk => ?_
    have e1 : v1 = u1 := by simpa [hu1] using q1.symm
    have e2 : v2 = u2 := by simpa [hu2] using q2.symm
    have e3 : v3 = u3 := by simpa [hu3] using q3.symm
    subst e1; subst e2; subst e3
    refine ⟨_, rfl, wpAny_letOwnedTupleGo_zip (s := { s with heap := h', toks := tk }) z' fun h'' z'' sb => ?_⟩
    have hT2 : h''.get? s.heap.objs.size = some { cls := .type "tuple", data := .seq #[v1, v2, v3] } := (sb.2 _ (Nat.ne_of_gt hzl)).trans hT
    have new : ObjOk X.prog X.w (upd H s.heap.objs.size (.tup [x, y, u])) h'' s.heap.objs.size (.tup [x, y, u]) :=
      ⟨by show 3 ≤ sizeLine; decide, [v1, v2, v3], .cons ru1 (.cons ru2 (.cons ru3 .nil)), ⟨_, hT2, rfl, _, rfl⟩⟩
    have I1 : Inv X pins σ (upd H s.heap.objs.size (.tup [x, y, u])) { s with heap := h'', toks := tk } :=
      I.turnedNew (t' := tk) (ch := [z, TI, TO, i1, i2, i3]) (fun c o hb q => (sb.2 c (fun q' => hb (by simp [q']))).trans (hk c o (fun q' => hb (by simp [q'])) (fun q' => hb (by simp [q'])) (fun q' => hb (by simp [q'])) (fun q' => hb (by simp [q'])) (fun q' => hb (by simp [q'])) q)) hf (Nat.le_refl _) new
    refine ⟨.ref s.heap.objs.size, _, I1, rfl, ⟨_, x, y, u, rfl, I.hok.fresh (Nat.le_refl _), rfl, fun l hl => by rw [I.tuple_inj hl hqx]; exact hx, fun l hl => by rw [I.list_inj hl hqy]; exact hy, fun l hl => by rw [I.tuple_inj hl hqz]; exact hu⟩, ⟨z'', ?_, ⟨v1, v2, v3, ?_⟩, ?_, ?_, ?_⟩, fun c hcm => ?_⟩
    · exact (sb.2 _ S.TIz).trans (hk _ _ S.TIz S.TITO S.TIi1 S.TIi2 S.TIi3 hTI)
    · exact (sb.2 _ S.TOz).trans TO'
    · exact s1.1.at fun o q => (sb.2 _ (Ne.symm S.zi1)).trans q
    · exact s2.1.at fun o q => (sb.2 _ (Ne.symm S.zi2)).trans q
    · exact s3.1.at fun o q => (sb.2 _ (Ne.symm S.zi3)).trans q
    · have hlt : c < s.heap.objs.size := by
        have e' : c = z ∨ c = TI ∨ c = TO ∨ c = i1 ∨ c = i2 ∨ c = i3 := by simpa using hcm
        rcases e' with q | q | q | q | q | q
        · rw [q]; exact hzl
        · rw [q]; exact Heap.lt_size hTI
        · rw [q]; exact Heap.lt_size hTO
        · rw [q]; obtain ⟨_, e1, _⟩ := h1; exact Heap.lt_size e1
        · rw [q]; obtain ⟨_, e2, _⟩ := h2; exact Heap.lt_size e2
        · rw [q]; obtain ⟨_, e3, _⟩ := h3; exact Heap.lt_size e3
      rw [upd_ne (Nat.ne_of_lt hlt)]
      exact (hf c hcm).1
  done := by
    intro X hP hw hK hc i pins s σ H E I hf st hg
    subst hP hw hK
    obtain ⟨hz, hTI, ⟨x1, x2, x3, hTO⟩, h1, h2, h3⟩ := st
    obtain ⟨xs, ys, zs, ⟨hqx, hqy, hqz⟩, ⟨lx, ly, lz⟩, hend⟩ := hg
    obtain ⟨its, rv, p, _⟩ := I.tuple hqx
    obtain ⟨its2, rv2, p2, _⟩ := I.list hqy
    obtain ⟨its3, rv3, p3, _⟩ := I.tuple hqz
    have hh : X.A.in1.handled = none := I.ok.hd hc
    have l1 := rv.length
    have l2 := rv2.length
    have l3 := rv3.length
    refine wpAny_pyNext_zipD3_end S (Draws.tuple hh i1 a ha its.toArray) (Draws.list hh i2 b hb its2.toArray) (Draws.tuple hh i3 c hcc its3.toArray) hz hTI hTO ⟨h1, p⟩ ⟨h2, p2.isList⟩ ⟨h3, p3⟩ (by simp; omega) (by simp; omega) (by simp; omega) (.inl (by simp; omega)) fun h' tk hk => ⟨rfl, I.turnedL (t' := tk) (ch := [z, TI, TO, i1, i2, i3]) (fun c o hb q =>
      hk c o (fun q' => hb (by simp [q'])) (fun q' => hb (by simp [q'])) (fun q' => hb (by simp [q'])) (fun q' => hb (by simp [q'])) (fun q' => hb (by simp [q'])) q) hf⟩
  self := fun A i s Q E st h => wpAny_pyIter_zip st.1 h
def iZip3 (K : PySem.W.Frag) (ta : TA) : TI := fun σ H R => ta σ H fun vs H1 => ∃ a b c xs ys zs n, vs = [.ref a, .ref b, .ref c] ∧ (SqT K H1 a xs ∧ SqL K H1 b ys ∧ SqT K H1 c zs) ∧ R (Itz3 K a b c n) H1
theorem pi_zip3 {X : Cx} {e e2 e3 : Expr} {ta : TA} {p pos tpos : Pos} {elts : List Expr} {kk : Nat} (hg : Gl X "zip") (hm : X.mg "zip" = none) (ha : PA X [e, e2, e3] ta)
    (hs : starEach [e, e2, e3] X.env = (false, eval e X.env) :: starEach [e2, e3] X.env := by rfl) (hpl : (backTo pos (starEach [e2, e3] X.env)).any (·.1) = false := by rfl) :
    PI X (.Tuple elts kk tpos) (.Call (.Name "zip" p) [e, e2, e3] [] pos) (iZip3 X.K ta) := by
  refine ⟨fun pins s σ H R I h => ?_⟩
  refine Call_ (ld_blt I hg hm PyProof.Rows.boot_zip (PyProof.Rows.callWith_type1 (thn (ha.run pos pins s σ H _ I h) fun us s1 ⟨vs, H1, I1, r1, q1⟩ => ?_) hs hpl))
  obtain ⟨a, b, c, xs, ys, zs, n, ex, ⟨hqx, hqy, hqz⟩, q⟩ := q1
  subst ex
  cases r1 with
  | cons r rr =>
    cases rr with
    | cons r' rr =>
      cases rr with
      | cons r'' rr =>
        cases rr
        cases r
        cases r'
        cases r''
        obtain ⟨its, rv, p1, _⟩ := I1.tuple hqx
        obtain ⟨its2, rv2, p2, _⟩ := I1.list hqy
        obtain ⟨its3, rv3, p3, _⟩ := I1.tuple hqz
        obtain ⟨o1, ho1, _⟩ := id p1
        obtain ⟨o3, ho3, _⟩ := id p3
        have la := Heap.lt_size ho1
        have lb : b < s1.heap.objs.size := p2.lt
        have lc := Heap.lt_size ho3
        refine zip_begins3 (begins_tuple a its.toArray) (begins_list b its2.toArray) (begins_tuple c its3.toArray) p1 p2.isList p3 fun h' hz hTI hTO g1 g2 g3 hsz hk => wpAny_pyIter_zip hz ?_
        have I2 : Inv X pins σ H1 { s1 with heap := h' } := I1.kept (t' := s1.toks) fun c o e => hk c o e
        refine ⟨s1.heap.objs.size + 5, [s1.heap.objs.size + 5, s1.heap.objs.size + 3, s1.heap.objs.size + 4, s1.heap.objs.size, s1.heap.objs.size + 1, s1.heap.objs.size + 2], _, _, H1, rfl, I2, turn_zip3 (zip_sep3 (by simpa using la) (by simpa using lb) (by simpa using lc)) (Nat.ne_of_lt la) (Nat.ne_of_lt (Nat.lt_succ_of_lt lb)) (Nat.ne_of_lt (Nat.lt_succ_of_lt (Nat.lt_succ_of_lt lc))), ⟨hz, hTI, ⟨_, _, _, hTO⟩, ⟨_, g1, rfl, rfl⟩, ⟨_, g2, rfl, rfl⟩, ⟨_, g3, rfl, rfl⟩⟩, fun x hx => ?_, q⟩
        have e' : x = s1.heap.objs.size + 5 ∨ x = s1.heap.objs.size + 3 ∨ x = s1.heap.objs.size + 4 ∨ x = s1.heap.objs.size ∨ x = s1.heap.objs.size + 1 ∨ x = s1.heap.objs.size + 2 := by simpa using hx
        have hle : s1.heap.objs.size ≤ x := by
          rcases e' with z | z | z | z | z | z
          · rw [z]; exact Nat.le_add_right _ _
          · rw [z]; exact Nat.le_add_right _ _
          · rw [z]; exact Nat.le_add_right _ _
          · rw [z]; exact Nat.le_refl _
          · rw [z]; exact Nat.le_add_right _ _
          · rw [z]; exact Nat.le_add_right _ _
        exact I1.fpOk hle (I1.hok.fresh hle)
def zip3D (ds gs es : List D) : List D := (List.range gs.length).map fun i => .tup [ds.getD i .non, gs.getD i .non, es.getD i .non]
section
variable {X : Cx} {sg : Sg} {M : Mem} {K : PySem.W.Frag} {Q : D → Mem → Prop} {tg : Expr} {pos : Pos} {Qi : List D → (Mem → Prop) → Mem → Prop}
theorem new_trip {G1 H1 : Hp} {M1 : Mem} {T : Addr} {x y z : V} {d e f : D} (w : Wd K G1 M1 H1) (hT : H1 T = none) (rx : Rp K G1 x d) (ry : Rp K G1 y e) (rz : Rp K G1 z f) : ∃ G', Stp G1 M1 H1 G' M1 (upd H1 T (.tup [x, y, z])) ∧ Wd K G' M1 (upd H1 T (.tup [x, y, z])) ∧ Rp K G' (.ref T) (.tup [d, e, f]) := by
  obtain ⟨w', st⟩ := w.new hT (o := .tup [x, y, z])
  exact ⟨_, st, w', .tup (.of upd_same) (RpA.mono (gx_new w hT) (.cons rx (.cons ry (.cons rz .nil))))⟩
theorem at_getD {ds : List D} {i : Nat} {d : D} (h : ds[i]? = some d) : ds.getD i .non = d := by rw [List.getD_eq_getElem?_getD, h]; rfl
theorem wi_zip3 {e e2 e3 : Expr} {p tpos : Pos} {elts : List Expr} {kk : Nat} (hm : X.mg "zip" = none) (h : WA X [e, e2, e3] sg M fun xs M1 => ∃ ds y gs es, xs = [.tup ds, y, .tup es] ∧ LsD M1 y gs ∧ ds.length = gs.length ∧ es.length = gs.length ∧ Qi (zip3D ds gs es) (fun M => LsD M y gs) M1) (hg : Gl X "zip" := by rfl)
    (hs : starEach [e, e2, e3] X.env = (false, eval e X.env) :: starEach [e2, e3] X.env := by exact star1 rfl) (hpl : (backTo pos (starEach [e2, e3] X.env)).any (·.1) = false := by exact starN rfl) : WI X (.Tuple elts kk tpos) (.Call (.Name "zip" p) [e, e2, e3] [] pos) sg M Qi := ⟨_, pi_zip3 hg hm pa_w hs hpl, fun σ H G R w s k => (h σ H G w s).imp fun vs H1 ⟨xs, G1, M1, st, w1, r1, ds, y, gs, es, e, l1, n1, n2, q⟩ => by
  subst e
  cases r1 with
  | cons ra r1 =>
    obtain ⟨v, u, rfl, rv, ru⟩ := r1.two
    cases ra with
    | @tup a xs _ h1 rx =>
      cases ru with
      | @tup c zs _ h3 rz =>
        obtain ⟨b, ys, rfl, h2, ry⟩ := l1.at w1 rv
        refine ⟨a, b, c, xs, ys, zs, gs.length, rfl, ⟨h1.sq w1.sub, SqL.of h2, h3.sq w1.sub⟩, k _ _ _ _ G1 M1 st w1 (fun G2 M2 H2 gx w2 l2 i => ?_) q⟩
        obtain ⟨b', ys', e, h2', ry2⟩ := l2.at w2 (rv.mono gx)
        cases e
        have g1 : SqT X.K H2 a xs := h1.sq (gx.trans w2.sub)
        have g3 : SqT X.K H2 c zs := h3.sq (gx.trans w2.sub)
        have rx2 := rx.mono gx
        have rz2 := rz.mono gx
        have hzl : (zip3D ds gs es).length = gs.length := by unfold zip3D; rw [List.length_map, List.length_range]
        refine ⟨fun hi => ⟨xs, ys', zs, ⟨g1, SqL.of h2', g3⟩, ⟨by rw [rx2.length, n1], ry2.length, by rw [rz2.length, n2]⟩, by rw [hi, hzl]⟩, fun d hd => ?_⟩
        have hi : i < gs.length := by
          have := (List.getElem?_eq_some_iff.mp hd).1
          rw [hzl] at this
          exact this
        have ea : ds[i]? = some ds[i] := List.getElem?_eq_getElem (by omega)
        have eb : gs[i]? = some gs[i] := List.getElem?_eq_getElem hi
        have ec : es[i]? = some es[i] := List.getElem?_eq_getElem (by omega)
        have ed : d = .tup [ds[i], gs[i], es[i]] := by
          unfold zip3D at hd
          rw [List.getElem?_map, List.getElem?_range hi] at hd
          have hd : d = .tup [ds.getD i .non, gs.getD i .non, es.getD i .non] := (Option.some.inj hd).symm
          rw [at_getD ea, at_getD eb, at_getD ec] at hd
          exact hd
        subst ed
        obtain ⟨z1, hz1, rd1⟩ := rx2.get ea
        obtain ⟨z2, hz2, rd2⟩ := ry2.get eb
        obtain ⟨z3, hz3, rd3⟩ := rz2.get ec
        refine ⟨⟨xs, ys', zs, z1, z2, z3, ⟨g1, SqL.of h2', g3⟩, ⟨by rw [rx2.length, n1], ry2.length, by rw [rz2.length, n2]⟩, hz1, hz2, hz3⟩, fun t H' ⟨T, y1, y2, y3, e1, e2, e3, e4, e5, e6⟩ => ?_⟩
        subst e1; subst e3
        have q1 := (e4 xs g1).symm.trans hz1
        have q2 := (e5 ys' (SqL.of h2')).symm.trans hz2
        have q3 := (e6 zs g3).symm.trans hz3
        cases q1; cases q2; cases q3
        exact new_trip w2 e2 rd1 rd2 rd3⟩
/-! ### ints and None as data -/
def opD : Option Nat → D
  | none => .non
  | some n => .int (n : Int)
def opPy : Option Nat → PyData
  | none => .none
  | some n => .int (n : Int)
theorem toPyA_op : ∀ l : List (Option Nat), toPyA (l.map opD) = l.map opPy
  | [] => rfl
  | none :: l => congrArg (PyData.none :: ·) (toPyA_op l)
  | some n :: l => congrArg (PyData.int (n : Int) :: ·) (toPyA_op l)
theorem plA_op : ∀ l : List (Option Nat), plA (l.map opD) = true
  | [] => rfl
  | none :: l => plA_op l
  | some n :: l => plA_op l
theorem lay_op : ∀ l : List (Option Nat), PyData.canLayAll0 (l.map opPy) = true
  | [] => rfl
  | none :: l => by
    show (PyData.canLay0 .none && PyData.canLayAll0 (l.map opPy)) = true
    rw [lay_op l]; rfl
  | some n :: l => by
    show (PyData.canLay0 (.int n) && PyData.canLayAll0 (l.map opPy)) = true
    rw [lay_op l]; rfl
theorem depth_op : ∀ l : List (Option Nat), PyData.depthAll (l.map opPy) = 0
  | [] => rfl
  | none :: l => by
    show max (PyData.depth .none) (PyData.depthAll (l.map opPy)) = 0
    rw [depth_op l]; rfl
  | some n :: l => by
    show max (PyData.depth (.int n)) (PyData.depthAll (l.map opPy)) = 0
    rw [depth_op l]; rfl
theorem shapedL_op (l : List (Option Nat)) : SeqAt.shaped (.list (l.map opPy)) = true := by
  refine Bool.and_eq_true_iff.mpr ⟨lay_op l, decide_eq_true ?_⟩
  show PyData.depthAll (l.map opPy) + 1 ≤ 64
  rw [depth_op]
  decide
theorem pyd_ops {M : Mem} {x : D} {l : List (Option Nat)} (h : LsD M x (l.map opD)) : PyD M x (.list (l.map opPy)) := .inr ⟨_, h, plA_op l, by rw [toPyA_op]⟩
theorem eqv_op (o : Option Nat) (n : Nat) : PyData.eqv (opPy o) (.int (n : Int)) = decide (o = some n) := by
  cases o with
  | none => rfl
  | some m =>
    show PyData.eqv (.int (m : Int)) (.int (n : Int)) = _
    rw [eqv_int]
    exact decide_eq_decide.mpr ⟨fun h => by rw [Int.ofNat.inj h], fun h => by rw [Option.some.inj h]⟩
theorem md_indexO {x : D} {l : List (Option Nat)} {n : Nat} {j : Nat} (h : LsD M x (l.map opD)) (hj : l[j]? = some (some n)) (hf : ∀ m, m < j → l[m]? ≠ some (some n)) (q : Q (.int (j : Int)) M) : MtD K (rIndexD K) x [.int (n : Int)] M Q := fun G H v vs R w rv rs k => by
  obtain ⟨u, rfl, ru⟩ := rs.one
  cases ru
  have hd := (pyd_ops h).dp w rv
  obtain ⟨a, xs, rfl, h1, r1⟩ := h.at w rv
  refine ⟨a, _, _, l.map opPy, j, .int n, rfl, rfl, hd, .int n, shapedL_op l, rfl, by rw [List.getElem?_map, hj]; rfl, by rw [eqv_int]; simp, fun m z' hm hz => ?_, k _ _ (PV.here w (.int _) q)⟩
  rw [List.getElem?_map] at hz
  cases e : l[m]? with
  | none => rw [e] at hz; cases hz
  | some y =>
    rw [e] at hz
    have hz := Option.some.inj hz
    subst hz
    rw [eqv_op]
    exact decide_eq_false fun z => hf m hm (by rw [e, z])
end
section
variable {X : Cx} {scope : Scope} {elt : Expr} {sg : Sg} {x y z : Str} {px py pz pt : Pos} {kt : Nat}
/-- a turn whose target is three names -/
theorem turn3 (i j l : Nat) {ifs : List Expr} {vs : List Nat} {a b c : D} {M1 : Mem} {QT : D → Mem → Prop} {QF : Mem → Prop} (hv : i ∈ vs) (hw : j ∈ vs) (hu : l ∈ vs) (hc : X.calm = true) (hN : X.N.Nodup) (hx : scope.names.lookup x = some .local ∨ scope.names.lookup x = some .cell) (hi : X.N[i]? = some x) (hy : scope.names.lookup y = some .local ∨ scope.names.lookup y = some .cell) (hj : X.N[j]? = some y) (hz : scope.names.lookup z = some .local ∨ scope.names.lookup z = some .cell) (hl : X.N[l]? = some z)
    (QB : Bool → Mem → Prop) (ht : Blk X scope fun Y => WTs Y ifs ((((wipeD sg vs).set i (some a)).set j (some b)).set l (some c)) M1 QB) (he : ∀ M2, QB true M2 → Blk X scope fun Y => WE Y elt ((((wipeD sg vs).set i (some a)).set j (some b)).set l (some c)) M2 QT) (hf : ∀ M2, QB false M2 → QF M2) : LcTurn X scope vs (.Tuple [.Name x px, .Name y py, .Name z pz] kt pt) elt ifs sg (.tup [a, b, c]) M1 QT QF := by
  refine ⟨[i] ++ ([j] ++ ([l] ++ [])), (((wipeD sg vs).set i (some a)).set j (some b)).set l (some c), fun r hr => ?_, fun s H C cl fp => wg_tup hc (wgs_cons (blk_name (vs := vs) i hN hx hi s H C cl fp) (wgs_cons (blk_name (vs := vs) j hN hy hj s H C cl fp) (wgs_cons (blk_name (vs := vs) l hN hz hl s H C cl fp) wgs_nil))), QB, ht, he, hf⟩
  simp only [List.cons_append, List.nil_append, List.mem_cons, List.not_mem_nil, or_false] at hr
  rcases hr with rfl | rfl | rfl
  · exact hv
  · exact hw
  · exact hu
end
end DL
set_option Elab.async false
set_option linter.all false
set_option maxRecDepth 100000
set_option maxHeartbeats 4000000
namespace DL
open PySem L2 PyProof.Rows
def fst3 : D → D
  | .tup (a :: _) => a
  | _ => .non
def snd3 : D → D
  | .tup (_ :: b :: _) => b
  | _ => .non
def thd3 : D → D
  | .tup (_ :: _ :: c :: _) => c
  | _ => .non
section
variable {X : Cx} {scope : Scope} {iter elt : Expr} {sg : Sg} {M : Mem} {ds : List D} {x y z : Str} {px py pz pt pos : Pos} {kt : Nat} {K : PySem.W.Frag} {Q : D → Mem → Prop}
/-- [elt for x, y, z in iter] -/
theorem ee_lc3 (i j r : Nat) (f : D → D → D → D) (hc : X.calm = true) (hN : X.N.Nodup) (hi : WI X (.Tuple [.Name x px, .Name y py, .Name z pz] kt pt) iter sg M (ItQ ds M)) (hz : ds.length < sizeLine) (h : ∀ (l : Nat) (d : D), ds[l]? = some d → ∃ a b c, d = .tup [a, b, c] ∧ Blk X scope fun Y => EE Y elt ((((wipeD sg [i, j, r]).set i (some a)).set j (some b)).set r (some c)) M (f a b c))
    (ok : BlkOk X.N X.env.scope scope [(x, i), (y, j), (z, r)] := by exact blkOk_by (by with_unfolding_all rfl)) (hx : scope.names.lookup x = some .local ∨ scope.names.lookup x = some .cell := by first | exact Or.inl rfl | exact Or.inr rfl) (hy : scope.names.lookup y = some .local ∨ scope.names.lookup y = some .cell := by first | exact Or.inl rfl | exact Or.inr rfl) (hzz : scope.names.lookup z = some .local ∨ scope.names.lookup z = some .cell := by first | exact Or.inl rfl | exact Or.inr rfl) (hs : ∀ x, foldedSetIterable iter X.env x = pure x := by intro _; rfl) : EE X (.ListComp elt [⟨.Tuple [.Name x px, .Name y py, .Name z pz] kt pt, iter, [], 0⟩] scope pos) sg M (.lst (ds.map fun d => f (fst3 d) (snd3 d) (thd3 d))) := by
  refine we_lc [(x, i), (y, j), (z, r)] hc hN ok hi (fun ds' C M0 ⟨e1, e2, hC⟩ => ?_) (Nat.zero_le _) hs
  subst e1; subst e2
  refine ⟨fun l acc M1 => l ≤ ds'.length ∧ acc = (ds'.take l).map (fun d => f (fst3 d) (snd3 d) (thd3 d)) ∧ M1 = M0, ⟨Nat.zero_le _, rfl, rfl⟩, fun l acc M1 ⟨hj, e1, e2⟩ => ?_, fun l d acc M1 hd ⟨hj, e1, e2⟩ => ?_, fun acc M1 ⟨_, e1, e2⟩ => ?_⟩
  · subst e1; subst e2
    refine ⟨hC, ?_⟩
    rw [List.length_map, List.length_take]
    omega
  · subst e1; subst e2
    obtain ⟨a, b, c, ed, hb⟩ := h l d hd
    subst ed
    refine turn3 i j r (by simp) (by simp) (by simp) hc hN hx (ok.ix (x, i) (by simp)) hy (ok.ix (y, j) (by simp)) hzz (ok.ix (z, r) (by simp)) (fun b M2 => b = true ∧ M2 = M1) (fun _ _ _ _ _ => ⟨rfl, rfl⟩) (fun M2 ⟨_, e⟩ => ?_) (fun M2 ⟨e, _⟩ => Bool.noConfusion e)
    subst e
    exact fun s H C cl fp => (hb s H C cl fp).imp fun z M3 ⟨e3, e4⟩ => ⟨(List.getElem?_eq_some_iff.mp hd).1, by rw [e3, List.take_add_one, hd, List.map_append]; rfl, e4⟩
  · rw [List.take_length] at e1
    subst e1
    exact ⟨rfl, e2⟩
theorem od_repM {x : D} {ds : List D} {i : Int} (hx : LsD M x ds) (h1 : -(2 ^ 63) ≤ i) (h2 : i < 2 ^ 63) (h3 : ds.length * i.toNat ≤ sizeLine) (q : ∀ p, M p = none → Q (.ptr p) (updM M p (some (.lst (List.replicate i.toNat ds).flatten)))) : OpD K rRep x (.int i) M Q := fun G H v u R w rx ry k => by
  cases ry
  obtain ⟨a, xs, rfl, e1, r1⟩ := hx.at w rx
  exact ⟨a, i, xs, rfl, rfl, e1, h1, h2, by rw [r1.length]; exact h3, fun p hp => k _ _ (new_lstM w hp (r1.rep _) q)⟩
end
end DL
set_option Elab.async false
set_option linter.all false
set_option maxRecDepth 100000
set_option maxHeartbeats 4000000
namespace DL
open PySem L2 PyProof.Rows
/-! ### dicts whose keys are tuples of ints -/
def gt (kvs : List (List Int × D)) (k : List Int) : Option D := (kvs.find? fun p => decide (p.1 = k)).map (·.2)
def pt (kvs : List (List Int × D)) (k : List Int) (d : D) : List (List Int × D) := if kvs.any (fun p => decide (p.1 = k)) then kvs.map fun p => if p.1 = k then (p.1, d) else p else kvs ++ [(k, d)]
def inlK (ks : List Int) : List Key := ks.map Sum.inl
theorem inlK_kV (ks : List Int) : (inlK ks).map kV = ks.map V.int := by
  unfold inlK
  rw [List.map_map]
  rfl
theorem inlK_inj {a b : List Int} (h : inlK a = inlK b) : a = b := by
  have := congrArg (fun l => l.map kV) h
  rw [inlK_kV, inlK_kV] at this
  have i : ∀ x y : Int, V.int x = V.int y → x = y := fun x y e => by cases e; rfl
  exact List.map_inj_right (fun x y e => i x y e) |>.mp this
section
variable {K : PySem.W.Frag} {G : Hp}
theorem gt_rp : ∀ {kvs : List (List Int × D)} {vs : List (List Key × V)} (k : List Int), KVd K G vs (kvs.map fun p => (inlK p.1, p.2)) → (gt kvs k = none ∧ valV vs (inlK k) = none) ∨ ∃ d v, gt kvs k = some d ∧ valV vs (inlK k) = some v ∧ Rp K G v d
  | [], [], k, _ => .inl ⟨rfl, rfl⟩
  | [], _ :: _, k, h => by have := congrArg List.length h.1; simp at this
  | _ :: _, [], k, h => by have := congrArg List.length h.1; simp at this
  | p :: kvs, q :: vs, k, h => by
    obtain ⟨h1, h2⟩ := h
    have e1 : q.1 = inlK p.1 := (List.cons.inj h1).1
    have e2 := (List.cons.inj h1).2
    cases h2 with
    | cons r rs =>
      by_cases e : p.1 = k
      · right
        exact ⟨p.2, q.2, by unfold gt; rw [List.find?_cons_of_pos (by simpa using e)]; rfl, by unfold valV; rw [List.find?_cons_of_pos (by simp [e1, e])]; rfl, r⟩
      · have ne : ¬ q.1 = inlK k := fun z => e (inlK_inj (e1.symm.trans z))
        have := gt_rp (kvs := kvs) (vs := vs) k ⟨e2, rs⟩
        have g1 : gt (p :: kvs) k = gt kvs k := by unfold gt; rw [List.find?_cons_of_neg (by simpa using e)]
        have g2 : valV (q :: vs) (inlK k) = valV vs (inlK k) := by unfold valV; rw [List.find?_cons_of_neg (by simpa using ne)]
        rw [g1, g2]
        exact this
theorem any_rp {k : List Int} : ∀ {kvs : List (List Int × D)} {vs : List (List Key × V)}, vs.map (·.1) = kvs.map (fun p => inlK p.1) → (vs.any fun q => decide (q.1 = inlK k)) = kvs.any fun p => decide (p.1 = k)
  | [], [], _ => rfl
  | [], _ :: _, h => by simp at h
  | _ :: _, [], h => by simp at h
  | p :: kvs, q :: vs, h => by
    have e1 : q.1 = inlK p.1 := (List.cons.inj h).1
    have e2 := (List.cons.inj h).2
    rw [List.any_cons, List.any_cons, any_rp e2]
    congr 1
    refine decide_eq_decide.mpr ?_
    rw [e1]
    exact ⟨inlK_inj, fun z => by rw [z]⟩
theorem keys_in (kvs : List (List Int × D)) : (kvs.map fun p => (inlK p.1, p.2)).map (·.1) = kvs.map fun p => inlK p.1 := by rw [List.map_map]; rfl
theorem vals_in (kvs : List (List Int × D)) : (kvs.map fun p => (inlK p.1, p.2)).map (·.2) = kvs.map (·.2) := by rw [List.map_map]; rfl
theorem rep_rp {k : List Int} {v : V} {d : D} (r : Rp K G v d) : ∀ {kvs : List (List Int × D)} {vs : List (List Key × V)}, vs.map (·.1) = kvs.map (fun p => inlK p.1) → RpA K G (vs.map (·.2)) (kvs.map (·.2)) → (vs.map fun q => if q.1 = inlK k then (q.1, v) else q).map (·.1) = (kvs.map fun p => if p.1 = k then (p.1, d) else p).map (fun p => inlK p.1) ∧ RpA K G ((vs.map fun q => if q.1 = inlK k then (q.1, v) else q).map (·.2)) ((kvs.map fun p => if p.1 = k then (p.1, d) else p).map (·.2))
  | [], [], _, _ => ⟨rfl, .nil⟩
  | [], _ :: _, h, _ => by simp at h
  | _ :: _, [], h, _ => by simp at h
  | p :: kvs, q :: vs, h, h2 => by
    have e1 : q.1 = inlK p.1 := (List.cons.inj h).1
    have e2 := (List.cons.inj h).2
    cases h2 with
    | cons r0 rs =>
      obtain ⟨a, b⟩ := rep_rp (k := k) r e2 rs
      by_cases e : p.1 = k
      · have e' : q.1 = inlK k := by rw [e1, e]
        rw [List.map_cons, List.map_cons, List.map_cons, List.map_cons, List.map_cons, List.map_cons, if_pos e, if_pos e', a]
        exact ⟨by rw [e1], .cons r b⟩
      · have ne : ¬ q.1 = inlK k := fun z => e (inlK_inj (e1.symm.trans z))
        rw [List.map_cons, List.map_cons, List.map_cons, List.map_cons, List.map_cons, List.map_cons, if_neg e, if_neg ne, a]
        exact ⟨by rw [e1], .cons r0 b⟩
theorem pt_rp {kvs : List (List Int × D)} {vs : List (List Key × V)} {k : List Int} {v : V} {d : D} (h : KVd K G vs (kvs.map fun p => (inlK p.1, p.2))) (r : Rp K G v d) : KVd K G (putK vs (inlK k) v) ((pt kvs k d).map fun p => (inlK p.1, p.2)) := by
  obtain ⟨h1, h2⟩ := h
  rw [keys_in] at h1
  rw [vals_in] at h2
  have ha := any_rp (k := k) h1
  unfold KVd
  rw [keys_in, vals_in]
  unfold putK pt
  rw [ha]
  by_cases c : (kvs.any fun p => decide (p.1 = k)) = true
  · rw [if_pos c, if_pos c]
    exact rep_rp r h1 h2
  · rw [if_neg c, if_neg c, List.map_append, List.map_append, List.map_append, List.map_append, h1]
    exact ⟨rfl, h2.append (.cons r .nil)⟩
end
section
variable {X : Cx} {sg : Sg} {M : Mem} {o i e k v : Expr} {pos pos' : Pos} {Q : D → Mem → Prop} {E : EndsD}
/-- the tuple's own reading -/
theorem tup_at {K : PySem.W.Frag} {G H : Hp} {M : Mem} {u : V} {ks : List Int} (w : Wd K G M H) (r : Rp K G u (.tup (ks.map .int))) : ∃ b, u = .ref b ∧ H b = some (.tup ((inlK ks).map kV)) := by
  cases r with
  | @tup a xs _ h r =>
    have := r.ints
    subst this
    exact ⟨a, rfl, by rw [inlK_kV]; exact w.sub _ _ h.int⟩
theorem dit_at {K : PySem.W.Frag} {G H : Hp} {M : Mem} {p : Addr} {kvs : List (List Int × D)} (w : Wd K G M H) (hm : M p = some (.dit kvs)) : ∃ vs : List (List Key × V), H p = some (.dT vs) ∧ KVd K G vs (kvs.map fun q => (inlK q.1, q.2)) := (w.mem _ _ hm).2
/-- d[k] -/
theorem we_dget (hu : X.A.units + 1 < cLine) (h : WE X o sg M fun x M1 => WE X i sg M1 fun y M2 => ∃ p kvs ks d, x = .ptr p ∧ y = .tup (ks.map .int) ∧ M2 p = some (.dit kvs) ∧ gt kvs ks = some d ∧ Q d M2) (hs : NoSl i := by intro _ _; rfl) : WE X (.Subscript o i pos) sg M Q :=
  WE.of (pe_dget hu pe_w pe_w hs) fun σ H G w s => (h σ H G w s).imp fun x H1 ⟨dx, G1, M1, st, w1, r1, q1⟩ => (q1 σ H1 G1 w1 (s.mono (st.gx w))).imp fun u H2 ⟨dy, G2, M2, st2, w2, r2, p, kvs, ks, d, e1, e2, hm, hg, q⟩ => by
    subst e1; subst e2
    cases r1
    obtain ⟨b, rfl, hb⟩ := tup_at w2 r2
    obtain ⟨vs, hH, kv⟩ := dit_at w2 hm
    rcases gt_rp ks kv with ⟨z, _⟩ | ⟨d', v', g1, g2, r⟩
    · rw [hg] at z; cases z
    · rw [hg] at g1
      cases g1
      exact ⟨p, v', rfl, by rw [← g2]; exact DGet.t hH hb, d, G2, M2, st.trans st2, w2, r, q⟩
/-- k in d, k not in d -/
theorem we_din (hu : X.A.units + 1 < cLine) (h : WE X i sg M fun y M1 => WE X o sg M1 fun x M2 => ∃ p kvs ks, x = .ptr p ∧ y = .tup (ks.map .int) ∧ M2 p = some (.dit kvs) ∧ Q (.bl (gt kvs ks).isSome) M2) (hm : behindInMarks .In o = false := by first | exact nomark _ | rfl) : WE X (.Compare i [.In] [o] pos) sg M Q :=
  WE.of (pe_cmp (pc_din hu pe_w pe_w) hm) fun σ H G w s => (h σ H G w s).imp fun y H1 ⟨dy, G1, M1, st, w1, r1, q1⟩ => (q1 σ H1 G1 w1 (s.mono (st.gx w))).imp fun x H2 ⟨dx, G2, M2, st2, w2, r2, p, kvs, ks, e1, e2, hm, q⟩ => by
    subst e1; subst e2
    cases r2
    obtain ⟨b, rfl, hb⟩ := tup_at w2 (r1.mono (st2.gx w1))
    obtain ⟨vs, hH, kv⟩ := dit_at w2 hm
    refine ⟨p, valV vs (inlK ks), rfl, DGet.t hH hb, .bl (gt kvs ks).isSome, G2, M2, st.trans st2, w2, ?_, q⟩
    rcases gt_rp ks kv with ⟨z1, z2⟩ | ⟨d', v', g1, g2, r⟩
    · rw [z1, z2]; exact .bl _
    · rw [g1, g2]; exact .bl _
theorem we_dnin (hu : X.A.units + 1 < cLine) (h : WE X i sg M fun y M1 => WE X o sg M1 fun x M2 => ∃ p kvs ks, x = .ptr p ∧ y = .tup (ks.map .int) ∧ M2 p = some (.dit kvs) ∧ Q (.bl (!(gt kvs ks).isSome)) M2) (hm : behindInMarks .NotIn o = false := by first | exact nomark _ | rfl) : WE X (.Compare i [.NotIn] [o] pos) sg M Q :=
  WE.of (pe_cmp (pc_dnotin hu pe_w pe_w) hm) fun σ H G w s => (h σ H G w s).imp fun y H1 ⟨dy, G1, M1, st, w1, r1, q1⟩ => (q1 σ H1 G1 w1 (s.mono (st.gx w))).imp fun x H2 ⟨dx, G2, M2, st2, w2, r2, p, kvs, ks, e1, e2, hm, q⟩ => by
    subst e1; subst e2
    cases r2
    obtain ⟨b, rfl, hb⟩ := tup_at w2 (r1.mono (st2.gx w1))
    obtain ⟨vs, hH, kv⟩ := dit_at w2 hm
    refine ⟨p, valV vs (inlK ks), rfl, DGet.t hH hb, .bl (!(gt kvs ks).isSome), G2, M2, st.trans st2, w2, ?_, q⟩
    rcases gt_rp ks kv with ⟨z1, z2⟩ | ⟨d', v', g1, g2, r⟩
    · rw [z1, z2]; exact .bl _
    · rw [g1, g2]; exact .bl _
/-- d[k] = e -/
theorem ws_dput (hu : X.A.units + 1 < cLine) (h : WE X e sg M fun z M1 => WE X o sg M1 fun x M2 => WE X i sg M2 fun y M3 => ∃ p kvs ks, x = .ptr p ∧ y = .tup (ks.map .int) ∧ M3 p = some (.dit kvs) ∧ kvs.length < sizeLine ∧ E.nx sg (updM M3 p (some (.dit (pt kvs ks z))))) (hs : swapsWith e (some (.Subscript o i pos')) pos.line X.env = pure false := by rfl) : WS X (.Assign [.Subscript o i pos'] e pos) sg M E :=
  WS.of (ps_dput hu pe_w pe_w pe_w hs) fun σ H G w s => (h σ H G w s).imp fun z H1 ⟨dz, G1, M1, st, w1, r1, q1⟩ => (q1 σ H1 G1 w1 (s.mono (st.gx w))).imp fun x H2 ⟨dx, G2, M2, st2, w2, r2, q2⟩ => (q2 σ H2 G2 w2 (s.mono ((st.trans st2).gx w))).imp fun y H3 ⟨dy, G3, M3, st3, w3, r3, p, kvs, ks, e1, e2, hm, hl, q⟩ => by
    subst e1; subst e2
    have r2' := r2.mono (st3.gx w2)
    cases r2'
    obtain ⟨b, rfl, hb⟩ := tup_at w3 r3
    obtain ⟨vs, hH, kv⟩ := dit_at w3 hm
    have hlen : vs.length = kvs.length := by
      have := congrArg List.length kv.1
      rw [keys_in, List.length_map, List.length_map] at this
      exact this
    obtain ⟨w', stw⟩ := w3.write hm (o := .dT (putK vs (inlK ks) z)) (mo := .dit (pt kvs ks dz)) ⟨_, upd_same, pt_rp kv (r1.mono ((st2.trans st3).gx w1))⟩
    exact ⟨p, _, rfl, DPut.t hH hb (by omega), sg, G3, _, (((st.trans st2).trans st3).trans stw), w', s.mono ((((st.trans st2).trans st3).trans stw).gx w), q⟩
/-- {k: v} -/
def tDispT1 (tk tv : TE) : TE := fun σ H Q => ∀ p, H p = none → tk σ (upd H p (.dT [])) fun x H1 => tv σ H1 fun y H2 => ∃ b ks, x = .ref b ∧ H2 p = some (.dT []) ∧ H2 b = some (.tup (ks.map kV)) ∧ Q (.ref p) (upd H2 p (.dT [(ks, y)]))
theorem pe_dispT1 {tk tv : TE} (hu : X.A.units + 1 < cLine) (hk : PE X k tk) (hv : PE X v tv) : PE X (.Dict [some k] [v] pos) (tDispT1 tk tv) := by
  refine ⟨fun pins s σ H Q I q => ?_⟩
  have hn := I.hok.fresh (Nat.le_refl s.heap.objs.size)
  have I1 := I.laid (a := s.heap.objs.size) (o := .dT []) (h' := s.heap.push { cls := .type "dict", data := .dict #[] }) (t' := s.toks) (fun _ _ q => Heap.get?_push_of_some _ q) (Nat.le_refl _) (dt_empty s.heap I.big)
  have hz := zip_pairTrees [some k] [v] X.env pos rfl rfl
  rw [arm_eval_Dict, hz, dictDisplay_pairs (pairTrees [some k] [v] X.env pos) (by intro z; cases z) (Nat.le_of_ble_eq_true rfl)]
  refine wpAny_bind (wpAny_standAt (wpAny_bind (wpAny_subDictH (knd := tupleKind (mixKind X.prog X.w)) (Q := fun d s' => wpAny (model X.prog X.w) X.A (pure (Value.ref d)) (EP X pins σ Q) X.xe s') (by show X.A.units < cLine; omega) (Nat.le_of_ble_eq_true rfl) ?_)))
  refine pairTrees_cons_walk (thn (hk.run pins _ σ _ _ I1 (q _ hn)) fun u s1 ⟨x, H1, I2, rx, q1⟩ => thn (hv.run pins s1 σ H1 _ I2 q1) fun u2 s2 ⟨y, H2, I3, ry, b, ks, e1, e2, e3, q2⟩ => pairTrees_nil_walk ?_)
  subst e1
  obtain rfl : u = Value.ref b := rx
  obtain ⟨z, hd, xs, rel, dd⟩ := dt_of I3.hok e2
  cases rel
  refine ⟨[(ks, b, u2)], ⟨rfl, rfl, key_of I3.hok e3, trivial⟩, dd, fun h' tk dd' hs => wpAny_pure ⟨.ref s.heap.objs.size, _, ?_, rfl, q2⟩⟩
  obtain ⟨qo, es, ep, hq, h2, h3, h4, _, h5⟩ := dd'
  refine d_write I3 (by rw [e2]; exact True.intro) hs ⟨qo, hq⟩ ⟨by show 1 ≤ sizeLine; decide, hd, [(ks, b, u2)], .cons ⟨rfl, ?_, ry⟩ .nil, qo, es, ep, hq, h2, h3, h4, h5⟩
  rw [upd_ne (ne_of e3 e2 (fun z => nomatch z))]
  exact e3
theorem we_dnew (hu : X.A.units + 1 < cLine) (h : ∀ p, M p = none → WE X k sg (updM M p (some (.dit []))) fun x M1 => WE X v sg M1 fun y M2 => ∃ ks, x = .tup (ks.map .int) ∧ M2 p = some (.dit []) ∧ Q (.ptr p) (updM M2 p (some (.dit [(ks, y)])))) : WE X (.Dict [some k] [v] pos) sg M Q :=
  WE.of (pe_dispT1 hu pe_w pe_w) fun σ H G w s => fun p hp => by
    obtain ⟨g0, m0⟩ := w.free hp
    obtain ⟨w0, st0⟩ := w.newM hp (o := .dT []) (mo := .dit []) ⟨[], upd_same, rfl, .nil⟩
    refine (h p m0 σ _ G w0 (s.mono (st0.gx w))).imp fun x H1 ⟨dx, G1, M1, st1, w1, r1, q1⟩ => (q1 σ H1 G1 w1 (s.mono ((st0.trans st1).gx w))).imp fun y H2 ⟨dy, G2, M2, st2, w2, r2, ks, e1, hm, q⟩ => ?_
    subst e1
    obtain ⟨b, rfl, hb⟩ := tup_at w2 (r1.mono (st2.gx w1))
    obtain ⟨vs, hH, kv⟩ := dit_at w2 hm
    have hv : vs = [] := by
      have := congrArg List.length kv.1
      rw [List.length_map] at this
      exact List.length_eq_zero_iff.mp this
    subst hv
    obtain ⟨w', stw⟩ := w2.write hm (o := .dT [(inlK ks, y)]) (mo := .dit [(ks, dy)]) ⟨_, upd_same, rfl, .cons r2 .nil⟩
    exact ⟨b, inlK ks, rfl, hH, hb, .ptr p, G2, _, (((st0.trans st1).trans st2).trans stw), w', .ptr p, q⟩
/-- < of tuples of ints -/
theorem od_ltT {K : PySem.W.Frag} {ns ms : List Int} (q : Q (.bl (HT.lexLt ns ms)) M) : OpD K (rLtT K) (.tup (ns.map .int)) (.tup (ms.map .int)) M Q := fun G H v u R w rx ry k => by
  cases rx with
  | @tup a xs _ h1 r1 =>
    cases ry with
    | @tup b ys _ h2 r2 =>
      have e1 := r1.ints
      have e2 := r2.ints
      subst e1; subst e2
      exact ⟨a, b, ns, ms, rfl, rfl, h1.sq w.sub, h2.sq w.sub, k _ _ (PV.here w (.bl _) q)⟩
end
end DL
set_option Elab.async false
set_option linter.all false
set_option maxRecDepth 100000
set_option maxHeartbeats 4000000
namespace DL
open PySem L2 PyProof.Rows
def d4 (i : Nat) : D → D
  | .tup ds => ds.getD i .non
  | _ => .non
section
variable {X : Cx} {scope : Scope} {iter elt c : Expr} {sg : Sg} {M : Mem} {ds : List D} {x y z u : Str} {px py pz pu pt pos : Pos} {kt : Nat}
/-- [elt for x, y, z, u in iter if c] -/
theorem ee_lc4if (i j r l : Nat) (p : D → Bool) (f : D → D) (hc : X.calm = true) (hN : X.N.Nodup) (hi : WI X (.Tuple [.Name x px, .Name y py, .Name z pz, .Name u pu] kt pt) iter sg M (ItQ ds M)) (hz : ds.length < sizeLine)
    (h : ∀ (m : Nat) (d : D), ds[m]? = some d → ∃ a b e g, d = .tup [a, b, e, g] ∧ (Blk X scope fun Y => ET Y c (((((wipeD sg [i, j, r, l]).set i (some a)).set j (some b)).set r (some e)).set l (some g)) M (p d)) ∧ (p d = true → Blk X scope fun Y => EE Y elt (((((wipeD sg [i, j, r, l]).set i (some a)).set j (some b)).set r (some e)).set l (some g)) M (f d)))
    (ok : BlkOk X.N X.env.scope scope [(x, i), (y, j), (z, r), (u, l)] := by exact blkOk_by (by with_unfolding_all rfl)) (hx : scope.names.lookup x = some .local ∨ scope.names.lookup x = some .cell := by first | exact Or.inl rfl | exact Or.inr rfl) (hy : scope.names.lookup y = some .local ∨ scope.names.lookup y = some .cell := by first | exact Or.inl rfl | exact Or.inr rfl) (hzz : scope.names.lookup z = some .local ∨ scope.names.lookup z = some .cell := by first | exact Or.inl rfl | exact Or.inr rfl) (hu : scope.names.lookup u = some .local ∨ scope.names.lookup u = some .cell := by first | exact Or.inl rfl | exact Or.inr rfl) (hs : ∀ x, foldedSetIterable iter X.env x = pure x := by intro _; rfl) : EE X (.ListComp elt [⟨.Tuple [.Name x px, .Name y py, .Name z pz, .Name u pu] kt pt, iter, [c], 0⟩] scope pos) sg M (.lst ((ds.filter p).map f)) := by
  refine we_lc [(x, i), (y, j), (z, r), (u, l)] hc hN ok hi (fun ds' C M0 ⟨e1, e2, hC⟩ => ?_) (Nat.le_refl _) hs
  subst e1; subst e2
  obtain ⟨Pv, a, b, t, d⟩ := lc_pure (X := X) (tg := .Tuple [.Name x px, .Name y py, .Name z pz, .Name u pu] kt pt) (elt := elt) (ifs := [c]) (scope := scope) (vs := [i, j, r, l]) (sg := sg) (C := C) (M0 := M0) p f hC hz fun m d hd => by
    obtain ⟨a, b, e, g, ed, h1, h2⟩ := h m d hd
    subst ed
    refine ⟨[i] ++ ([j] ++ ([r] ++ ([l] ++ []))), ((((wipeD sg [i, j, r, l]).set i (some a)).set j (some b)).set r (some e)).set l (some g), fun q hq => by simpa using hq, fun s H C cl fp => wg_tup hc (wgs_cons (blk_name (vs := [i, j, r, l]) i hN hx (ok.ix (x, i) (by simp)) s H C cl fp) (wgs_cons (blk_name (vs := [i, j, r, l]) j hN hy (ok.ix (y, j) (by simp)) s H C cl fp) (wgs_cons (blk_name (vs := [i, j, r, l]) r hN hzz (ok.ix (z, r) (by simp)) s H C cl fp) (wgs_cons (blk_name (vs := [i, j, r, l]) l hN hu (ok.ix (u, l) (by simp)) s H C cl fp) wgs_nil)))), ?_, h2⟩
    exact h1
  exact ⟨Pv, a, b, t, fun acc M1 hp => by
    obtain ⟨e1, e2⟩ := d acc M1 hp
    subst e1
    exact ⟨rfl, e2⟩⟩
end
end DL
set_option Elab.async false
set_option linter.all false
set_option maxRecDepth 100000
set_option maxHeartbeats 4000000
namespace DL
open PySem L2 PyProof.Rows
section
variable {prog : Program} {w : World} {A : Around} {E : Value → Shared → Prop} {s : Shared} {l : Addr} {its : List Value} {ns : List Int}
theorem sum_rawT {Q : Value → Shared → Prop} (hh : A.handled = none) (hl : s.heap.IsTuple l its.toArray) (hi : IntsAre its ns)
    (h : ∀ h' tk t', (∀ b o, s.heap.get? b = some o → h'.get? b = some o) → Q (.int ns.sum t') { s with heap := h', toks := tk }) : wpAny (model prog w) A (call (.builtin "sum") [.ref l]) Q E s := by
  obtain ⟨xs, e⟩ := hi.allInts.items
  have hn : numsOf (intItems xs).toList = ns := by rw [← e]; exact hi.numsOf
  rw [nums_intItems] at hn
  rw [e] at hl
  have hlt : l < s.heap.objs.size := by obtain ⟨_, e, _⟩ := hl; exact Heap.lt_size e
  refine call_sum_walkG (wpAny_pyIter_tuple hl ?_)
  refine ⟨_, _, _, _, _, _, numAt xs, rfl, Walks.tuple (A := A.in1) hh s.heap.objs.size l (Nat.ne_of_lt hlt) (intItems xs), ⟨⟨_, Heap.get?_push_size _ rfl, rfl, rfl⟩, hl.at fun o e => Heap.get?_push_of_some _ e⟩, fun b hb => ?_, (fun _ _ => intItems_at), fun h' tk t' hk => ?_⟩
  · show b < (s.heap.push _).objs.size
    rw [Heap.size_push]
    rcases List.mem_cons.mp hb with rfl | hb
    · exact Nat.lt_succ_self _
    · rw [List.mem_singleton.mp hb]
      exact Nat.lt_succ_of_lt hlt
  · have := h h' tk t' fun b o e => hk b o (fun hm => by
      have hb := List.mem_singleton.mp hm
      have := Heap.lt_size e
      rw [hb] at this
      exact Nat.lt_irrefl _ this) (Heap.get?_push_of_some _ e)
    rw [← hn] at this
    have hz : (intItems xs).size = xs.size := by simp [intItems]
    rw [hz, preSum_eq, List.take_of_length_le (by simp)]
    exact this
end
def rSumT (K : PySem.W.Frag) : List V → Hp → VK → Prop := fun vs H Q => ∃ (a : Addr) (ns : List Int), vs = [V.ref a] ∧ SqT K H a (ns.map V.int) ∧ Q (.int ns.sum) H
section
variable {X : Cx}
theorem cr_sumT (hc : X.calm = true) : CallR X (.builtin "sum") (rSumT X.K) := by
  intro pins s σ H vs us Q I r h
  obtain ⟨a, ns, rfl, hs, q⟩ := h
  obtain ⟨its, rv, hl, _⟩ := I.tuple hs
  rw [Vals.ref1 r]
  exact sum_rawT (I.ok.hd hc) hl rv.ints fun h' tk t' hk => ⟨.int _, H, I.kept hk, ⟨_, rfl⟩, q⟩
theorem cd_sumT {K : PySem.W.Frag} {M : Mem} {Q : D → Mem → Prop} {ns : List Int} (q : Q (.int ns.sum) M) : ClD K (rSumT K) [.tup (ns.map .int)] M Q := fun G H vs R w r k => by
  obtain ⟨v, rfl, rv⟩ := r.one
  cases rv with
  | @tup a xs _ h1 r1 =>
    have e1 := r1.ints
    subst e1
    exact ⟨a, ns, rfl, h1.sq w.sub, k _ _ (PV.here w (.int _) q)⟩
end
end DL
set_option Elab.async false
set_option linter.all false
set_option maxRecDepth 100000
set_option maxHeartbeats 4000000
namespace DL
open PySem L2 PyProof.Rows
section
variable {X : Cx} {sg : Sg} {M : Mem} {o i : Expr} {pos : Pos} {Qb : Bool → Mem → Prop}
/-! ### k in d, k not in d, as tests -/
theorem wt_din (hu : X.A.units + 1 < cLine) (h : WE X i sg M fun y M1 => WE X o sg M1 fun x M2 => ∃ p kvs ks, x = .ptr p ∧ y = .tup (ks.map .int) ∧ M2 p = some (.dit kvs) ∧ Qb (gt kvs ks).isSome M2) (hm : behindInMarks .In o = false := by first | exact nomark _ | rfl) : WT X (.Compare i [.In] [o] pos) sg M Qb :=
  WT.of (pt_cmp (pc_din hu pe_w pe_w) hm) fun σ H G w s => (h σ H G w s).imp fun y H1 ⟨dy, G1, M1, st, w1, r1, q1⟩ => (q1 σ H1 G1 w1 (s.mono (st.gx w))).imp fun x H2 ⟨dx, G2, M2, st2, w2, r2, p, kvs, ks, e1, e2, hm, q⟩ => by
    subst e1; subst e2
    cases r2
    obtain ⟨b, rfl, hb⟩ := tup_at w2 (r1.mono (st2.gx w1))
    obtain ⟨vs, hH, kv⟩ := dit_at w2 hm
    refine ⟨p, valV vs (inlK ks), rfl, DGet.t hH hb, (gt kvs ks).isSome, ?_, G2, M2, st.trans st2, w2, q⟩
    rcases gt_rp ks kv with ⟨z1, z2⟩ | ⟨d', v', g1, g2, r⟩
    · rw [z1, z2]; rfl
    · rw [g1, g2]; rfl
theorem wt_dnin (hu : X.A.units + 1 < cLine) (h : WE X i sg M fun y M1 => WE X o sg M1 fun x M2 => ∃ p kvs ks, x = .ptr p ∧ y = .tup (ks.map .int) ∧ M2 p = some (.dit kvs) ∧ Qb (!(gt kvs ks).isSome) M2) (hm : behindInMarks .NotIn o = false := by first | exact nomark _ | rfl) : WT X (.Compare i [.NotIn] [o] pos) sg M Qb :=
  WT.of (pt_cmp (pc_dnotin hu pe_w pe_w) hm) fun σ H G w s => (h σ H G w s).imp fun y H1 ⟨dy, G1, M1, st, w1, r1, q1⟩ => (q1 σ H1 G1 w1 (s.mono (st.gx w))).imp fun x H2 ⟨dx, G2, M2, st2, w2, r2, p, kvs, ks, e1, e2, hm, q⟩ => by
    subst e1; subst e2
    cases r2
    obtain ⟨b, rfl, hb⟩ := tup_at w2 (r1.mono (st2.gx w1))
    obtain ⟨vs, hH, kv⟩ := dit_at w2 hm
    refine ⟨p, valV vs (inlK ks), rfl, DGet.t hH hb, !(gt kvs ks).isSome, ?_, G2, M2, st.trans st2, w2, q⟩
    rcases gt_rp ks kv with ⟨z1, z2⟩ | ⟨d', v', g1, g2, r⟩
    · rw [z1, z2]; rfl
    · rw [g1, g2]; rfl
end
theorem updM_comm {M : Mem} {a b : Addr} {o o' : Option MO} (h : a ≠ b) : updM (updM M a o) b o' = updM (updM M b o') a o := by
  refine Mem.ext ?_ rfl
  funext q
  show (if q = b then o' else if q = a then o else M.f q) = if q = a then o else if q = b then o' else M.f q
  by_cases h1 : q = b
  · rw [if_pos h1]
    by_cases h2 : q = a
    · exact absurd (h2.symm.trans h1) h
    · rw [if_neg h2, if_pos h1]
  · rw [if_neg h1, if_neg h1]
theorem lt_big {m : Nat} (h : m < 9000000) : m < sizeLine := Nat.lt_of_lt_of_le h (by decide)
end DL
set_option Elab.async false
set_option linter.all false
set_option maxRecDepth 100000
set_option maxHeartbeats 4000000
/-! DMa: instances of own classes as data: fields, methods, making. -/
namespace DL
open PySem L2 PyProof.Rows
def putD (f : Str) (d : D) : List (Str × D) → List (Str × D)
  | [] => [(f, d)]
  | (g, x) :: r => if g = f then (g, d) :: r else (g, x) :: putD f d r
section
variable {K : PySem.W.Frag} {G : Hp}
theorem kvd_put {f : Str} {v : V} {d : D} (r : Rp K G v d) : ∀ {vs : List (Str × V)} {fs : List (Str × D)}, KVd K G vs fs → KVd K G (putF f v vs) (putD f d fs)
  | [], [], _ => ⟨rfl, .cons r .nil⟩
  | [], _ :: _, h => by cases h.1
  | _ :: _, [], h => by cases h.1
  | (a, v') :: vs, (b, e) :: fs, h => by
    obtain ⟨h1, h2⟩ := h
    simp only [List.map_cons, List.cons.injEq] at h1
    obtain ⟨h1, h3⟩ := h1
    have h1 : a = b := h1
    subst h1
    cases h2 with
    | cons r1 r2 =>
      have ih := kvd_put r (f := f) (vs := vs) (fs := fs) ⟨h3, r2⟩
      unfold putF putD
      by_cases e : a = f
      · rw [if_pos e, if_pos e]
        exact ⟨by rw [List.map_cons, List.map_cons, h3], .cons r r2⟩
      · rw [if_neg e, if_neg e]
        exact ⟨by rw [List.map_cons, List.map_cons, ih.1], .cons r1 ih.2⟩
theorem kvd_len {vs : List (Str × V)} {fs : List (Str × D)} (h : KVd K G vs fs) : vs.length = fs.length := by
  have := congrArg List.length h.1
  rw [List.length_map, List.length_map] at this
  exact this
theorem kvd_none {n : Str} : ∀ {vs : List (Str × V)} {fs : List (Str × D)}, KVd K G vs fs → fs.lookup n = none → vs.lookup n = none
  | [], [], _, _ => rfl
  | [], _ :: _, h, _ => by cases h.1
  | _ :: _, [], h, _ => by cases h.1
  | (a, v) :: vs, (b, e) :: fs, h, hl => by
    obtain ⟨h1, h2⟩ := h
    simp only [List.map_cons, List.cons.injEq] at h1
    obtain ⟨h1, h3⟩ := h1
    have h1 : a = b := h1
    subst h1
    cases h2 with
    | cons r1 r2 =>
      cases hb : (n == a) with
      | true => simp only [List.lookup, hb] at hl; cases hl
      | false =>
        simp only [List.lookup, hb] at hl ⊢
        exact kvd_none ⟨h3, r2⟩ hl
end
/-- what stands at an instance -/
theorem ins_at {K : PySem.W.Frag} {G H : Hp} {M : Mem} {a C : Addr} {fs : List (Str × D)} (w : Wd K G M H) (hm : M a = some (.ins C fs)) : ∃ dx vs, H a = some (.ins C dx vs) ∧ KVd K G vs fs := (w.mem _ _ hm).2
/-- o.f = value, as a target -/
def gFld (K : PySem.W.Frag) (to : TE) (f : Str) : TG := fun v σ H Q => to σ H fun x H1 => ∃ a C dx fs, x = .ref a ∧ H1 a = some (.ins C dx fs) ∧ Cls K C ∧ NoAttr K C f ∧ fs.length < 1000 ∧ Q σ (upd H1 a (.ins C dx (putF f v fs)))
theorem pg_fld {X : Cx} {o : Expr} {f : Str} {tp : Pos} {to : TE} (ho : PE X o to) : PG X (.Attribute o f tp) (gFld X.K to f) := by
  refine ⟨fun pins s σ H v u Q I rv h => ?_⟩
  have ha : assign (.Attribute o f tp) X.env u = (do let x ← holding [u] (eval o X.env); standAt tp.atName; holding [u, x] (setAttr x f u); release [u, x] []) := rfl
  rw [ha]
  refine wpAny_bind (wpAny_holding (thn (ho.run pins s σ H _ I h) fun x s1 ⟨xv, H1, I1, r1, a, C, dx, fs, e, hH, c, n, hl, q⟩ => ?_))
  subst e
  obtain rfl : x = Value.ref a := r1
  exact wpAny_bind (wpAny_standAt (wpAny_bind (wpAny_holding (setattr_ok I1 hH c n hl rv fun s3 I3 => wpAny_release ⟨σ, _, I3, q⟩))))
section
variable {X : Cx} {sg sg' : Sg} {M : Mem} {o e : Expr} {es : List Expr} {f m : Str} {pos pos' apos p : Pos} {Q : D → Mem → Prop} {E : EndsD} {C : Addr} {k n : Nat} {S : SpD}
/-- o.f -/
theorem we_fld (h : WE X o sg M fun x M1 => ∃ a C fs d, x = .ptr a ∧ M1 a = some (.ins C fs) ∧ Cls X.K C ∧ NoAttr X.K C f ∧ fs.lookup f = some d ∧ Q d M1) (hb : attributeBase o f X.env (eval o X.env) = eval o X.env := by rfl) : WE X (.Attribute o f pos) sg M Q :=
  WE.of (pe_fld pe_w hb) fun σ H G w s => (h σ H G w s).imp fun v H1 ⟨x, G1, M1, st, w1, r1, a, C, fs, d, e, hm, c, na, hl, q⟩ => by
    subst e
    cases r1
    obtain ⟨dx, vs, hH, kv⟩ := ins_at w1 hm
    obtain ⟨u, hu, ru⟩ := kvd_lookup kv hl
    exact ⟨a, C, dx, vs, u, rfl, hH, c, na, hu, d, G1, M1, st, w1, ru, q⟩
/-- o.f = e -/
theorem ws_fld (h : WE X e sg M fun y M1 => WE X o sg M1 fun x M2 => ∃ a C fs, x = .ptr a ∧ M2 a = some (.ins C fs) ∧ Cls X.K C ∧ NoAttr X.K C f ∧ fs.length < 1000 ∧ E.nx sg (updM M2 a (some (.ins C (putD f y fs))))) (hs : swapsWith e (some (.Attribute o f pos')) pos.line X.env = pure false := by rfl) : WS X (.Assign [.Attribute o f pos'] e pos) sg M E :=
  WS.of (ps_fld pe_w pe_w hs) fun σ H G w s => (h σ H G w s).imp fun y H1 ⟨dy, G1, M1, st1, w1, r1, q1⟩ => (q1 σ H1 G1 w1 (s.mono (st1.gx w))).imp fun x H2 ⟨x', G2, M2, st2, w2, r2, a, C, fs, e, hm, c, na, hl, q⟩ => by
    subst e
    cases r2
    obtain ⟨dx, vs, hH, kv⟩ := ins_at w2 hm
    obtain ⟨w3, st3⟩ := w2.write hm (o := .ins C dx (putF f y vs)) (mo := .ins C (putD f dy fs)) ⟨_, _, upd_same, kvd_put (r1.mono (st2.gx w1)) kv⟩
    exact ⟨a, C, dx, vs, rfl, hH, c, na, by rw [kvd_len kv]; exact hl, sg, G2, _, (st1.trans st2).trans st3, w3, s.mono (((st1.trans st2).trans st3).gx w), q⟩
/-- o.f += e, of ints -/
theorem ws_fldadd (h : WE X o sg M fun x M1 => ∃ a C fs i, x = .ptr a ∧ M1 a = some (.ins C fs) ∧ Cls X.K C ∧ NoAttr X.K C f ∧ fs.lookup f = some (.int i) ∧ WE X e sg M1 fun y M2 => ∃ j fs', y = .int j ∧ M2 a = some (.ins C fs') ∧ fs'.length < 1000 ∧ E.nx sg (updM M2 a (some (.ins C (putD f (.int (i + j)) fs'))))) : WS X (.AugAssign (.Attribute o f pos') .Add e pos) sg M E :=
  WS.of (ps_fldaug pe_w pe_w in_add) fun σ H G w s => (h σ H G w s).imp fun x H1 ⟨x', G1, M1, st1, w1, r1, a, C, fs, i, e, hm, c, na, hl, q1⟩ => by
    subst e
    cases r1
    obtain ⟨dx, vs, hH, kv⟩ := ins_at w1 hm
    obtain ⟨u, hu, ru⟩ := kvd_lookup kv hl
    cases ru
    refine ⟨a, C, dx, vs, .int i, rfl, hH, c, na, hu, (q1 σ H1 G1 w1 (s.mono (st1.gx w))).imp fun y H2 ⟨y', G2, M2, st2, w2, r2, j, fs', e, hm2, hl2, q⟩ => ?_⟩
    subst e
    cases r2
    obtain ⟨dx2, vs2, hH2, kv2⟩ := ins_at w2 hm2
    obtain ⟨w3, st3⟩ := w2.write hm2 (o := .ins C dx2 (putF f (.int (i + j)) vs2)) (mo := .ins C (putD f (.int (i + j)) fs')) ⟨_, _, upd_same, kvd_put (.int _) kv2⟩
    exact ⟨i, j, rfl, rfl, dx2, vs2, hH2, by rw [kvd_len kv2]; exact hl2, sg, G2, _, (st1.trans st2).trans st3, w3, s.mono (((st1.trans st2).trans st3).gx w), q⟩
end
end DL
set_option Elab.async false
set_option linter.all false
set_option maxRecDepth 100000
set_option maxHeartbeats 4000000
/-! DMb: dicts whose keys are ints and texts. -/
namespace DL
open PySem L2 PyProof.Rows
def kD : Key → D
  | .inl i => .int i
  | .inr x => .str x
abbrev KD := List (Key × D)
def gk (kvs : KD) (k : Key) : Option D := (kvs.find? fun p => decide (p.1 = k)).map (·.2)
def pk (kvs : KD) (k : Key) (d : D) : KD := if kvs.any (fun p => decide (p.1 = k)) then kvs.map fun p => if p.1 = k then (p.1, d) else p else kvs ++ [(k, d)]
def mk (kvs : KD) (more : KD) : KD := more.foldl (fun acc p => pk acc p.1 p.2) kvs
section
variable {K : PySem.W.Frag} {G : Hp}
theorem kD_of {v : V} {k : Key} (r : Rp K G v (kD k)) : v = kV k := by
  cases k with
  | inl i => cases r; rfl
  | inr x => cases r; rfl
theorem rp_kD (k : Key) : Rp K G (kV k) (kD k) := by
  cases k with
  | inl i => exact .int i
  | inr x => exact .str x
theorem gk_rp : ∀ {kvs : KD} {vs : List (Key × V)} (k : Key), KVd K G vs kvs → (gk kvs k = none ∧ valV vs k = none) ∨ ∃ d v, gk kvs k = some d ∧ valV vs k = some v ∧ Rp K G v d
  | [], [], k, _ => .inl ⟨rfl, rfl⟩
  | [], _ :: _, k, h => by have := congrArg List.length h.1; simp at this
  | _ :: _, [], k, h => by have := congrArg List.length h.1; simp at this
  | p :: kvs, q :: vs, k, h => by
    obtain ⟨h1, h2⟩ := h
    have e1 : q.1 = p.1 := (List.cons.inj h1).1
    have e2 := (List.cons.inj h1).2
    cases h2 with
    | cons r rs =>
      by_cases e : p.1 = k
      · right
        exact ⟨p.2, q.2, by unfold gk; rw [List.find?_cons_of_pos (by simpa using e)]; rfl, valV_pos (e1.trans e), r⟩
      · have := gk_rp (kvs := kvs) (vs := vs) k ⟨e2, rs⟩
        have g1 : gk (p :: kvs) k = gk kvs k := by unfold gk; rw [List.find?_cons_of_neg (by simpa using e)]
        rw [g1, valV_neg fun z => e (e1.symm.trans z)]
        exact this
theorem anyk_rp {k : Key} : ∀ {kvs : KD} {vs : List (Key × V)}, vs.map (·.1) = kvs.map (·.1) → (vs.any fun q => decide (q.1 = k)) = kvs.any fun p => decide (p.1 = k)
  | [], [], _ => rfl
  | [], _ :: _, h => by simp at h
  | _ :: _, [], h => by simp at h
  | p :: kvs, q :: vs, h => by
    have e1 : q.1 = p.1 := (List.cons.inj h).1
    rw [List.any_cons, List.any_cons, anyk_rp (List.cons.inj h).2, e1]
theorem repk_rp {k : Key} {v : V} {d : D} (r : Rp K G v d) : ∀ {kvs : KD} {vs : List (Key × V)}, KVd K G vs kvs → KVd K G (vs.map fun q => if q.1 = k then (q.1, v) else q) (kvs.map fun p => if p.1 = k then (p.1, d) else p)
  | [], [], _ => ⟨rfl, .nil⟩
  | [], _ :: _, h => by have := congrArg List.length h.1; simp at this
  | _ :: _, [], h => by have := congrArg List.length h.1; simp at this
  | p :: kvs, q :: vs, h => by
    obtain ⟨h1, h2⟩ := h
    have e1 : q.1 = p.1 := (List.cons.inj h1).1
    have e2 := (List.cons.inj h1).2
    cases h2 with
    | cons r0 rs =>
      obtain ⟨a, b⟩ := repk_rp (k := k) r ⟨e2, rs⟩
      unfold KVd
      rw [List.map_cons, List.map_cons, List.map_cons, List.map_cons, List.map_cons, List.map_cons, a]
      by_cases e : p.1 = k
      · rw [if_pos e, if_pos (e1.trans e)]
        exact ⟨by rw [e1], .cons r b⟩
      · rw [if_neg e, if_neg fun z => e (e1.symm.trans z)]
        exact ⟨by rw [e1], .cons r0 b⟩
theorem pk_rp {kvs : KD} {vs : List (Key × V)} {k : Key} {v : V} {d : D} (h : KVd K G vs kvs) (r : Rp K G v d) : KVd K G (putK vs k v) (pk kvs k d) := by
  unfold putK pk
  rw [anyk_rp h.1]
  by_cases c : (kvs.any fun p => decide (p.1 = k)) = true
  · rw [if_pos c, if_pos c]
    exact repk_rp r h
  · rw [if_neg c, if_neg c]
    unfold KVd
    rw [List.map_append, List.map_append, List.map_append, List.map_append, h.1]
    exact ⟨rfl, h.2.append (.cons r .nil)⟩
theorem mk_rp : ∀ {more : KD} {ms : List (Key × V)} {kvs : KD} {vs : List (Key × V)}, KVd K G ms more → KVd K G vs kvs → KVd K G (mergeK vs ms) (mk kvs more)
  | [], [], _, _, _, h => h
  | [], _ :: _, _, _, h, _ => by have := congrArg List.length h.1; simp at this
  | _ :: _, [], _, _, h, _ => by have := congrArg List.length h.1; simp at this
  | p :: more, q :: ms, kvs, vs, h, h0 => by
    obtain ⟨h1, h2⟩ := h
    have e1 : q.1 = p.1 := (List.cons.inj h1).1
    have e2 := (List.cons.inj h1).2
    cases h2 with
    | cons r0 rs =>
      show KVd K G (mergeK (putK vs q.1 q.2) ms) (mk (pk kvs p.1 p.2) more)
      rw [e1]
      exact mk_rp ⟨e2, rs⟩ (pk_rp h0 r0)
theorem kvk_len {vs : List (Key × V)} {kvs : KD} (h : KVd K G vs kvs) : vs.length = kvs.length := by
  have := congrArg List.length h.1
  rw [List.length_map, List.length_map] at this
  exact this
end
/-- what stands at a dict, locked or not -/
def DicAt (M : Mem) (p : Addr) (kvs : KD) : Prop := M p = some (.dic kvs) ∨ ∃ o vs, M p = some (.fdc o vs kvs)
theorem dic_at {K : PySem.W.Frag} {G H : Hp} {M : Mem} {p : Addr} {kvs : KD} (w : Wd K G M H) (hm : DicAt M p kvs) : ∃ vs : List (Key × V), Rd H p (.dK vs) ∧ KVd K G vs kvs := by
  rcases hm with hm | ⟨o, vs, hm⟩
  · obtain ⟨vs, e, kv⟩ := (w.mem _ _ hm).2
    exact ⟨vs, .inl e, kv⟩
  · obtain ⟨e, kv⟩ := (w.mem _ _ hm).2
    exact ⟨vs, .inr ⟨o, e⟩, kv⟩
section
variable {X : Cx} {sg : Sg} {M : Mem} {o i e k v : Expr} {pos pos' : Pos} {Q : D → Mem → Prop} {Qb : Bool → Mem → Prop} {E : EndsD}
/-- d[k] -/
theorem we_kget (hu : X.A.units + 1 < cLine) (h : WE X o sg M fun x M1 => WE X i sg M1 fun y M2 => ∃ p kvs k d, x = .ptr p ∧ y = kD k ∧ DicAt M2 p kvs ∧ gk kvs k = some d ∧ Q d M2) (hs : NoSl i := by intro _ _; rfl) : WE X (.Subscript o i pos) sg M Q :=
  WE.of (pe_dget hu pe_w pe_w hs) fun σ H G w s => (h σ H G w s).imp fun x H1 ⟨dx, G1, M1, st, w1, r1, q1⟩ => (q1 σ H1 G1 w1 (s.mono (st.gx w))).imp fun u H2 ⟨dy, G2, M2, st2, w2, r2, p, kvs, k, d, e1, e2, hm, hg, q⟩ => by
    subst e1; subst e2
    cases r1
    have := kD_of r2
    subst this
    obtain ⟨vs, hH, kv⟩ := dic_at w2 hm
    rcases gk_rp k kv with ⟨z, _⟩ | ⟨d', v', g1, g2, r⟩
    · rw [hg] at z; cases z
    · rw [hg] at g1
      cases g1
      exact ⟨p, v', rfl, .inl ⟨vs, k, hH, rfl, g2.symm⟩, d, G2, M2, st.trans st2, w2, r, q⟩
/-- k in d, k not in d -/
theorem wt_kin (hu : X.A.units + 1 < cLine) (h : WE X i sg M fun y M1 => WE X o sg M1 fun x M2 => ∃ p kvs k, x = .ptr p ∧ y = kD k ∧ DicAt M2 p kvs ∧ Qb (gk kvs k).isSome M2) (hm : behindInMarks .In o = false := by first | exact nomark _ | rfl) : WT X (.Compare i [.In] [o] pos) sg M Qb :=
  WT.of (pt_cmp (pc_din hu pe_w pe_w) hm) fun σ H G w s => (h σ H G w s).imp fun y H1 ⟨dy, G1, M1, st, w1, r1, q1⟩ => (q1 σ H1 G1 w1 (s.mono (st.gx w))).imp fun x H2 ⟨dx, G2, M2, st2, w2, r2, p, kvs, k, e1, e2, hm, q⟩ => by
    subst e1; subst e2
    cases r2
    have := kD_of r1
    subst this
    obtain ⟨vs, hH, kv⟩ := dic_at w2 hm
    refine ⟨p, valV vs k, rfl, .inl ⟨vs, k, hH, rfl, rfl⟩, (gk kvs k).isSome, ?_, G2, M2, st.trans st2, w2, q⟩
    rcases gk_rp k kv with ⟨z1, z2⟩ | ⟨d', v', g1, g2, r⟩
    · rw [z1, z2]; rfl
    · rw [g1, g2]; rfl
theorem wt_knin (hu : X.A.units + 1 < cLine) (h : WE X i sg M fun y M1 => WE X o sg M1 fun x M2 => ∃ p kvs k, x = .ptr p ∧ y = kD k ∧ DicAt M2 p kvs ∧ Qb (!(gk kvs k).isSome) M2) (hm : behindInMarks .NotIn o = false := by first | exact nomark _ | rfl) : WT X (.Compare i [.NotIn] [o] pos) sg M Qb :=
  WT.of (pt_cmp (pc_dnotin hu pe_w pe_w) hm) fun σ H G w s => (h σ H G w s).imp fun y H1 ⟨dy, G1, M1, st, w1, r1, q1⟩ => (q1 σ H1 G1 w1 (s.mono (st.gx w))).imp fun x H2 ⟨dx, G2, M2, st2, w2, r2, p, kvs, k, e1, e2, hm, q⟩ => by
    subst e1; subst e2
    cases r2
    have := kD_of r1
    subst this
    obtain ⟨vs, hH, kv⟩ := dic_at w2 hm
    refine ⟨p, valV vs k, rfl, .inl ⟨vs, k, hH, rfl, rfl⟩, !(gk kvs k).isSome, ?_, G2, M2, st.trans st2, w2, q⟩
    rcases gk_rp k kv with ⟨z1, z2⟩ | ⟨d', v', g1, g2, r⟩
    · rw [z1, z2]; rfl
    · rw [g1, g2]; rfl
/-- d[k] = e -/
theorem ws_kput (hu : X.A.units + 1 < cLine) (h : WE X e sg M fun z M1 => WE X o sg M1 fun x M2 => WE X i sg M2 fun y M3 => ∃ p kvs k, x = .ptr p ∧ y = kD k ∧ M3 p = some (.dic kvs) ∧ kvs.length < sizeLine ∧ E.nx sg (updM M3 p (some (.dic (pk kvs k z))))) (hs : swapsWith e (some (.Subscript o i pos')) pos.line X.env = pure false := by rfl) : WS X (.Assign [.Subscript o i pos'] e pos) sg M E :=
  WS.of (ps_dput hu pe_w pe_w pe_w hs) fun σ H G w s => (h σ H G w s).imp fun z H1 ⟨dz, G1, M1, st, w1, r1, q1⟩ => (q1 σ H1 G1 w1 (s.mono (st.gx w))).imp fun x H2 ⟨dx, G2, M2, st2, w2, r2, q2⟩ => (q2 σ H2 G2 w2 (s.mono ((st.trans st2).gx w))).imp fun y H3 ⟨dy, G3, M3, st3, w3, r3, p, kvs, k, e1, e2, hm, hl, q⟩ => by
    subst e1; subst e2
    have r2' := r2.mono (st3.gx w2)
    cases r2'
    have := kD_of r3
    subst this
    obtain ⟨vs, hH, kv⟩ := (w3.mem _ _ hm).2
    obtain ⟨w', stw⟩ := w3.write hm (o := .dK (putK vs k z)) (mo := .dic (pk kvs k dz)) ⟨_, upd_same, pk_rp kv (r1.mono ((st2.trans st3).gx w1))⟩
    exact ⟨p, _, rfl, DPut.k hH (by rw [kvk_len kv]; exact hl), sg, G3, _, (((st.trans st2).trans st3).trans stw), w', s.mono ((((st.trans st2).trans st3).trans stw).gx w), q⟩
/-- {} -/
theorem we_knew (h : ∀ p, M p = none → Q (.ptr p) (updM M p (some (.dic [])))) : WE X (.Dict [] [] pos) sg M Q :=
  WE.of pe_dnewK fun σ H G w s => fun p hp => by
    obtain ⟨w0, st0⟩ := w.newM hp (o := .dK []) (mo := .dic []) ⟨[], upd_same, rfl, .nil⟩
    exact ⟨.ptr p, G, _, st0, w0, .ptr p, h p (w.free hp).2⟩
/-- an expression while a dict is locked -/
theorem we_lock {p : Addr} {kvs : KD} (hm : M p = some (.dic kvs)) (h : ∀ o vs, WE X e sg (updM M p (some (.fdc o vs kvs))) fun z M1 => M1 p = some (.fdc o vs kvs) ∧ Q z (updM M1 p (some (.dic kvs)))) : WE X e sg M Q :=
  WE.of (pe_lock pe_w) fun σ H G w s => by
    obtain ⟨vs, hH, kv⟩ := (w.mem _ _ hm).2
    refine ⟨p, .dK vs, hH, trivial, fun od => ?_⟩
    obtain ⟨w1, st1⟩ := w.write hm (o := .frz od (.dK vs)) (mo := .fdc od vs kvs) ⟨upd_same, kv⟩
    refine (h od vs σ _ G w1 (s.mono (st1.gx w))).imp fun z H1 ⟨dz, G2, M2, st2, w2, r2, hm2, q⟩ => ?_
    obtain ⟨e2, kv2⟩ := (w2.mem _ _ hm2).2
    obtain ⟨w3, st3⟩ := w2.write hm2 (o := .dK vs) (mo := .dic kvs) ⟨_, upd_same, kv2⟩
    exact ⟨e2, dz, G2, _, (st1.trans st2).trans st3, w3, r2.mono (st3.gx w2), q⟩
end
section
variable {K : PySem.W.Frag} {M : Mem} {Q : D → Mem → Prop}
/-- dict(a list of pairs) -/
theorem cd_dictP {x : D} {ps : KD} (h : LsD M x (ps.map fun p => .tup [kD p.1, p.2])) (q : ∀ p, M p = none → Q (.ptr p) (updM M p (some (.dic (mk [] ps))))) : ClD K (fun xs H Q => ∃ (a : Addr) (as : List Addr) (kvs : List (Key × V)), xs = [.ref a] ∧ SqL K H a (as.map V.ref) ∧ Paired (fun p kv => SqT K H p [kV kv.1, kv.2]) as kvs ∧ ∀ p, H p = none → Q (.ref p) (upd H p (.dK (mergeK [] kvs)))) [x] M Q := fun G H vs R w r k => by
  obtain ⟨v, rfl, rv⟩ := r.one
  obtain ⟨a, xs, rfl, hH, rx⟩ := h.at w rv
  have key : ∀ (ps : KD) (xs : List V), RpA K G xs (ps.map fun p => .tup [kD p.1, p.2]) → ∃ (as : List Addr) (kvs : List (Key × V)), xs = as.map V.ref ∧ Paired (fun p kv => SqT K H p [kV kv.1, kv.2]) as kvs ∧ KVd K G kvs ps := by
    intro ps
    induction ps with
    | nil => intro xs r; cases r; exact ⟨[], [], rfl, .nil, rfl, .nil⟩
    | cons p ps ih =>
      intro xs r
      cases r with
      | cons r1 r2 =>
        obtain ⟨as, kvs, e, pr, kv⟩ := ih _ r2
        cases r1 with
        | @tup b ys _ hb ry =>
          cases ry with
          | cons k1 ry =>
            cases ry with
            | cons k2 ry =>
              cases ry
              have := kD_of k1
              subst this
              exact ⟨b :: as, (p.1, _) :: kvs, by rw [e]; rfl, .cons (hb.sq w.sub) pr, by rw [List.map_cons, List.map_cons, kv.1], .cons k2 kv.2⟩
  obtain ⟨as, kvs, e, pr, kv⟩ := key ps xs rx
  subst e
  refine ⟨a, as, kvs, rfl, SqL.of hH, pr, fun p hp => ?_⟩
  obtain ⟨w', st⟩ := w.newM hp (o := .dK (mergeK [] kvs)) (mo := .dic (mk [] ps)) ⟨_, upd_same, mk_rp kv ⟨rfl, .nil⟩⟩
  exact k _ _ ⟨.ptr p, _, _, st, w', .ptr p, q p (w.free hp).2⟩
/-- sorted(a dict of ints) -/
theorem cd_sortedK {p : Addr} {kvs : KD} {ks : List Int} (hm : M p = some (.dic kvs)) (hk : kvs.map (·.1) = ks.map Sum.inl) (h64 : ks.length < 64) (q : ∀ ys : List Int, ys.Perm ks → ys.Pairwise (· ≤ ·) → Q (.lst (ys.map .int)) M) : ClD K (fun xs H Q => ∃ (a : Addr) (kvs : List (Key × V)) (ks : List Int), xs = [.ref a] ∧ Rd H a (.dK kvs) ∧ kvs.map (·.1) = ks.map Sum.inl ∧ ks.length < 64 ∧
    ∀ (ys : List Int) (p : Addr), ys.Perm ks → ys.Pairwise (· ≤ ·) → H p = none → Q (.ref p) (upd H p (.lst (ys.map V.int)))) [.ptr p] M Q := fun G H vs R w r k => by
  obtain ⟨v, rfl, rv⟩ := r.one
  cases rv
  obtain ⟨vs, hH, kv⟩ := (w.mem _ _ hm).2
  exact ⟨p, vs, ks, rfl, .inl hH, kv.1.trans hk, h64, fun ys l h1 h2 hl => k _ _ (new_lst w hl (rpa_ints ys) (q ys h1 h2))⟩
end
end DL
set_option Elab.async false
set_option linter.all false
set_option maxRecDepth 100000
set_option maxHeartbeats 4000000
/-! DMc: methods of own classes, and their making, by promises over data. -/
namespace DL
open PySem L2 PyProof.Rows
/-- the class C's method m keeps S (its first datum is the instance) -/
def CalM (P : Program) (w : World) (K : PySem.W.Frag) (mg : Str → Option Value) (base : Heap) (k : Nat) (C : Addr) (m : Str) (n : Nat) (S : SpD) : Prop :=
  ∃ f fd ps, FnOk P w K mg base CX0 k f fd ps (spD K n S) ∧ Meth K C m f ∧ Binds K fd ps []
/-- the class C is made by an __init__ that keeps S -/
def CalI (P : Program) (w : World) (K : PySem.W.Frag) (mg : Str → Option Value) (base : Heap) (k : Nat) (x : Str) (C : Addr) (n : Nat) (S : SpD) : Prop :=
  ∃ f fd ps, FnOk P w K mg base CX0 k f fd ps (spD K n S) ∧ Mk K C f ∧ mg x = some (.ref C) ∧ Binds K fd ps []
section
variable {X : Cx} {sg : Sg} {M : Mem} {o e : Expr} {es : List Expr} {m x : Str} {pos apos p : Pos} {Q : D → Mem → Prop} {C : Addr} {k n : Nat} {S : SpD}
/-- o.m(e, ..) -/
theorem we_meth {pl : Sem Bool} (c : Cls X.K C) (hm : CalM X.prog X.w X.K X.mg X.base k C m n S) (hr : Room k X.A) (h : WE X o sg M fun x M1 => ∃ a fs, x = .ptr a ∧ M1 a = some (.ins C fs) ∧ fs.lookup m = none ∧ WA X (e :: es) sg M1 fun ds M2 => ds.length + 1 = n ∧ S (.ptr a :: ds) M2 Q)
    (hst : starEach (e :: es) X.env = (false, eval e X.env) :: starEach es X.env := by exact star1 rfl) (hpl : (backTo pos (starEach es X.env)).any (·.1) = false := by exact starN rfl)
    (ht : eval (.Call (.Attribute o m apos) (e :: es) [] pos) X.env = (do let ov ← eval o X.env; standAt apos.atName; let (f, first) ← holding [ov] (getMethod ov m pl); callWith pos f first (backTo pos (starEach (e :: es) X.env)) (backToKw pos (keywordEach [] X.env))) := by rfl) : WE X (.Call (.Attribute o m apos) (e :: es) [] pos) sg M Q := by
  obtain ⟨f, fd, ps, F, hm, b⟩ := hm
  refine WE.of (pe_meth (pl := pl) pe_w c hm F hr b .nil pass0 pa_w hst hpl ht) fun σ H G w s => (h σ H G w s).imp fun v H1 ⟨x, G1, M1, st, w1, r1, a, fs, e1, hm1, hl, q1⟩ => ?_
  subst e1
  cases r1
  obtain ⟨dx, vs, hH, kv⟩ := ins_at w1 hm1
  refine ⟨a, dx, vs, rfl, hH, kvd_none kv hl, (q1 σ H1 G1 w1 (s.mono (st.gx w))).imp fun vs H2 ⟨ds, G2, M2, st2, w2, r2, l, q⟩ => ?_⟩
  show spD _ _ _ (_ :: (vs ++ [])) _ _ _
  rw [List.append_nil]
  exact ⟨G2, M2, .ptr a :: ds, Q, w2, .cons (.ptr a) r2, l, q, fun v H' p => p.base (st.trans st2)⟩
/-- o.m() -/
theorem we_meth0 {pl : Sem Bool} (c : Cls X.K C) (hm : CalM X.prog X.w X.K X.mg X.base k C m 1 S) (hr : Room k X.A) (h : WE X o sg M fun x M1 => ∃ a fs, x = .ptr a ∧ M1 a = some (.ins C fs) ∧ fs.lookup m = none ∧ S [.ptr a] M1 Q)
    (ht : eval (.Call (.Attribute o m apos) [] [] pos) X.env = (do let ov ← eval o X.env; standAt apos.atName; let (f, first) ← holding [ov] (getMethod ov m pl); callWith pos f first (backTo pos (starEach [] X.env)) (backToKw pos (keywordEach [] X.env))) := by rfl) : WE X (.Call (.Attribute o m apos) [] [] pos) sg M Q := by
  obtain ⟨f, fd, ps, F, hm, b⟩ := hm
  refine WE.of (pe_meth0 (pl := pl) pe_w c hm F hr b .nil pass0 ht) fun σ H G w s => (h σ H G w s).imp fun v H1 ⟨x, G1, M1, st, w1, r1, a, fs, e1, hm1, hl, q⟩ => ?_
  subst e1
  cases r1
  obtain ⟨dx, vs, hH, kv⟩ := ins_at w1 hm1
  refine ⟨a, dx, vs, rfl, hH, kvd_none kv hl, ?_⟩
  exact ⟨G1, M1, [.ptr a], Q, w1, .cons (.ptr a) .nil, rfl, q, fun v H' p => p.base st⟩
/-- C(e, ..) -/
theorem we_make (hm : CalI X.prog X.w X.K X.mg X.base k x C n S) (hr : Room (k + 1) X.A) (h : WA X (e :: es) sg M fun ds M1 => ∀ a, M1 a = none → ds.length + 1 = n ∧ S (.ptr a :: ds) (updM M1 a (some (.ins C []))) fun d M2 => d = .non ∧ Q (.ptr a) M2) (hg : Gl X x := by rfl) (hd : (x == ("__debug__" : Str)) = false := by decide)
    (he : starEach (e :: es) X.env = (false, eval e X.env) :: starEach es X.env := by exact star1 rfl) (hpl : (backTo pos (starEach es X.env)).any (·.1) = false := by exact starN rfl) : WE X (.Call (.Name x p) (e :: es) [] pos) sg M Q := by
  obtain ⟨f, fd, ps, F, hmk, hmg, b⟩ := hm
  refine WE.of (pe_make hmk F hr hg hmg b .nil pass0 pa_w hd he hpl) fun σ H G w s => (h σ H G w s).imp fun vs H1 ⟨ds, G1, M1, st, w1, r1, q⟩ => fun a dx ha hdx hne => ?_
  obtain ⟨l, q⟩ := q a (w1.free ha).2
  obtain ⟨w2, st2⟩ := w1.new hdx (o := .own a)
  have ha2 : (upd H1 dx (.own a)) a = none := by rw [upd_ne (Ne.symm hne)]; exact ha
  obtain ⟨w3, st3⟩ := w2.newM ha2 (o := .ins C dx []) (mo := .ins C []) ⟨dx, [], upd_same, rfl, .nil⟩
  show spD _ _ _ (_ :: (vs ++ [])) _ _ _
  rw [List.append_nil]
  refine ⟨_, _, .ptr a :: ds, _, w3, .cons (.ptr a) (r1.mono (st2.gx w1)), l, q, fun v H' ⟨d, G4, M4, st4, w4, r4, e4, q4⟩ => ?_⟩
  subst e4
  cases r4
  exact ⟨rfl, .ptr a, G4, M4, ((st.trans st2).trans st3).trans st4, w4, .ptr a, q4⟩
/-- C() -/
theorem we_make0 (hm : CalI X.prog X.w X.K X.mg X.base k x C 1 S) (hr : Room (k + 1) X.A) (h : ∀ a, M a = none → S [.ptr a] (updM M a (some (.ins C []))) fun d M2 => d = .non ∧ Q (.ptr a) M2) (hg : Gl X x := by rfl) (hd : (x == ("__debug__" : Str)) = false := by decide) : WE X (.Call (.Name x p) [] [] pos) sg M Q := by
  obtain ⟨f, fd, ps, F, hmk, hmg, b⟩ := hm
  refine WE.of (pe_make0 hmk F hr hg hmg b .nil pass0 hd) fun σ H G w s => fun a dx ha hdx hne => ?_
  have q := h a (w.free ha).2
  obtain ⟨w2, st2⟩ := w.new hdx (o := .own a)
  have ha2 : (upd H dx (.own a)) a = none := by rw [upd_ne (Ne.symm hne)]; exact ha
  obtain ⟨w3, st3⟩ := w2.newM ha2 (o := .ins C dx []) (mo := .ins C []) ⟨dx, [], upd_same, rfl, .nil⟩
  refine ⟨_, _, [.ptr a], _, w3, .cons (.ptr a) .nil, rfl, q, fun v H' ⟨d, G4, M4, st4, w4, r4, e4, q4⟩ => ?_⟩
  subst e4
  cases r4
  exact ⟨rfl, .ptr a, G4, M4, (st2.trans st3).trans st4, w4, .ptr a, q4⟩
end
end DL
set_option Elab.async false
set_option linter.all false
set_option maxRecDepth 100000
set_option maxHeartbeats 4000000
/-! DMd: set(a list): whatever is kept while the list is put in. -/
namespace DL
open PySem PySem.Spec PyProof.Rows L2
def fset (w : World) : Obj := ⟨.type "set", none, .set #[] 0 (.fresh 0 0 (!w.params.followText "set-order")), #[]⟩
/-- what the loop that fills a set keeps: T i of the set at S behind the first i items -/
def Fills (P : Program) (w : World) (items : Array Value) (S : Addr) (T : Nat → Heap → Prop) : Prop :=
  ∀ (A : Around) (I : Addr) (fp wr : List Addr) (G : Array GenState → Array GenState → Prop) (St : Nat → Shared → Prop) (R : Result → Shared → Prop) (s : Shared), WalksS P w A.in1 I fp wr G items.size (fun i v => items[i]? = some v) St → S ∉ fp → St 0 s → T 0 s.heap →
    (∀ s', Moved (S :: wr) G s s' → T items.size s'.heap → R (.ok (.ret .none)) s') → codeAny (model P w) A (.builtin "set.update.loop" ⟨[.ref S, .ref I], []⟩) R s
section
variable {P : Program} {w : World} {A : Around} {E : Value → Shared → Prop} {s : Shared}
theorem set_of_list {l : Addr} {items : Array Value} {T : Nat → Heap → Prop} {Q : Value → Shared → Prop} (hh : A.handled = none) (hl : s.heap.IsList l items) (h0 : ∀ h : Heap, h.get? s.heap.objs.size = some (fset w) → T 0 h) (lp : Fills P w items s.heap.objs.size T)
    (fin : ∀ (h' : Heap) (tk : Nat), T items.size h' → (∀ b o, s.heap.get? b = some o → h'.get? b = some o) → Q (.ref s.heap.objs.size) { s with heap := h', toks := tk }) : wpAny (model P w) A (call (.type "set") [.ref l]) Q E s := by
  obtain ⟨cc, tt, g1⟩ := F.called_set.mro
  have g2 := F.called_set.made; have g3 := F.called_set.sub
  refine wpAny_call (codeAny_of_tree ?_); show wpAny _ _ (callAny (.type "set") _) _ _ _
  refine wpAny_pure ⟨Code.quiet_builtin _ (by decide +kernel), codeAny_builtin F.entry_type_call (?_ : wpAny _ _ _ _ _ _)⟩; rw [Around.under_plain (weight_type_call_type "set" [.ref l] []) rfl]
  have g4 := F.called_set.notType; have g5 := F.called_set.canCreate; have g6 := F.typeCall_set_1 (.ref l)
  repeat (any_goals (first | assumption | wp_step))
  refine codeAny_mono (code_set_led1 (.ref l) (E := E) (Q₁ := fun u s1 => u = .ref s.heap.objs.size ∧ s1 = { s with heap := s.heap.push (fset w) }) ⟨rfl, rfl⟩) fun r s1 hr => ?_
  match r, hr with
  | .error e, hr => exact hr
  | .ok (.ret u), hr =>
    obtain ⟨rfl, rfl⟩ := hr
    have k1 : (s.heap.push (fset w)).get? s.heap.objs.size = some (fset w) := Heap.get?_push_size _ rfl
    have k2 : Shared.TypeIs { s with heap := s.heap.push (fset w) } (.ref s.heap.objs.size) "set" := ⟨_, k1, rfl⟩
    have g7 := F.called_set.init.lookup; have g8 := F.called_set.init.bind (.ref s.heap.objs.size)
    repeat (any_goals (first | assumption | wp_step))
    refine codeAny_mono (codeAny_call_builtin (R := wants (fun r s2 => r = .none ∧ ∃ h' tk, s2 = { s with heap := h', toks := tk } ∧ T items.size h' ∧ (∀ b o, s.heap.get? b = some o → h'.get? b = some o)) E) F.called_set.init.plain F.entry_set_init (check_set_init_1 k2 ?_)) fun r2 s2 hr2 => ?_
    · obtain ⟨⟨oc, od, oa, os⟩, hol, hc, nl, hd⟩ := hl
      simp only at hc hd; subst hc; subst hd
      have e1 : (s.heap.push (fset w)).get? l = some { cls := .type "list", dict := od, data := .seq items nl, slots := os } := Heap.get?_push_of_some _ hol
      have e2 := F.sub_list_set; have e3 := F.sub_list_frozenset
      have e4 : (Value.type "list" == Value.type "dict") = false := by decide
      have e5 : (s.heap.push (fset w)).IsList l items := ⟨_, e1, rfl, nl, rfl⟩
      unfold Builtin.«set.__init__» noKeywords Builtin.Frozenset.updateFrom; generalize hPI : pyIter = PI
      wp_walk
      subst hPI
      refine wpAny_pyIter_list e5 (wpAny_bind (wpAny_runValue ?_))
      have e6 : l < s.heap.objs.size := Heap.lt_size hol
      have e7 : A.in1.in1.in1.handled = none := by simp [hh]
      have e8 : l ≠ (s.heap.push (fset w)).objs.size := by rw [Heap.size_push]; exact Nat.ne_of_lt (Nat.lt_succ_of_lt e6)
      have e9 : s.heap.objs.size ∉ [(s.heap.push (fset w)).objs.size, l] := by rw [Heap.size_push]; simp only [List.mem_cons, List.not_mem_nil, or_false, not_or]; exact ⟨Nat.ne_of_lt (Nat.lt_succ_self _), Nat.ne_of_gt e6⟩
      refine lp A.in1.in1 _ _ _ _ _ _ _ ((Walks.list e7 _ l e8 items).toS) e9 ⟨⟨_, Heap.get?_push_size _ rfl, rfl, rfl⟩, (e5.push _)⟩ (h0 _ (Heap.get?_push_of_some _ k1)) fun s' hm hT => ?_
      obtain ⟨h', gg, dd, tk, oo⟩ := s'
      have a1 : gg = s.gens := hm.gens
      have a2 : dd = s.drawn := hm.drawn
      have a3 : oo = s.os := hm.os
      subst a1; subst a2; subst a3
      show wpAny _ _ _ _ _ _; refine wpAny_pure ?_
      show wpAny _ _ (ret Value.none) _ _ _; refine wpAny_pure ⟨rfl, h', tk, rfl, hT, fun b o e => ?_⟩
      have b0 : b < s.heap.objs.size := Heap.lt_size e
      refine hm.heap b o ?_ (Heap.get?_push_of_some _ (Heap.get?_push_of_some _ e))
      simp only [List.mem_cons, List.not_mem_nil, or_false, not_or]
      exact ⟨Nat.ne_of_lt b0, by rw [Heap.size_push]; exact Nat.ne_of_lt (Nat.lt_succ_of_lt b0)⟩
    · match r2, hr2 with
      | .error e, hr2 => exact hr2
      | .ok (.ret u), hr2 =>
        obtain ⟨rfl, h', tk, rfl, hT, hk⟩ := hr2
        repeat (any_goals (first | assumption | wp_step))
        exact fin h' tk hT hk
      | .ok .next, hr2 => exact hr2.elim
      | .ok .brk, hr2 => exact hr2.elim
      | .ok .cont, hr2 => exact hr2.elim
  | .ok .next, hr => exact hr.elim
  | .ok .brk, hr => exact hr.elim
  | .ok .cont, hr => exact hr.elim
end
end DL
set_option Elab.async false
set_option linter.all false
set_option maxRecDepth 100000
set_option maxHeartbeats 4000000
/-! DMe: sorted(set(ints)), len(set(texts)). -/
namespace DL
open PySem PySem.Spec PyProof.Rows L2
section
variable {P : Program} {w : World}
theorem fills_ints {items : Array Value} {S : Addr} {ns : List Int} (hi : IntsAre items.toList ns) (hb : ns.length + 1 < scanBound) : Fills P w items S fun i h => ∃ c, c ≤ i ∧ SetR w h S (fun j => decide (j ∈ ns.take i)) c := fun A I fp wr G St R s W hS st t0 q => by
  have hsz : items.size = ns.length := by rw [← IntsAre.length hi, Array.length_toList]
  refine set_update_ints W S hS ns hsz hb (fun i v hv => ?_) (items.size - 0) 0 s (by omega) (Nat.zero_le _) st t0 fun s' c hm hc hR => q s' hm ⟨c, hc, hR.congr fun k => ?_⟩
  · have hin : i < ns.length := by rw [← hsz]; exact (Array.getElem?_eq_some_iff.mp hv).1
    obtain ⟨t, e⟩ := PyProof.Rows.IntsAre.int_at hi i v (by rw [Array.getElem?_toList]; exact hv)
    exact ⟨ns[i], t, List.getElem?_eq_getElem hin, by rw [e, List.getD_eq_getElem?_getD, List.getElem?_eq_getElem hin]; rfl⟩
  · rw [hsz, List.take_length]
/-! texts -/
def uniq (xs : List Str) : List Str := xs.foldl (fun acc x => if x ∈ acc then acc else acc ++ [x]) []
theorem uniq_snoc (xs : List Str) (x : Str) : uniq (xs ++ [x]) = if x ∈ uniq xs then uniq xs else uniq xs ++ [x] := by
  unfold uniq
  rw [List.foldl_append]
  rfl
theorem uniq_rev {p : List Str → Prop} (h0 : p []) (h1 : ∀ xs x, p xs → p (xs ++ [x])) : ∀ xs, p xs := fun xs => by
  have : ∀ n, ∀ xs : List Str, xs.length = n → p xs := by
    intro n
    induction n with
    | zero => intro xs h; rw [List.length_eq_zero_iff.mp h]; exact h0
    | succ n ih =>
      intro xs h
      rcases List.eq_nil_or_concat xs with e | ⟨ys, y, e⟩
      · rw [e] at h; cases h
      · rw [List.concat_eq_append] at e
        subst e
        exact h1 ys y (ih ys (by rw [List.length_append] at h; exact Nat.succ.inj h))
  exact this _ xs rfl
theorem uniq_mem (k : Str) : ∀ xs : List Str, k ∈ uniq xs ↔ k ∈ xs := uniq_rev (by unfold uniq; exact Iff.rfl) fun xs x ih => by
  rw [uniq_snoc, List.mem_append, List.mem_singleton, ← ih]
  by_cases e : x ∈ uniq xs
  · rw [if_pos e]
    exact ⟨.inl, fun h => h.elim id fun z => by rw [z]; exact e⟩
  · rw [if_neg e, List.mem_append, List.mem_singleton]
theorem uniq_le : ∀ xs : List Str, (uniq xs).length ≤ xs.length := uniq_rev (Nat.le_refl _) fun xs x ih => by
  rw [uniq_snoc, List.length_append]
  split
  · omega
  · rw [List.length_append]; exact Nat.succ_le_succ ih
theorem uniq_all : ∀ xs : List Str, (uniq xs).length = xs.length ↔ xs.Nodup := uniq_rev (by unfold uniq; simp) fun xs x ih => by
  rw [uniq_snoc, List.length_append]
  have hle := uniq_le xs
  have hm := uniq_mem x xs
  rw [List.nodup_append]
  by_cases e : x ∈ uniq xs
  · rw [if_pos e]
    constructor
    · intro h
      have : (uniq xs).length = xs.length + 1 := h
      omega
    · intro ⟨_, _, h⟩
      exact absurd rfl (h x (hm.mp e) x (List.mem_singleton.mpr rfl))
  · rw [if_neg e, List.length_append]
    constructor
    · intro h
      refine ⟨ih.mp (Nat.succ.inj h), List.nodup_cons.mpr ⟨List.not_mem_nil, List.nodup_nil⟩, fun a ha b hb => ?_⟩
      rw [List.mem_singleton.mp hb]
      intro z
      rw [z] at ha
      exact e (hm.mpr ha)
    · intro ⟨h, _, _⟩
      rw [ih.mpr h]
theorem fills_strs {items : Array Value} {S : Addr} {xs : List Str} (hi : StrsAre items.toList xs) (hb : xs.length + 1 < scanBound) : Fills P w items S fun i h => h.SetOf (PySem.strKind P w) S (fun k => decide (k ∈ xs.take i)) (uniq (xs.take i)).length := fun A I fp wr G St R s W hS st t0 q => by
  have hsz : items.size = xs.length := by rw [← StrsAre.len_eq hi, Array.length_toList]
  have hSw : S ∉ wr := fun h => hS (W.sub _ h)
  have keep : ∀ {s1 s2 : Shared} {f : Str → Bool} {c : Nat}, Moved wr G s1 s2 → s1.heap.SetOf (PySem.strKind P w) S f c → s2.heap.SetOf (PySem.strKind P w) S f c := fun hm h => by
    obtain ⟨o, es, ep, t, ho, rest⟩ := h
    exact ⟨o, es, ep, t, hm.heap S _ hSw ho, rest⟩
  have up : ∀ b ∈ wr, b ∈ S :: wr := fun b hb => List.mem_cons_of_mem _ hb
  have main : ∀ (k i : Nat) (s : Shared) (R : Result → Shared → Prop), items.size - i = k → i ≤ items.size → St i s → s.heap.SetOf (PySem.strKind P w) S (fun k => decide (k ∈ xs.take i)) (uniq (xs.take i)).length →
      (∀ s', Moved (S :: wr) G s s' → s'.heap.SetOf (PySem.strKind P w) S (fun k => decide (k ∈ xs.take items.size)) (uniq (xs.take items.size)).length → R (.ok (.ret .none)) s') → codeAny (model P w) A (.builtin "set.update.loop" ⟨[.ref S, .ref I], []⟩) R s := by
    intro k
    induction k with
    | zero =>
      intro i s R hk hi2 st t q
      have e : i = items.size := by omega
      subst e
      refine codeAny_builtin PyProof.Rows.F.entry_set_update_loop ?_; rw [Around.under_plainId PyProof.Rows.F.plain_set_update_loop _]
      show wpAny _ A.in1 (pyNext (.ref I) >>= _) _ _ s; refine wpAny_bind (W.done s _ _ st fun s' hm => ?_)
      show wpAny _ A.in1 (ret Value.none) _ _ s'; exact wpAny_pure (q s' (hm.mono up) (keep hm t))
    | succ k ih =>
      intro i s R hk hi2 st t q
      have hlt : i < items.size := by omega
      have hx : i < xs.length := by omega
      refine codeAny_builtin PyProof.Rows.F.entry_set_update_loop ?_; rw [Around.under_plainId PyProof.Rows.F.plain_set_update_loop _]
      show wpAny _ A.in1 (pyNext (.ref I) >>= _) _ _ s; refine wpAny_bind (W.item i s _ _ hlt st fun v s' hP st' hm => ?_)
      obtain ⟨tk, ev⟩ := SS.strs_at hi i v (by rw [Array.getElem?_toList]; exact hP)
      have ex : xs.getD i Str.empty = xs[i] := by rw [List.getD_eq_getElem?_getD, List.getElem?_eq_getElem hx]; rfl
      rw [ex] at ev
      subst ev
      have t1 := keep hm t
      show wpAny _ A.in1 (holding [Value.str xs[i] tk] (setAdd S (.str xs[i] tk)) >>= _) _ _ s'; refine wpAny_bind (wpAny_holding ?_)
      unfold setAdd; refine wpAny_holding (wpAny_bind ((PySem.strKind P w).pyHash (k := xs[i]) (strKind_is _ _ _ _) ?_))
      have room : (uniq (xs.take i)).length + 1 < scanBound := by have := uniq_le (xs.take i); rw [List.length_take] at this; omega
      refine wpAny_setAddHashed_of (knd := PySem.strKind P w) (s := { s' with toks := s'.toks + 1 }) (strKind_is _ _ _ _) rfl t1 room fun h2 hsb hS2 => ?_
      have tn : xs.take (i + 1) = xs.take i ++ [xs[i]] := by rw [List.take_add_one, List.getElem?_eq_getElem hx]; rfl
      have t2 : h2.SetOf (PySem.strKind P w) S (fun k => decide (k ∈ xs.take (i + 1))) (uniq (xs.take (i + 1))).length := by
        refine SetOf_congr hS2 (fun k => ?_) ?_
        · rw [tn, Bool.eq_iff_iff]
          simp only [Bool.or_eq_true, decide_eq_true_eq, List.mem_append, List.mem_singleton]
        · rw [tn, uniq_snoc]
          by_cases e : xs[i] ∈ xs.take i
          · rw [if_pos ((uniq_mem _ _).mpr e)]
            show (if decide (xs[i] ∈ xs.take i) = true then _ else _) = _
            rw [if_pos (decide_eq_true e)]
          · rw [if_neg fun z => e ((uniq_mem _ _).mp z), List.length_append]
            show (if decide (xs[i] ∈ xs.take i) = true then _ else _) = _
            rw [if_neg (by rw [decide_eq_false e]; exact Bool.false_ne_true)]
            rfl
      refine wpAny_pure ⟨plainId_quiet PyProof.Rows.F.plain_set_update_loop _, ih (i + 1) _ R (by omega) hlt (W.frame _ s' _ _ st' (Nat.le_succ _) fun b hb o e => ?_) t2 fun s3 hm3 t3 => q s3 (Moved.trans W.gtrans ((hm.mono up).then_heap (Nat.le_succ _) fun b o hb e => ?_) hm3) t3⟩
      · rw [hsb.2 b fun z : b = S => hS (by rw [← z]; exact hb)]; exact e
      · rw [hsb.2 b fun z : b = S => hb (by rw [z]; exact List.mem_cons_self)]; exact e
  exact main _ 0 s R rfl (Nat.zero_le _) st t0 q
end
end DL
set_option Elab.async false
set_option linter.all false
set_option maxRecDepth 100000
set_option maxHeartbeats 4000000
/-! DMf: sorted(set(ints)), len(set(texts)), as expressions. -/
namespace DL
open PySem PySem.Spec PyProof.Rows L2
theorem intsAre_of : ∀ {ns : List Int} {us : List Value}, Vals (ns.map V.int) us → IntsAre us ns
  | [], _, .nil => .nil
  | n :: ns, _, .cons r t => by
    obtain ⟨k, rfl⟩ := r
    exact .cons n k (intsAre_of t)
def tSortSet (K : PySem.W.Frag) (ta : TE) : TE := fun σ H Q => ta σ H fun x H1 => ∃ (l : Addr) (ns : List Int), x = .ref l ∧ SqL K H1 l (ns.map V.int) ∧ ns.length < 64 ∧ ∀ (ys : List Int) (S p : Addr) (o : HO), ys.Pairwise (· < ·) → (∀ k, k ∈ ys ↔ k ∈ ns) → H1 S = none → (upd H1 S o) p = none → Q (.ref p) (upd (upd H1 S o) p (.lst (ys.map V.int)))
def tLenSetS (K : PySem.W.Frag) (ta : TE) : TE := fun σ H Q => ta σ H fun x H1 => ∃ (l : Addr) (xs : List Str), x = .ref l ∧ SqL K H1 l (xs.map V.str) ∧ xs.length ≤ 4000 ∧ Q (.int ((uniq xs).length : Nat)) H1
section
variable {X : Cx} {a : Expr} {ta : TE} {p p2 q pos : Pos}
theorem pe_sortSet (hg : Gl X "sorted") (hm : X.mg "sorted" = none) (hg2 : Gl X "set") (hm2 : X.mg "set" = none) (ha : PE X a ta) (hc : X.calm = true) (na : starEach [a] X.env = (false, eval a X.env) :: starEach [] X.env) : PE X (.Call (.Name "sorted" p) [.Call (.Name "set" p2) [a] [] q] [] pos) (tSortSet X.K ta) := by
  refine ⟨fun pins s σ H Q I h => ?_⟩
  refine Call_ (ld_blt I hg hm bi_sorted (PyProof.Rows.callWith_builtin1 (PyProof.Rows.args_cons ?_ rfl) rfl rfl))
  refine Call_ (ld_blt I hg2 hm2 boot_set (PyProof.Rows.callWith_type1 (PyProof.Rows.args_cons (thn (ha.run pins s σ H _ I h) fun v s1 ⟨x, H1, I1, r1, l, ns, ex, hq, h64, q1⟩ => PyProof.Rows.args_nil ?_) na) na rfl))
  subst ex
  cases r1
  obtain ⟨its, r, pl, hz⟩ := I1.list hq
  have hi : IntsAre its.toArray.toList ns := by simpa using intsAre_of r
  have hsz : its.toArray.size = ns.length := by rw [← IntsAre.length hi, Array.length_toList]
  refine set_of_list (I1.ok.hd hc) pl.isList (T := fun i h => ∃ c, c ≤ i ∧ SetR X.w h s1.heap.objs.size (fun j => decide (j ∈ ns.take i)) c) (fun h e => ⟨0, Nat.le_refl _, setR_new_at e⟩) (fills_ints hi (by unfold scanBound; omega)) fun h' tk ⟨c, hcn, R⟩ hk => ?_
  refine PyProof.Rows.args_nil ?_
  have I2 := I1.laid (a := s1.heap.objs.size) (h' := h') (t' := tk) hk (Nat.le_refl _) (setO_new R)
  have hn := I1.hok.fresh (Nat.le_refl s1.heap.objs.size)
  refine cr_sortedSet hc pins _ σ _ [.ref s1.heap.objs.size] _ Q I2 (.cons rfl .nil) ⟨_, _, c, rfl, upd_same, by omega, fun ys p hp hy hl hn2 => q1 ys _ p _ hp (fun k => ?_) hn hn2⟩
  rw [hy, hsz, List.take_length, decide_eq_true_iff]
theorem pe_lenSetS (hg : Gl X "len") (hm : X.mg "len" = none) (hg2 : Gl X "set") (hm2 : X.mg "set" = none) (ha : PE X a ta) (hc : X.calm = true) (na : starEach [a] X.env = (false, eval a X.env) :: starEach [] X.env) : PE X (.Call (.Name "len" p) [.Call (.Name "set" p2) [a] [] q] [] pos) (tLenSetS X.K ta) := by
  refine ⟨fun pins s σ H Q I h => ?_⟩
  refine Call_ (ld_blt I hg hm boot_len (PyProof.Rows.callWith_builtin1 (PyProof.Rows.args_cons ?_ rfl) rfl rfl))
  refine Call_ (ld_blt I hg2 hm2 boot_set (PyProof.Rows.callWith_type1 (PyProof.Rows.args_cons (thn (ha.run pins s σ H _ I h) fun v s1 ⟨x, H1, I1, r1, l, xs, ex, hq, hl, q1⟩ => PyProof.Rows.args_nil ?_) na) na rfl))
  subst ex
  cases r1
  obtain ⟨its, r, pl, hz⟩ := I1.list hq
  have hi : StrsAre its.toArray.toList xs := by simpa using strsAre_of r
  have hsz : its.toArray.size = xs.length := by rw [← StrsAre.len_eq hi, Array.length_toList]
  refine set_of_list (I1.ok.hd hc) pl.isList (T := fun i h => h.SetOf (PySem.strKind X.prog X.w) s1.heap.objs.size (fun k => decide (k ∈ xs.take i)) (uniq (xs.take i)).length) (fun h e => SetOf_congr ((setObjOf_fresh (knd := PySem.strKind X.prog X.w) _).setOf e (by unfold scanBound; omega)) (fun k => by simp) rfl) (fills_strs hi (by unfold scanBound; omega)) fun h' tk hS hk => ?_
  refine PyProof.Rows.args_nil ?_
  rw [hsz, List.take_length] at hS
  obtain ⟨o, es, ep, t, ho, hex, hd, _, _, _, hf, hn⟩ := hS
  have hle := uniq_le xs
  have I2 : Inv X pins σ H1 { s1 with heap := h', toks := tk } := I1.kept hk
  exact call_len_set ho hex hd hf (by rw [hn]; omega) ⟨.int (uniq xs).length, H1, I2.tok _, ⟨_, by rw [hn]⟩, q1⟩
variable {sg : Sg} {M : Mem} {Q : D → Mem → Prop}
theorem bi_set : bootBuiltins "set" = some (.type "set") := by decide +kernel
/-- sorted(set(ints)) -/
theorem we_sortSet (hm : X.mg "sorted" = none) (hm2 : X.mg "set" = none) (hc : X.calm = true) (h : WE X a sg M fun x M1 => ∃ ns : List Int, LsD M1 x (ns.map .int) ∧ ns.length < 64 ∧ ∀ ys : List Int, ys.Pairwise (· < ·) → (∀ k, k ∈ ys ↔ k ∈ ns) → Q (.lst (ys.map .int)) M1) (hg : Gl X "sorted" := by rfl) (hg2 : Gl X "set" := by rfl) (na : starEach [a] X.env = (false, eval a X.env) :: starEach [] X.env := by exact star1n rfl) : WE X (.Call (.Name "sorted" p) [.Call (.Name "set" p2) [a] [] q] [] pos) sg M Q :=
  WE.of (pe_sortSet hg hm hg2 hm2 pe_w hc na) fun σ H G w s => (h σ H G w s).imp fun v H1 ⟨x, G1, M1, st, w1, r1, ns, hl, h64, q⟩ => by
    obtain ⟨b, xs, rfl, hH, rx⟩ := hl.at w1 r1
    have := rx.ints
    subst this
    refine ⟨b, ns, rfl, SqL.of hH, h64, fun ys S p o hy hk hS hp => ?_⟩
    obtain ⟨w2, st2⟩ := w1.new hS (o := o)
    exact (new_lst w2 hp (rpa_ints ys) (q ys hy hk)).base (st.trans st2)
theorem RpA.strs {K : PySem.W.Frag} {G : Hp} : ∀ {vs : List V} {xs : List Str}, RpA K G vs (xs.map D.str) → vs = xs.map V.str
  | _, [], .nil => rfl
  | _, x :: xs, .cons h r => by
    cases h
    rw [RpA.strs r]
    rfl
/-- len(set(texts)) -/
theorem we_lenSet (hm : X.mg "len" = none) (hm2 : X.mg "set" = none) (hc : X.calm = true) (h : WE X a sg M fun x M1 => ∃ xs : List Str, LsD M1 x (xs.map .str) ∧ xs.length ≤ 4000 ∧ Q (.int ((uniq xs).length : Nat)) M1) (hg : Gl X "len" := by rfl) (hg2 : Gl X "set" := by rfl) (na : starEach [a] X.env = (false, eval a X.env) :: starEach [] X.env := by exact star1n rfl) : WE X (.Call (.Name "len" p) [.Call (.Name "set" p2) [a] [] q] [] pos) sg M Q :=
  WE.of (pe_lenSetS hg hm hg2 hm2 pe_w hc na) fun σ H G w s => (h σ H G w s).imp fun v H1 ⟨x, G1, M1, st, w1, r1, xs, hl, hz, q⟩ => by
    obtain ⟨b, ys, rfl, hH, rx⟩ := hl.at w1 r1
    have := rx.strs
    subst this
    exact ⟨b, xs, rfl, SqL.of hH, hz, .int _, G1, M1, st, w1, .int _, q⟩
end
end DL
set_option Elab.async false
set_option linter.all false
set_option maxRecDepth 100000
set_option maxHeartbeats 4000000
/-! DMg: texts, and the top's own tuples of texts. -/
namespace DL
open PySem L2 PyProof.Rows
def sgn (c : Nat) : Str := ⟨#[c]⟩
def strIs : Value → Str → Bool
  | .str y _, x => y == x
  | _, _ => false
def strsAre : List Value → List Str → Bool
  | [], [] => true
  | u :: us, x :: xs => strIs u x && strsAre us xs
  | _, _ => false
/-- the top's tuple at a, of these texts -/
def tupOk (K : PySem.W.Frag) (a : Addr) (xs : List Str) : Bool := match K.lookup a with
  | some ⟨.type t, none, .seq its _, _⟩ => decide (t = "tuple") && (strsAre its.toList xs && decide (its.size ≤ 1000))
  | _ => false
theorem vals_of_strs : ∀ {us : List Value} {xs : List Str}, strsAre us xs = true → Vals (xs.map V.str) us
  | [], [], _ => .nil
  | [], _ :: _, h => by cases h
  | _ :: _, [], h => by cases h
  | u :: us, x :: xs, h => by
    obtain ⟨h1, h2⟩ := Bool.and_eq_true_iff.mp h
    cases u with
    | str y t =>
      have : y = x := eq_of_beq h1
      subst this
      exact .cons ⟨t, rfl⟩ (vals_of_strs h2)
    | _ => cases h1
structure GT (K : PySem.W.Frag) (a : Addr) (xs : List Str) : Prop where
  sq : ∀ H : Hp, SqT K H a (xs.map V.str)
  ty : ∃ o, K.lookup a = some o ∧ o.cls = .type "tuple" ∧ o.dict = none
theorem gt_of {K : PySem.W.Frag} {a : Addr} {xs : List Str} (h : tupOk K a xs = true) : GT K a xs := by
  unfold tupOk at h
  split at h
  · rename_i t its n sl e
    simp only [Bool.and_eq_true, decide_eq_true_eq] at h
    obtain ⟨rfl, h2, h3⟩ := h
    exact ⟨fun H => .inr ⟨_, its, n, e, rfl, rfl, Nat.le_trans h3 (by decide), vals_of_strs h2⟩, _, e, rfl, rfl⟩
  · cases h
theorem ty_gt {K : PySem.W.Frag} {M : Mem} {a : Addr} {xs : List Str} (g : GT K a xs) : ∀ G H v, Wd K G M H → Rp K G v (.ptr a) → tyV K "tuple" v H := fun G H v w r => by
  cases r
  exact .inr (.inl ⟨rfl, g.ty⟩)
theorem ty_str {K : PySem.W.Frag} {M : Mem} {x : Str} : ∀ G H v, Wd K G M H → Rp K G v (.str x) → tyV K "str" v H := fun G H v w r => by
  cases r
  rfl
section
variable {K : PySem.W.Frag} {M : Mem} {Q : D → Mem → Prop}
theorem inV_strs (x : Str) : ∀ ys : List Str, inV (.str x) (ys.map V.str) = decide (x ∈ ys)
  | [] => rfl
  | y :: ys => by
    have ih := inV_strs x ys
    unfold inV at ih ⊢
    rw [List.map_cons, List.any_cons, ih]
    show ((y == x) || decide (x ∈ ys)) = decide (x ∈ y :: ys)
    rw [Bool.eq_iff_iff]
    simp only [Bool.or_eq_true, beq_iff_eq, decide_eq_true_eq, List.mem_cons]
    exact ⟨fun h => h.imp Eq.symm id, fun h => h.imp Eq.symm id⟩
theorem flat_strs2 (ys : List Str) : (ys.map V.str).all flatV = true := by
  rw [List.all_map]
  exact List.all_eq_true.mpr fun _ _ => rfl
/-- x in NAME, a tuple of texts -/
theorem od_inG {x : Str} {a : Addr} {ys : List Str} (g : GT K a ys) (q : Q (.bl (decide (x ∈ ys))) M) : OpD K (rIn K false) (.str x) (.ptr a) M Q := fun G H v u R w rx ry k => by
  cases rx; cases ry
  refine ⟨a, ys.map V.str, rfl, .inr (g.sq H), rfl, flat_strs2 ys, ?_⟩
  show R (.bl (inV (.str x) (ys.map V.str))) H
  rw [inV_strs]
  exact k _ _ (PV.here w (.bl _) q)
/-- NAME.index(z) -/
theorem md_indexG {a : Addr} {ys : List Str} {z : Str} {j : Nat} (g : GT K a ys) (hj : ys[j]? = some z) (hno : ∀ m, m < j → ys[m]? ≠ some z) (q : Q (.int (j : Int)) M) : MtD K (fun x xs H Q => ∃ p, ∃ ys : List Str, ∃ z j, x = .ref p ∧ xs = [.str z] ∧ SqT K H p (ys.map V.str) ∧ ys[j]? = some z ∧ (∀ m, m < j → ys[m]? ≠ some z) ∧ Q (.int (j : Nat)) H) (.ptr a) [.str z] M Q := fun G H v vs R w rv rs k => by
  cases rv
  obtain ⟨u, rfl, ru⟩ := rs.one
  cases ru
  exact ⟨a, ys, z, j, rfl, rfl, g.sq H, hj, hno, k _ _ (PV.here w (.int _) q)⟩
/-- s.index(t) -/
theorem md_sindex {a b : Str} {i : Nat} {rest : List Nat} (h : Builtin.Str.occurrences a b 0 a.length 1 = i :: rest) (q : Q (.int (i : Int)) M) : MtD K (fun x xs H Q => ∃ a b i rest, x = .str a ∧ xs = [.str b] ∧ Builtin.Str.occurrences a b 0 a.length 1 = i :: rest ∧ Q (.int (i : Nat)) H) (.str a) [.str b] M Q := fun G H v vs R w rv rs k => by
  cases rv
  obtain ⟨u, rfl, ru⟩ := rs.one
  cases ru
  exact ⟨a, b, i, rest, rfl, rfl, h, k _ _ (PV.here w (.int _) q)⟩
/-- sign in text -/
theorem od_inC {c : Nat} {z : Str} (q : Q (.bl (decide (c ∈ z.cps.toList))) M) : OpD K (fun x y H Q => ∃ (c : Nat) (z : Str), x = .str ⟨#[c]⟩ ∧ y = .str z ∧ Q (.bl (decide (c ∈ z.cps.toList))) H) (.str (sgn c)) (.str z) M Q := fun G H v u R w rx ry k => by
  cases rx; cases ry
  exact ⟨c, z, rfl, rfl, k _ _ (PV.here w (.bl _) q)⟩
/-- x == NAME, a tuple of texts -/
theorem od_eqG {x : D} {d : PyData} {a : Addr} {ys : List Str} (g : GT K a ys) (hx : PyD M x d) (sd : SeqAt.shaped d = true) (se : SeqAt.shaped (.tuple (ys.map PyData.str)) = true) (q : Q (.bl (PyData.eqv d (.tuple (ys.map PyData.str)))) M) : OpD K (rEqD K) x (.ptr a) M Q := fun G H v u R w rx ry k => by
  cases ry
  refine ⟨d, _, hx.dp w rx, .tup (g.sq H) ?_, sd, se, k _ _ (PV.here w (.bl _) q)⟩
  have : ∀ ys : List Str, DpAll K H (ys.map V.str) (ys.map PyData.str) := by
    intro ys
    induction ys with
    | nil => exact .nil
    | cons y ys ih => exact .cons (.str y) ih
  exact this ys
end
section
variable {X : Cx} {sg : Sg} {M : Mem} {Q : D → Mem → Prop} {Qi : List D → (Mem → Prop) → Mem → Prop} {tg e : Expr} {pos : Pos}
/-- a name of the top that holds an object -/
theorem ee_gp {x : Str} {a : Addr} (hm : X.mg x = some (.ref a)) (hg : Gl X x := by rfl) (hd : (x == ("__debug__" : Str)) = false := by decide) : EE X (.Name x pos) sg M (.ptr a) := WE.of (pe_glob (v := .ref a) hg hm rfl hd) fun σ H G w r => PV.here w (.ptr a) ⟨rfl, rfl⟩
theorem ee_gs {x y : Str} {t : Tok} (hm : X.mg x = some (.str y t)) (hg : Gl X x := by rfl) (hd : (x == ("__debug__" : Str)) = false := by decide) : EE X (.Name x pos) sg M (.str y) := we_gs hm ⟨rfl, rfl⟩ hg hd
/-- the sgnsD of a text -/
def sgnsD (x : Str) : List D := x.cps.toList.map fun c => D.str (sgn c)
theorem wi_str (h : WE X e sg M fun x M1 => ∃ z : Str, x = .str z ∧ Qi (sgnsD z) (fun _ => True) M1) : WI X tg e sg M Qi := ⟨_, pi_str pe_w, fun σ H G R w s k => (h σ H G w s).imp fun v H1 ⟨x, G1, M1, st, w1, r1, z, ez, q⟩ => by
  subst ez
  cases r1
  refine ⟨z, rfl, k _ _ (sgnsD z) _ G1 M1 st w1 (fun G2 M2 H2 gx w2 _ i => ?_) q⟩
  have hl : (sgnsD z).length = z.cps.size := by unfold sgnsD; rw [List.length_map, Array.length_toList]
  refine ⟨fun hi => by show z.cps.size ≤ i; omega, fun d hd => ?_⟩
  have hi : i < z.cps.size := by
    have := (List.getElem?_eq_some_iff.mp hd).1
    omega
  refine ⟨hi, fun x H' hy => ?_⟩
  obtain ⟨e1, c, hc, e2⟩ := hy
  subst e1; subst e2
  refine ⟨G2, .refl, w2, ?_⟩
  unfold sgnsD at hd
  rw [List.getElem?_map, Array.getElem?_toList, hc] at hd
  have hd := (Option.some.inj hd).symm
  subst hd
  exact .str _⟩
end
end DL
set_option Elab.async false
set_option linter.all false
set_option maxRecDepth 100000
set_option maxHeartbeats 4000000
/-! DMh: [e for x in xs for y in ys(x)], where nothing that may change is changed. -/
namespace DL
open PySem L2 PyProof.Rows
def wiB (X : Cx) (scope : Scope) (tg iter : Expr) : TI := fun σ H R => Blk X scope fun Y => ∃ wi, PI Y tg iter wi ∧ wi σ H R
theorem blk_pi {X : Cx} {scope : Scope} {tg iter : Expr} : ∀ (s : Shared) (H : Hp) (C : Addr) (cl : List (Str × Addr)) (fp : List Addr), PI (X.blk s H scope (compEnvC scope cl C X.env) fp) tg iter (wiB X scope tg iter) := fun s H C cl fp => ⟨fun pins t σ H1 R I h => by
  obtain ⟨wi, pi, hw⟩ := h s H C cl fp
  exact pi.run pins t σ H1 R I hw⟩
section
variable {X : Cx} {scope : Scope} {iter iter1 elt : Expr} {sg : Sg} {M : Mem} {ds : List D} {x y : Str} {px py pos : Pos}
theorem ee_lc22 (i j : Nat) (g : D → List D) (f : D → D → D) (hc : X.calm = true) (hN : X.N.Nodup) (hi : WI X (.Name x px) iter sg M (ItQ ds M)) (hz : (ds.flatMap g).length < sizeLine)
    (h1 : ∀ (a : Nat) (d : D), ds[a]? = some d → Blk X scope fun Y => WI Y (.Name y py) iter1 ((wipeD sg [i, j]).set i (some d)) M (ItQ (g d) M))
    (h2 : ∀ (a b : Nat) (d e : D), ds[a]? = some d → (g d)[b]? = some e → Blk X scope fun Y => EE Y elt ((wipeD ((wipeD sg [i, j]).set i (some d)) [j]).set j (some e)) M (f d e))
    (ok : BlkOk X.N X.env.scope scope [(x, i), (y, j)] := by exact blkOk_by (by with_unfolding_all rfl)) (hx : scope.names.lookup x = some .local ∨ scope.names.lookup x = some .cell := by first | exact Or.inl rfl | exact Or.inr rfl) (hy : scope.names.lookup y = some .local ∨ scope.names.lookup y = some .cell := by first | exact Or.inl rfl | exact Or.inr rfl)
    (hs : ∀ x, foldedSetIterable iter X.env x = pure x := by intro _; rfl) (hs1 : ∀ env x, foldedSetIterable iter1 env x = pure x := by intro _ _; rfl) : EE X (.ListComp elt [⟨.Name x px, iter, [], 0⟩, ⟨.Name y py, iter1, [], 0⟩] scope pos) sg M (.lst (ds.flatMap fun d => (g d).map (f d))) := by
  obtain ⟨wi, pi, hw⟩ := hi
  have hix := ok.ix (x, i) (by simp)
  have hjy := ok.ix (y, j) (by simp)
  refine WE.of (pe_lc2 (own := [(x, i), (y, j)]) (vs1 := [j]) hc hN pi ok (by simp) blk_pg (fun _ _ _ _ _ => pts_nil) blk_pi blk_pg (fun _ _ _ _ _ => pts_nil) blk_pe hs hs1) fun σ H G w s => hw σ H G _ w s fun J H0 ds' C G0 M0 st0 w0 it ⟨e1, e2, hC⟩ => fun p hp => ?_
  subst e1; subst e2
  obtain ⟨g0, m0⟩ := w0.free hp
  have s0 := s.mono (st0.gx w)
  have hf0 : ∀ u, M0.b.H p = some u → M0.b.M p = none → False := fun u e m => w0.fresh hp e m
  -- what the list holds
  let F : List D → List D := fun l => l.flatMap fun d => (g d).map (f d)
  let St : Hp → List D → Hp → Hp → Prop := fun Gb acc G1 H1 => ∃ xs, Stp G0 M0 H0 G1 M0 H1 ∧ Gx Gb G1 ∧ Wd X.K G1 M0 H1 ∧ H1 p = some (.lst xs) ∧ G1 p = none ∧ RpA X.K G1 xs acc
  have flen : ∀ l : List D, (F l).length = (l.flatMap g).length := fun l => by
    show (l.flatMap fun d => (g d).map (f d)).length = _
    induction l with
    | nil => rfl
    | cons a l ih => rw [List.flatMap_cons, List.flatMap_cons, List.length_append, List.length_append, ih, List.length_map]
  have hF : ∀ n, (F (ds'.take n)).length ≤ (F ds').length := fun n => by
    have := congrArg (fun l => (F l).length) (List.take_append_drop n ds')
    show ((ds'.take n).flatMap _).length ≤ _
    have e : (F (ds'.take n ++ ds'.drop n)).length = (F (ds'.take n)).length + (F (ds'.drop n)).length := by
      show ((ds'.take n ++ ds'.drop n).flatMap _).length = _
      rw [List.flatMap_append, List.length_append]
    have this : (F (ds'.take n ++ ds'.drop n)).length = (F ds').length := this
    show (F (ds'.take n)).length ≤ _
    omega
  refine ⟨fun a m H1 => m = ds'.length - a ∧ a ≤ ds'.length ∧ ∃ G1, St G0 (F (ds'.take a)) G1 H1, ⟨ds'.length, rfl, Nat.zero_le _, G0, [], ⟨fun x o e m => ⟨by rw [upd_ne (ne_of_none e hp)]; exact e, rfl, m⟩, rfl⟩, Gx.refl _, w0.other g0 m0 hf0, upd_same, g0, .nil⟩, ?_⟩
  rintro a m H1 ⟨rfl, hle, G1, xs, st1, gx1, w1, h1p, g1, ra⟩
  obtain ⟨stop, go⟩ := it G1 M0 H1 gx1 w1 hC a
  by_cases hlt : a < ds'.length
  · obtain ⟨go1, yld⟩ := go ds'[a] (List.getElem?_eq_getElem hlt)
    have tn : ds'.take (a + 1) = ds'.take a ++ [ds'[a]] := by rw [List.take_add_one, List.getElem?_eq_getElem hlt]; rfl
    have hFn : F (ds'.take (a + 1)) = F (ds'.take a) ++ (g ds'[a]).map (f ds'[a]) := by
      show (ds'.take (a + 1)).flatMap _ = _
      rw [tn, List.flatMap_append]
      show _ ++ [ds'[a]].flatMap _ = _
      rw [List.flatMap_cons, List.flatMap_nil, List.append_nil]
    refine .inr ⟨go1, fun H2 => ∃ G2, St G0 (F (ds'.take (a + 1))) G2 H2, fun H2 n => ⟨ds'.length - (a + 1), by omega, rfl, hlt, n⟩, fun v H' hv => ?_⟩
    obtain ⟨G2, st2, w2, rx⟩ := yld v H' hv
    obtain ⟨h2p, g2, _⟩ := st2.keep p _ h1p m0
    have sw : SRp X.K G2 (wipeD sg [i, j]) (wipe σ [i, j]) := wipe_rp (s0.mono (gx1.trans (st2.gx w1))) [i, j]
    intro t5 H5 C5 cl5 fp5
    refine blk_name (vs := [i, j]) i hN hx hix t5 H5 C5 cl5 fp5 (wipe σ [i, j]) H' G2 M0 v _ w2 sw rx fun σ2 s2 l2 o2 => ⟨wipe_same (is := [i]) (fun q hq => by rw [List.mem_singleton.mp hq]; simp) l2 o2, ?_⟩
    dsimp only [tYes]
    rw [if_pos rfl]
    intro t6 H6 C6 cl6 fp6
    obtain ⟨wi1, pi1, hw1⟩ := h1 a ds'[a] (List.getElem?_eq_getElem hlt) t6 H6 C6 cl6 fp6
    refine ⟨wi1, pi1, hw1 σ2 H' G2 _ w2 s2 fun J1 H4 es C1 G3 M3 st3 w3 it1 ⟨e1, e2, hC1⟩ => ?_⟩
    subst e2
    have e1' := e1
    obtain ⟨h3p, g3, _⟩ := st3.keep p _ h2p m0
    have gx3 : Gx G1 G3 := (st2.gx w1).trans (st3.gx w2)
    have s3 := s2.mono (st3.gx w2)
    refine ⟨fun b k H7 => k = es.length - b ∧ b ≤ es.length ∧ ∃ G4, St G3 (F (ds'.take a) ++ (es.take b).map (f ds'[a])) G4 H7, ⟨es.length, rfl, Nat.zero_le _, G3, xs, (st1.trans st2).trans st3, Gx.refl _, w3, h3p, by rw [g3, g2, g1], by
      show RpA X.K G3 xs (F (ds'.take a) ++ [])
      rw [List.append_nil]
      exact ra.mono gx3⟩, ?_⟩
    rintro b k H7 ⟨rfl, hle1, G4, ys, st4, gx4, w4, h4p, g4, rb⟩
    obtain ⟨stop1, go1'⟩ := it1 G4 M3 H7 gx4 w4 hC1 b
    by_cases hlt1 : b < es.length
    · obtain ⟨go2, yld1⟩ := go1' es[b] (List.getElem?_eq_getElem hlt1)
      have tb : es.take (b + 1) = es.take b ++ [es[b]] := by rw [List.take_add_one, List.getElem?_eq_getElem hlt1]; rfl
      refine .inr ⟨go2, fun H8 => ∃ G5, St G3 (F (ds'.take a) ++ (es.take (b + 1)).map (f ds'[a])) G5 H8, fun H8 n => ⟨es.length - (b + 1), by omega, rfl, hlt1, n⟩, fun u H8 hu => ?_⟩
      obtain ⟨G5, st5, w5, ru⟩ := yld1 u H8 hu
      obtain ⟨h5p, g5, _⟩ := st5.keep p _ h4p m0
      have sw2 : SRp X.K G5 (wipeD ((wipeD sg [i, j]).set i (some ds'[a])) [j]) (wipe σ2 [j]) := wipe_rp (s3.mono (gx4.trans (st5.gx w4))) [j]
      intro t9 H9 C9 cl9 fp9
      refine blk_name (vs := [j]) j hN hy hjy t9 H9 C9 cl9 fp9 (wipe σ2 [j]) H8 G5 M3 u _ w5 sw2 ru fun σ3 s4 l3 o3 => ⟨wipe_same (is := [j]) (fun q hq => hq) l3 o3, ?_⟩
      dsimp only [tYes]
      rw [if_pos rfl]
      intro ta Ha Ca cla fpa
      refine (h2 a b ds'[a] es[b] (List.getElem?_eq_getElem hlt) (by rw [← e1']; exact List.getElem?_eq_getElem hlt1) ta Ha Ca cla fpa σ3 H8 G5 w5 s4).imp fun z Hb ⟨d, G6, M6, st6, w6, r6, q1, q2⟩ => ?_
      subst q1; subst q2
      obtain ⟨h6p, g6, _⟩ := st6.keep p _ h5p m0
      have gx6 : Gx G4 G6 := (st5.gx w4).trans (st6.gx w5)
      have g6' : G6 p = none := by rw [g6, g5, g4]
      have stA := (st4.trans st5).trans st6
      have hle2 : (F (ds'.take a) ++ (es.take b).map (f ds'[a])).length < sizeLine := by
        have k1 := hF (a + 1)
        rw [hFn, ← e1'] at k1
        rw [List.length_append, List.length_map] at k1
        rw [List.length_append, List.length_map, List.length_take]
        have k2 := flen ds'
        omega
      refine ⟨ys, h6p, by rw [rb.length]; exact hle2, G6, ys ++ [z], ⟨fun c o e m => ?_, stA.base⟩, gx4.trans gx6, w6.other g6' m0 (by rw [← stA.base] at hf0; exact hf0), upd_same, g6', ?_⟩
      · obtain ⟨a1, a2, a3⟩ := stA.keep c o e m
        exact ⟨by rw [upd_ne (ne_of_none e hp)]; exact a1, a2, a3⟩
      · rw [tb, List.map_append, ← List.append_assoc]
        exact (rb.mono gx6).append (.cons r6 .nil)
    · have e : b = es.length := by omega
      subst e
      refine .inl ⟨stop1 rfl, G4, ys, st4, (gx1.trans gx3).trans gx4, w4, h4p, g4, ?_⟩
      rw [List.take_length] at rb
      rw [hFn, ← e1']
      exact rb
  · have e : a = ds'.length := by omega
    subst e
    obtain ⟨w2, gx2⟩ := w1.adopt h1p g1 m0 (by rw [← st1.base] at hf0; exact hf0)
    rw [List.take_length] at ra
    refine .inl ⟨stop rfl, PV.base st0 ⟨.lst (F ds'), _, M0, ⟨fun z o e m => ?_, st1.base⟩, w2, .lst upd_same (ra.mono gx2), rfl, rfl⟩⟩
    obtain ⟨a1, a2, a3⟩ := st1.keep z o e m
    exact ⟨a1, by rw [upd_ne (ne_of_none e hp)]; exact a2, a3⟩
end
end DL
set_option Elab.async false
set_option linter.all false
set_option maxRecDepth 100000
set_option maxHeartbeats 4000000
/-! DMi: l[::-1] of a list. -/
namespace DL
open PySem L2 PyProof.Rows HT
section
variable {X : Cx} {sg : Sg} {M : Mem} {Q : D → Mem → Prop} {pos : Pos}
def tRevL (K : PySem.W.Frag) (te : TE) : TE := fun σ H R => te σ H fun x H1 => ∃ a xs, x = .ref a ∧ SqL K H1 a xs ∧ ∀ p, H1 p = none → R (.ref p) (upd H1 p (.lst xs.reverse))
theorem pe_revL {e : Expr} {te : TE} {k : Nat} {p1 p2 p3 : Pos} (he : PE X e te) : PE X (.Subscript e (.Slice none none (some (.UnaryOp .USub (.Constant (.int 1) k p1) p2)) p3) pos) (tRevL X.K te) := by
  refine ⟨fun pins s σ H R I h => ?_⟩
  refine Subscript_ (thn (he.run pins s σ H _ I h) fun v s1 ⟨x, H1, I1, r1, a, xs, ex, hx, q⟩ => ?_)
  subst ex
  cases r1
  have hst : PO X (some (.UnaryOp .USub (.Constant (.int 1) k p1) p2)) (tPart (tUn (rU fun i => .int (-i)) (tC (.int 1)))) := po_some (pe_un un_neg pe_int)
  refine wpAny_Slice (thn (po_none.run pins s1 σ H1 (fun o H2 => o = none ∧ H2 = H1) I1 ⟨rfl, rfl⟩) fun vl s2 ⟨l, H2, I2, pl, el, e2⟩ => ?_)
  subst el e2
  refine thn (po_none.run pins s2 σ H2 (fun o H3 => o = none ∧ H3 = H2) I2 ⟨rfl, rfl⟩) fun vu s3 ⟨u, H3, I3, pu, eu, e3⟩ => ?_
  subst eu e3
  refine thn (hst.run pins s3 σ H3 (fun o H4 => o = some (-1) ∧ H4 = H3) I3 ⟨1, rfl, -1, rfl, rfl, rfl⟩) fun vs s4 ⟨o, H4, I4, ps, eo, e4⟩ => ?_
  subst eo e4
  have I5 : Inv X pins σ H4 { s4 with heap := s4.heap.push { cls := .type "slice", data := .fields #[vl, vu, vs] } } := I4.kept (t' := s4.toks) fun b ob z => Heap.get?_push_of_some _ z
  obtain ⟨its, r, ht, hz⟩ := I5.list hx
  have hlen := r.length
  show wpAny _ X.A (subscriptTail e (.Slice none none (some (.UnaryOp .USub (.Constant (.int 1) k p1) p2)) p3) (.ref a) (.ref s4.heap.objs.size)) _ X.xe { s4 with heap := s4.heap.push { cls := .type "slice", data := .fields #[vl, vu, vs] } }
  refine tail_any (ops := [.ref a, .ref s4.heap.objs.size]) ht.isList.typeIs slot_list_getitem.lookup ?_ (by with_unfolding_all rfl)
  refine wpAny_getItem_list_slice ht.isList (Heap.IsSliceOf.new _ vl vu vs) pl pu ps (by decide) ?_ (by rw [List.size_toArray]; omega)
  rw [PySem.W.krv_pick]
  refine ⟨.ref _, _, I5.laid (t' := s4.toks) (o := .lst xs.reverse) (fun b ob z => Heap.get?_push_of_some _ z) (Nat.le_refl _) ?_, rfl, q _ (I5.hok.fresh (Nat.le_refl _))⟩
  exact ⟨by rw [List.length_reverse]; exact hz, its.reverse, 0, r.reverse, Heap.get?_push_size _ rfl⟩
theorem we_revL {e : Expr} {k : Nat} {p1 p2 p3 : Pos} (h : WE X e sg M fun x M1 => ∃ ds, LsD M1 x ds ∧ Q (.lst ds.reverse) M1) : WE X (.Subscript e (.Slice none none (some (.UnaryOp .USub (.Constant (.int 1) k p1) p2)) p3) pos) sg M Q := WE.of (pe_revL pe_w) fun σ H G w s => (h σ H G w s).imp fun v H1 ⟨x, G1, M1, st, w1, r1, ds, l, q⟩ => by
  obtain ⟨b, ys, rfl, hH, rx⟩ := l.at w1 r1
  exact ⟨_, _, rfl, SqL.of hH, fun p hp => (new_lst w1 hp rx.reverse q).base st⟩
end
end DL
set_option Elab.async false
set_option linter.all false
set_option maxRecDepth 100000
set_option maxHeartbeats 4000000
/-! DMj: zip of two tuples; the top leaves set and dict alone. -/
namespace DL
open PySem L2 PyProof.Rows
section
variable {X : Cx} {sg : Sg} {M : Mem} {pos : Pos} {Qi : List D → (Mem → Prop) → Mem → Prop}
/-- zip of two tuples -/
theorem wi_zipT {e e2 : Expr} {p tpos : Pos} {elts : List Expr} {kk : Nat} (hm : X.mg "zip" = none) (h : WA X [e, e2] sg M fun xs M1 => ∃ ds es, xs = [.tup ds, .tup es] ∧ Qi (List.zipWith (fun a b => .tup [a, b]) ds es) (fun _ => True) M1) (hg : Gl X "zip" := by rfl) (hs : starEach [e, e2] X.env = (false, eval e X.env) :: starEach [e2] X.env := by exact star1 rfl) (hpl : (backTo pos (starEach [e2] X.env)).any (·.1) = false := by exact starN rfl) : WI X (.Tuple elts kk tpos) (.Call (.Name "zip" p) [e, e2] [] pos) sg M Qi := ⟨_, RZ.pi_zipA hg hm pa_w hs hpl, fun σ H G R w s k => (h σ H G w s).imp fun vs H1 ⟨xs, G1, M1, st, w1, r1, ds, es, e, q⟩ => by
  subst e
  obtain ⟨v, u, rfl, rv, ru⟩ := r1.two
  cases rv with
  | @tup a ys _ h1 rx =>
    cases ru with
    | @tup b zs _ h2 ry =>
      refine ⟨a, b, ys, zs, rfl, .inr ⟨h1.sq w1.sub, h2.sq w1.sub, k _ _ _ _ G1 M1 st w1 (fun G2 M2 H2 gx w2 _ i => ?_) q⟩⟩
      have g1 : SqT X.K H2 a ys := h1.sq (gx.trans w2.sub)
      have g2 : SqT X.K H2 b zs := h2.sq (gx.trans w2.sub)
      have rx2 := rx.mono gx
      have ry2 := ry.mono gx
      refine ⟨fun hi => ⟨ys, zs, g1, g2, ?_⟩, fun d hd => ?_⟩
      · rw [List.length_zipWith] at hi
        rw [rx2.length, ry2.length]
        omega
      · rw [List.getElem?_zipWith] at hd
        cases ea : ds[i]? with
        | none => rw [ea] at hd; cases hd
        | some c =>
          cases eb : es[i]? with
          | none => rw [ea, eb] at hd; cases hd
          | some c' =>
            rw [ea, eb] at hd
            have ed := (Option.some.inj hd).symm
            subst ed
            obtain ⟨z, hz, rd⟩ := rx2.get ea
            obtain ⟨z', hz', rd'⟩ := ry2.get eb
            refine ⟨⟨ys, zs, z, z', g1, g2, hz, hz'⟩, fun t H' ⟨T, y1, y2, e1, e2, e3, e4, e5⟩ => ?_⟩
            subst e1; subst e3
            have q1 := (e4 ys g1).symm.trans hz
            have q2 := (e5 zs g2).symm.trans hz'
            cases q1; cases q2
            exact new_pair w2 e2 rd rd'⟩
end
structure Bl2 (mg : Str → Option Value) : Prop where
  set : mg "set" = none
  dict : mg "dict" = none
theorem bi_dict : bootBuiltins "dict" = some (.type "dict") := by decide +kernel
end DL
set_option Elab.async false
set_option linter.all false
set_option maxRecDepth 100000
set_option maxHeartbeats 4000000
/-! DMk: targets that write to instances; None is False. -/
namespace DL
open PySem PySem.Spec L2 PyProof.Rows
/-- a target's store, the memory behind it -/
def WGm (X : Cx) (tg : Expr) (d : D) (sg : Sg) (M : Mem) (Q : Sg → Mem → Prop) : Prop := ∃ g, PG X tg g ∧ ∀ (σ : L2.St) (H G : Hp) (v : V) (R : L2.St → Hp → Prop), Wd X.K G M H → SRp X.K G sg σ → Rp X.K G v d → (∀ σ' H', PN X.K G M H Q σ' H' → R σ' H') → g v σ H R
def WGms (X : Cx) (tgs : List Expr) (ds : List D) (sg : Sg) (M : Mem) (Q : Sg → Mem → Prop) : Prop := ∃ g, PGs X tgs g ∧ ∀ (σ : L2.St) (H G : Hp) (vs : List V) (R : L2.St → Hp → Prop), Wd X.K G M H → SRp X.K G sg σ → RpA X.K G vs ds → (∀ σ' H', PN X.K G M H Q σ' H' → R σ' H') → g vs σ H R
section
variable {X : Cx} {tg e o : Expr} {tgs : List Expr} {d : D} {ds : List D} {sg : Sg} {M : Mem} {Q : Sg → Mem → Prop} {pos tp : Pos} {f x : Str} {E : EndsD}
theorem wgms_nil (q : Q sg M) : WGms X [] [] sg M Q := ⟨_, pgs_nil, fun σ H G vs R w s r k => by
  cases r
  exact ⟨rfl, k σ H ⟨sg, G, M, Stp.refl, w, s, q⟩⟩⟩
theorem wgms_cons (h : WGm X tg d sg M fun sg1 M1 => WGms X tgs ds sg1 M1 Q) (hs : (assignEach (tg :: tgs) X.env).map (·.2) = assign tg X.env :: (assignEach tgs X.env).map (·.2) := by rfl) : WGms X (tg :: tgs) (d :: ds) sg M Q := by
  obtain ⟨g, pg, hg⟩ := h
  -- the rest's own reading, whatever state it starts from
  refine ⟨gCons g (fun vs σ H R => ∃ (G : Hp) (sg1 : Sg) (M1 : Mem), Wd X.K G M1 H ∧ SRp X.K G sg1 σ ∧ RpA X.K G vs ds ∧ (∃ g1, PGs X tgs g1 ∧ g1 vs σ H R)), pgs_cons pg ⟨fun pins s σ H vs us R I r ⟨_, _, _, _, _, _, g1, p1, q1⟩ => p1.run pins s σ H vs us R I r q1⟩ hs, fun σ H G vs R w s r k => ?_⟩
  cases r with
  | cons r1 r2 =>
    refine ⟨_, _, rfl, hg σ H G _ _ w s r1 fun σ1 H1 ⟨sg1, G1, M1, st1, w1, s1, g1, p1, q1⟩ => ⟨G1, sg1, M1, w1, s1, r2.mono (st1.gx w), g1, p1, q1 σ1 H1 G1 _ _ w1 s1 (r2.mono (st1.gx w)) fun σ2 H2 ⟨sg2, G2, M2, st2, w2, s2, q2⟩ => k σ2 H2 ⟨sg2, G2, M2, st1.trans st2, w2, s2, q2⟩⟩⟩
theorem wgm_tup {n : Nat} (hc : X.calm = true) (h : WGms X tgs ds sg M Q) (hn : (assignEach tgs X.env).length = ds.length := by rfl) (hst : (assignEach tgs X.env).findIdx? (·.1) = none := by rfl) : WGm X (.Tuple tgs n pos) (.tup ds) sg M Q := by
  obtain ⟨g, pg, hg⟩ := h
  refine ⟨_, pg_tup hc pg hn hst, fun σ H G v R w s r k => ?_⟩
  cases r with
  | tup h1 r1 => exact ⟨_, _, rfl, h1.sq w.sub, r1.length, hg σ H G _ R w s r1 k⟩
/-- a name -/
theorem wgm_name (i : Nat) (hN : X.N.Nodup) (q : Q (sg.set i (some d)) M) (hi : X.N[i]? = some x := by rfl) (hx : Loc X.env.scope x := by first | exact Or.inl rfl | exact Or.inr rfl) (hf : X.fn x = true ∨ X.env.scope.names.lookup x = some .local := by first | exact .inl rfl | exact .inr rfl) : WGm X (.Name x tp) d sg M Q := ⟨_, pg_name hN hi hx hf, fun σ H G v R w s r k => k _ H ⟨_, G, M, Stp.refl, w, s.set i r, q⟩⟩
/-- o.f -/
theorem wgm_fld (h : WE X o sg M fun z M1 => ∃ a C fs, z = .ptr a ∧ M1 a = some (.ins C fs) ∧ Cls X.K C ∧ NoAttr X.K C f ∧ fs.length < 1000 ∧ Q sg (updM M1 a (some (.ins C (putD f d fs))))) : WGm X (.Attribute o f tp) d sg M Q := ⟨_, pg_fld pe_w, fun σ H G v R w s r k => (h σ H G w s).imp fun z H1 ⟨dz, G1, M1, st, w1, r1, a, C, fs, e1, hm, c, n, hl, q⟩ => by
  subst e1
  cases r1
  obtain ⟨dx, vs, hH, kv⟩ := ins_at w1 hm
  obtain ⟨w2, st2⟩ := w1.write hm (o := .ins C dx (putF f v vs)) (mo := .ins C (putD f d fs)) ⟨_, _, upd_same, kvd_put (r.mono (st.gx w)) kv⟩
  exact ⟨a, C, dx, vs, rfl, hH, c, n, by rw [kvd_len kv]; exact hl, k σ _ ⟨sg, G1, _, st.trans st2, w2, s.mono ((st.trans st2).gx w), q⟩⟩⟩
/-- target = e -/
theorem ws_asgm (h : WE X e sg M fun d M1 => WGm X tg d sg M1 E.nx) (hs : swapsWithSole [tg] e pos.line X.env = pure false := by rfl) (hw : swappedStores [tg] e X.env = pure none := by rfl) (h1 : (assignEach [tg] X.env).map (·.2) = [assign tg X.env] := by rfl) : WS X (.Assign [tg] e pos) sg M E :=
  WS.of (ps_asg pe_w (g := fun v σ H R => ∃ g, PG X tg g ∧ g v σ H R) ⟨fun pins s σ H v u R I r ⟨g, pg, q⟩ => pg.run pins s σ H v u R I r q⟩ hs hw h1) fun σ H G w s => (h σ H G w s).imp fun v H1 ⟨d, G1, M1, st, w1, r1, g, pg, q⟩ => ⟨g, pg, q σ H1 G1 v _ w1 (s.mono (st.gx w)) r1 fun σ' H' ⟨sg2, G2, M2, st2, w2, s2, q2⟩ => ⟨sg2, G2, M2, st.trans st2, w2, s2, q2⟩⟩
/-- None is True, None is False -/
theorem op_isNB : OpR X (compareOp .Is) (fun x y H Q => x = .non ∧ ∃ b : Bool, y = .bl b ∧ Q (.bl false) H) := by
  intro pins s σ H x y v u Q I rx ry h
  obtain ⟨rfl, b, rfl, q⟩ := h
  cases (show v = Value.none from rx)
  cases (show u = Value.bool b from ry)
  exact wpAny_is_other rfl (fun z => nomatch z) ⟨.bl false, H, I, rfl, q⟩
theorem od_isNB {K : PySem.W.Frag} {b : Bool} {Q : D → Mem → Prop} (q : Q (.bl false) M) : OpD K (fun x y H Q => x = .non ∧ ∃ b : Bool, y = .bl b ∧ Q (.bl false) H) .non (.bl b) M Q := fun G H v u R w rx ry k => by
  cases rx; cases ry
  exact ⟨rfl, b, rfl, k _ _ (PV.here w (.bl _) q)⟩
end
end DL
set_option Elab.async false
set_option linter.all false
set_option maxRecDepth 100000
set_option maxHeartbeats 4000000
/-! DMl: walks over a locked dict's keys. -/
namespace DL
open PySem L2 PyProof.Rows
section
variable {X : Cx} {sg : Sg} {M : Mem} {tg e : Expr} {Qi : List D → (Mem → Prop) → Mem → Prop}
theorem wi_keys (h : WE X e sg M fun x M1 => ∃ d o vs kvs, x = .ptr d ∧ M1 d = some (.fdc o vs kvs) ∧ Qi (kvs.map fun p => kD p.1) (fun M => M d = some (.fdc o vs kvs)) M1) : WI X tg e sg M Qi := ⟨_, pi_keys pe_w, fun σ H G R w s k => (h σ H G w s).imp fun v H1 ⟨x, G1, M1, st, w1, r1, d, o, vs, kvs, ex, hm, q⟩ => by
  subst ex
  cases r1
  obtain ⟨hH, kv⟩ := (w1.mem _ _ hm).2
  refine ⟨d, o, rfl, .inl ⟨vs, hH, k _ _ _ _ G1 M1 st w1 (fun G2 M2 H2 gx w2 hm2 i => ?_) q⟩⟩
  obtain ⟨hH2, kv2⟩ := (w2.mem _ _ hm2).2
  have hl : (kvs.map fun p => kD p.1).length = vs.length := by rw [List.length_map, kvk_len kv]
  refine ⟨fun hi => ⟨hH2, by omega⟩, fun y hy => ?_⟩
  have hi : i < vs.length := by have := (List.getElem?_eq_some_iff.mp hy).1; omega
  refine ⟨⟨hH2, hi⟩, fun z H' ⟨e1, kk, vv, h1, h2⟩ => ?_⟩
  subst e1; subst h2
  refine ⟨G2, .refl, w2, ?_⟩
  have hk : (vs.map (·.1))[i]? = some kk := by rw [List.getElem?_map, h1]; rfl
  rw [kv.1, List.getElem?_map] at hk
  rw [List.getElem?_map] at hy
  cases hp : kvs[i]? with
  | none => rw [hp] at hk; cases hk
  | some p =>
    rw [hp] at hk hy
    have e2 : p.1 = kk := Option.some.inj hk
    have e3 : kD p.1 = y := Option.some.inj hy
    rw [← e3, e2]
    exact rp_kD kk⟩
end
end DL
set_option Elab.async false
set_option linter.all false
set_option maxRecDepth 100000
set_option maxHeartbeats 4000000
/-! DMm: list(dict), d.get(k). -/
namespace DL
open PySem L2 PyProof.Rows
section
variable {K : PySem.W.Frag} {M : Mem} {Q : D → Mem → Prop}
theorem rpa_keys {G : Hp} : ∀ {vs : List (Key × V)} {kvs : KD}, vs.map (·.1) = kvs.map (·.1) → RpA K G (vs.map fun kv => kV kv.1) (kvs.map fun p => kD p.1)
  | [], [], _ => .nil
  | [], _ :: _, h => by simp at h
  | _ :: _, [], h => by simp at h
  | q :: vs, p :: kvs, h => by
    have e1 : q.1 = p.1 := (List.cons.inj h).1
    rw [List.map_cons, List.map_cons, e1]
    exact .cons (rp_kD p.1) (rpa_keys (List.cons.inj h).2)
/-- list(d), d a dict that may change -/
theorem cd_listD {p : Addr} {kvs : KD} (hm : M p = some (.dic kvs)) (q : Q (.lst (kvs.map fun p => kD p.1)) M) : ClD K rListD [.ptr p] M Q := fun G H vs R w r k => by
  obtain ⟨v, rfl, rv⟩ := r.one
  cases rv
  obtain ⟨xs, hH, kv⟩ := (w.mem _ _ hm).2
  exact ⟨p, xs, rfl, hH, fun l hl => k _ _ (new_lst w hl (rpa_keys kv.1) q)⟩
end
section
variable {X : Cx} {sg : Sg} {M : Mem} {o e : Expr} {apos cpos : Pos} {Q : D → Mem → Prop}
/-- d.get(k) -/
theorem we_getm (hu : X.A.units + 1 < cLine) (h : WE X o sg M fun x M1 => ∃ p kvs, x = .ptr p ∧ M1 p = some (.dic kvs) ∧ WE X e sg M1 fun y M2 => ∃ kvs k, y = kD k ∧ M2 p = some (.dic kvs) ∧ Q ((gk kvs k).getD .non) M2) (m : M1 X o "get" apos e cpos) : WE X (.Call (.Attribute o "get" apos) [e] [] cpos) sg M Q :=
  WE.of (pe_dget1 hu pe_w pe_w m) fun σ H G w s => (h σ H G w s).imp fun x H1 ⟨dx, G1, M1, st, w1, r1, p, kvs, e1, hm, q1⟩ => by
    subst e1
    cases r1
    obtain ⟨vs, hH, kv⟩ := (w1.mem _ _ hm).2
    refine ⟨p, rfl, .inl ⟨vs, .inl hH⟩, (q1 σ H1 G1 w1 (s.mono (st.gx w))).imp fun y H2 ⟨dy, G2, M2, st2, w2, r2, kvs2, k, e2, hm2, q⟩ => ?_⟩
    subst e2
    have := kD_of r2
    subst this
    obtain ⟨vs2, hH2, kv2⟩ := (w2.mem _ _ hm2).2
    refine ⟨valV vs2 k, .inl ⟨vs2, k, .inl hH2, rfl, rfl⟩, ?_⟩
    rcases gk_rp k kv2 with ⟨z1, z2⟩ | ⟨d', v', g1, g2, r⟩
    · rw [z1] at q
      rw [z2]
      exact ⟨.non, G2, M2, st.trans st2, w2, .non, q⟩
    · rw [g1] at q
      rw [g2]
      exact ⟨d', G2, M2, st.trans st2, w2, r, q⟩
end
end DL
set_option Elab.async false
set_option linter.all false
set_option maxRecDepth 100000
set_option maxHeartbeats 4000000
/-! DMn: sorted(set(texts)): a set of texts with its table. -/
namespace DL
open PySem PySem.Spec PyProof.Rows L2
def txt (e : Int × Value) : Str := match e.2 with | .str x _ => x | _ => Str.empty
def TxtE (w : World) (e : Int × Value) : Prop := ∃ x tk, e = (hashStr w x, Value.str x tk)
/-- the set at a holds the texts l, in a table that can be walked -/
def TabS (w : World) (h : Heap) (a : Addr) (l : List Str) : Prop := ∃ o es ep t, h.get? a = some o ∧ o.ExactSet ∧ o.data = .set es ep t ∧ (∀ e ∈ es.toList, TxtE w e) ∧ (es.toList.map txt).Perm l ∧
  es.size < scanBound ∧ t.fits es.size = true ∧ Ris t.place.toList ∧ (w.params.followText "set-order" = true ∨ t.led = true)
section
variable {P : Program} {w : World} {A : Around} {E : Value → Shared → Prop} {s : Shared} {a : Addr} {l : List Str}
theorem txt_el {es : List (Int × Value)} (g : ∀ e ∈ es, TxtE w e) : ElemsOf (PySem.strKind P w) es := fun e he => by
  obtain ⟨x, tk, rfl⟩ := g e he
  exact ⟨⟨x, strKind_is P w x tk, rfl⟩, rfl⟩
theorem txt_mem {es : List (Int × Value)} (g : ∀ e ∈ es, TxtE w e) (k : Str) : (∃ e ∈ es, (PySem.strKind P w).is k e.2 = true) ↔ k ∈ es.map txt := by
  rw [List.mem_map]
  refine exists_congr fun e => and_congr_right fun he => ?_
  obtain ⟨x, tk, rfl⟩ := g e he
  show (PySem.strKind P w).is k (.str x tk) = true ↔ x = k
  rw [KeyKind.is_eq_decide (strKind_is P w x tk) k, decide_eq_true_iff]
  exact eq_comm
theorem TabS.keep {h h' : Heap} (t : TabS w h a l) (k : ∀ o, h.get? a = some o → h'.get? a = some o) : TabS w h' a l := by
  obtain ⟨o, es, ep, tb, ho, r⟩ := t
  exact ⟨o, es, ep, tb, k o ho, r⟩
theorem tab_tail {g : Bool → Sem Unit} (hg : ∀ (b : Bool) (z : Shared) (Z : Unit → Shared → Prop), Z () z → wpAny (model P w) A (g b) Z E z) {o : Obj} {es fs : Array (Int × Value)} {ep : Nat} {t tb : SetTable} (ho : s.heap.get? a = some o) (hx : o.ExactSet) (hd : o.data = .set es ep t)
    (gf : ∀ e ∈ fs.toList, TxtE w e) (pf : (fs.toList.map txt).Perm l) (bf : fs.size < scanBound) (ff : tb.fits fs.size = true) (rf : Ris tb.place.toList) (lf : w.params.followText "set-order" = true ∨ tb.led = true) {wd : Bool} {R : Option Bool → Shared → Prop}
    (fin : ∀ h', Heap.SameBut a s.heap h' → TabS w h' a l → R (some true) { s with heap := h' }) :
    wpAny (model P w) A (do
      storeSet a fs tb
      if (!wd && tb.tooFull) = true then do
          g (relayAll tb fs (SetTable.grown fs.size)).2.2
          storeSet a (relayAll tb fs (SetTable.grown fs.size)).1 (relayAll tb fs (SetTable.grown fs.size)).2.1
          pure (some true)
        else pure (some true)) R E s := by
  refine wpAny_bind (wpAny_storeSet_of ho hd ?_ (fits_of_scanBound bf))
  have o1 := store_at (es' := fs) (t' := tb) ho hd
  have u1 := Heap.SameBut.update s.heap a (Obj.putSet fs tb)
  split
  · have q1 := relayAll_perm tb fs (SetTable.grown fs.size)
    have q2 := relayAll_fits tb fs (SetTable.grown fs.size)
    have q3 := relayAll_ris tb fs (SetTable.grown fs.size)
    have q4 := relayAll_led tb fs (SetTable.grown fs.size)
    generalize relayAll tb fs (SetTable.grown fs.size) = Y at q1 q2 q3 q4 ⊢
    obtain ⟨gs, tc, gave⟩ := Y
    dsimp only at q1 q2 q3 q4 ⊢
    have z1 : gs.size < scanBound := by
      have z2 := q1.length_eq
      rw [Array.length_toList, Array.length_toList] at z2
      rw [z2]; exact bf
    refine wpAny_bind (hg _ _ _ ?_)
    refine wpAny_bind (wpAny_storeSet_of o1 rfl ?_ (fits_of_scanBound z1))
    exact wpAny_pure (fin _ (u1.trans (Heap.SameBut.update _ a _)) ⟨_, gs, _, tc, store_at o1 rfl, hx, rfl, fun e he => gf e (q1.mem_iff.mp he), (q1.map txt).trans pf, z1, q2, q3, lf.imp id fun z => by rw [q4]; exact z⟩)
  · exact wpAny_pure (fin _ u1 ⟨_, fs, _, tb, o1, hx, rfl, gf, pf, bf, ff, rf, lf⟩)
theorem tab_add {k : Str} {tk : Tok} {Q : Bool → Shared → Prop} (T : TabS w s.heap a l) (room : l.length + 1 < scanBound)
    (fin : ∀ b h', Heap.SameBut a s.heap h' → TabS w h' a (if k ∈ l then l else l ++ [k]) → Q b { s with heap := h' }) :
    wpAny (model P w) A (setAddHashed a (.str k tk) ((PySem.strKind P w).hash k)) Q E s := by
  obtain ⟨o, es, ep, t, ho, hx, hd, g, pm, hb, hf, hr, hl⟩ := T
  have hk : (PySem.strKind P w).is k (.str k tk) = true := strKind_is P w k tk
  have hc : (Value.str k tk).scannable = true := rfl
  have el : ElemsOf (PySem.strKind P w) es.toList := txt_el g
  unfold setAddHashed setAddHashedIn
  refine wpAny_holding (wpAny_bind (wpAny_setState_of ho hd hf ?_))
  dsimp only
  rw [byScan_of hc hb el]
  simp only [↓reduceIte]
  unfold setAddByScan
  refine wpAny_bind ?_
  refine wpAny_bind (wpAny_rule ?_)
  refine wpAny_bind (wpAny_setScan_of hk ho hd hf el ?_)
  cases hfi : List.findIdx? (fun e => (PySem.strKind P w).is k e.2) es.toList with
  | some j =>
    dsimp only
    obtain ⟨hj, pj, _⟩ := List.findIdx?_eq_some_iff_getElem.mp hfi
    have hin : k ∈ l := pm.mem_iff.mp ((txt_mem (P := P) g k).mp ⟨_, List.getElem_mem hj, pj⟩)
    have q := fin false s.heap (Heap.SameBut.refl a s.heap) (by rw [if_pos hin]; exact ⟨o, es, ep, t, ho, hx, hd, g, pm, hb, hf, hr, hl⟩)
    exact wpAny_pure (wpAny_pure q)
  | none =>
    dsimp only
    have hno : k ∉ l := fun z => by
      obtain ⟨e, he, q⟩ := (txt_mem (P := P) g k).mpr (pm.mem_iff.mpr z)
      have c := List.findIdx?_eq_none_iff.mp hfi e he
      rw [q] at c
      cases c
    rw [if_neg hno] at fin
    have gw : ∀ (b : Bool) {z : Shared} {Z : Unit → Shared → Prop}, Z () z → wpAny (model P w) A (match b with | true => rule "set.scan.the-table-gave-way" | false => pure ()) Z E z := fun b z Z q => by
      cases b
      · exact wpAny_pure q
      · exact wpAny_rule q
    have n1 := layNew_perm t es ((PySem.strKind P w).hash k) (.str k tk)
    have n2 := layNew_fits t es ((PySem.strKind P w).hash k) (.str k tk)
    have n3 := layNew_ris t es ((PySem.strKind P w).hash k) (.str k tk) hr
    have n4 := layNew_led t es ((PySem.strKind P w).hash k) (.str k tk)
    generalize layNew t es ((PySem.strKind P w).hash k) (.str k tk) = Y at n1 n2 n3 n4 ⊢
    obtain ⟨fs, tb, wd, gave⟩ := Y
    dsimp only at n1 n2 n3 n4 ⊢
    rw [Array.toList_push] at n1
    have gf : ∀ e ∈ fs.toList, TxtE w e := fun e he => by
      rcases List.mem_append.mp (n1.mem_iff.mp he) with z | z
      · exact g e z
      · rw [List.mem_singleton.mp z]; exact ⟨k, tk, rfl⟩
    have pf : (fs.toList.map txt).Perm (l ++ [k]) := by
      have := n1.map txt
      rw [List.map_append] at this
      exact this.trans (pm.append_right [k])
    have bf : fs.size < scanBound := by
      have := pf.length_eq
      rw [List.length_map, Array.length_toList, List.length_append] at this
      rw [this]; exact room
    have lf : w.params.followText "set-order" = true ∨ tb.led = true := hl.imp id fun z => by rw [n4]; exact z
    refine wpAny_bind (gw _ ?_)
    split
    · refine wpAny_bind ?_
      rw [hashByValue_scannable 8 hc]
      refine wpAny_pure ?_
      refine tab_tail (l := l ++ [k]) ?_ ho hx hd gf pf bf ?_ ?_ ?_ ?_
      · intro b z Z q
        cases b
        · first | exact wpAny_pure q | exact wpAny_rule q
        · first | exact wpAny_rule q | exact wpAny_pure q
      · first | exact n2 | (split <;> first | exact n2 | exact SetTable.fits_plain_off n2)
      · first | exact n3 | (split <;> exact n3)
      · first | exact lf | (split <;> exact lf)
      · intro h' sb r; dsimp only; exact wpAny_pure (fin true h' sb r)
    · refine wpAny_bind (wpAny_pure ?_)
      simp only [↓reduceIte]
      refine tab_tail (l := l ++ [k]) ?_ ho hx hd gf pf bf n2 n3 lf ?_
      · intro b z Z q
        cases b
        · first | exact wpAny_pure q | exact wpAny_rule q
        · first | exact wpAny_rule q | exact wpAny_pure q
      · intro h' sb r; dsimp only; exact wpAny_pure (fin true h' sb r)
theorem tab_new {h : Heap} {S : Addr} (e : h.get? S = some (fset w)) : TabS w h S [] :=
  ⟨_, #[], 0, _, e, ⟨rfl, rfl, rfl⟩, rfl, (fun e he => by simp at he), List.Perm.refl _, by decide, by rfl, List.Pairwise.nil, by
    show _ ∨ (!w.params.followText "set-order") = true
    cases w.params.followText "set-order"
    · exact .inr rfl
    · exact .inl rfl⟩
/-- set(texts), walkable -/
theorem fills_tab {items : Array Value} {S : Addr} {xs : List Str} (hi : StrsAre items.toList xs) (hb : xs.length + 1 < scanBound) : Fills P w items S fun i h => TabS w h S (uniq (xs.take i)) := fun A I fp wr G St R s W hS st t0 q => by
  have hsz : items.size = xs.length := by rw [← StrsAre.len_eq hi, Array.length_toList]
  have hSw : S ∉ wr := fun h => hS (W.sub _ h)
  have up : ∀ b ∈ wr, b ∈ S :: wr := fun b hb => List.mem_cons_of_mem _ hb
  have main : ∀ (k i : Nat) (s : Shared) (R : Result → Shared → Prop), items.size - i = k → i ≤ items.size → St i s → TabS w s.heap S (uniq (xs.take i)) →
      (∀ s', Moved (S :: wr) G s s' → TabS w s'.heap S (uniq (xs.take items.size)) → R (.ok (.ret .none)) s') → codeAny (model P w) A (.builtin "set.update.loop" ⟨[.ref S, .ref I], []⟩) R s := by
    intro k
    induction k with
    | zero =>
      intro i s R hk hi2 st t q
      have e : i = items.size := by omega
      subst e
      refine codeAny_builtin PyProof.Rows.F.entry_set_update_loop ?_; rw [Around.under_plainId PyProof.Rows.F.plain_set_update_loop _]
      show wpAny _ A.in1 (pyNext (.ref I) >>= _) _ _ s; refine wpAny_bind (W.done s _ _ st fun s' hm => ?_)
      show wpAny _ A.in1 (ret Value.none) _ _ s'; exact wpAny_pure (q s' (hm.mono up) (t.keep fun o => hm.heap S o hSw))
    | succ k ih =>
      intro i s R hk hi2 st t q
      have hlt : i < items.size := by omega
      have hx : i < xs.length := by omega
      refine codeAny_builtin PyProof.Rows.F.entry_set_update_loop ?_; rw [Around.under_plainId PyProof.Rows.F.plain_set_update_loop _]
      show wpAny _ A.in1 (pyNext (.ref I) >>= _) _ _ s; refine wpAny_bind (W.item i s _ _ hlt st fun v s' hP st' hm => ?_)
      obtain ⟨tk, ev⟩ := SS.strs_at hi i v (by rw [Array.getElem?_toList]; exact hP)
      have ex : xs.getD i Str.empty = xs[i] := by rw [List.getD_eq_getElem?_getD, List.getElem?_eq_getElem hx]; rfl
      rw [ex] at ev
      subst ev
      have t1 : TabS w s'.heap S (uniq (xs.take i)) := t.keep fun o => hm.heap S o hSw
      show wpAny _ A.in1 (holding [Value.str xs[i] tk] (setAdd S (.str xs[i] tk)) >>= _) _ _ s'; refine wpAny_bind (wpAny_holding ?_)
      unfold setAdd; refine wpAny_holding (wpAny_bind ((PySem.strKind P w).pyHash (k := xs[i]) (strKind_is _ _ _ _) ?_))
      have room : (uniq (xs.take i)).length + 1 < scanBound := by have := uniq_le (xs.take i); rw [List.length_take] at this; omega
      refine tab_add (s := { s' with toks := s'.toks + 1 }) t1 room fun b0 h2 hsb t2 => ?_
      rw [← uniq_snoc, show xs.take i ++ [xs[i]] = xs.take (i + 1) by rw [List.take_add_one, List.getElem?_eq_getElem hx]; rfl] at t2
      refine wpAny_pure ⟨plainId_quiet PyProof.Rows.F.plain_set_update_loop _, ih (i + 1) _ R (by omega) hlt (W.frame _ s' _ _ st' (Nat.le_succ _) fun b hb o e => ?_) t2 fun s3 hm3 t3 => q s3 (Moved.trans W.gtrans ((hm.mono up).then_heap (Nat.le_succ _) fun b o hb e => ?_) hm3) t3⟩
      · rw [hsb.2 b fun z : b = S => hS (by rw [← z]; exact hb)]; exact e
      · rw [hsb.2 b fun z : b = S => hb (by rw [z]; exact List.mem_cons_self)]; exact e
  exact main _ 0 s R rfl (Nat.zero_le _) st t0 q
theorem strs_txt : ∀ (vs : List Value), (∀ v ∈ vs, ∃ x tk, v = Value.str x tk) → StrsAre vs (vs.map fun v => txt (0, v))
  | [], _ => .nil
  | v :: vs, h => by
    obtain ⟨x, tk, rfl⟩ := h v List.mem_cons_self
    exact .cons x tk (strs_txt vs fun u hu => h u (List.mem_cons_of_mem _ hu))
/-- sorted of such a set -/
theorem tab_sorted {Q : Value → Shared → Prop} (T : TabS w s.heap a l) (hh : A.handled = none) (h64 : l.length < 64)
    (fin : ∀ s' p (out : Array Value) (c : Nat) (ys : List Str), (∀ b o, s.heap.get? b = some o → s'.heap.get? b = some o) → s'.gens = s.gens → s'.os = s.os → s.heap.objs.size ≤ p →
      s'.heap.get? p = some (seqObj "list" out c) → StrsAre out.toList ys → ys.Perm l → sortedS ys = true → Q (.ref p) s') :
    wpAny (model P w) A (call (.builtin "sorted") [.ref a]) Q E s := by
  obtain ⟨o, es, ep, t, ho, hx, hd, g, pm, hb, hf, hr, hl⟩ := T
  refine Calls.call_function_entry kind_sorted plain_sorted entry_sorted (args_sorted1 _) ?_
  unfold Builtin.«sorted»
  refine wpAny_bind (m := checkCount "sorted" 1 1 _) (wpAny_pure ?_)
  refine wpAny_bind (collect_set (A := A.in1) hh ⟨o, ho, hx.1, hd⟩ hf hb hr hl fun s1 vs k1 hz g1 o1 pv => ?_)
  have hS : StrsAre vs (vs.map fun v => txt (0, v)) := strs_txt vs fun v hv => by
    obtain ⟨e, he, q⟩ := List.mem_map.mp (pv.mem_iff.mp hv)
    obtain ⟨x, tk, rfl⟩ := g e he
    exact ⟨x, tk, q.symm⟩
  have pk : (vs.map fun v => txt (0, v)).Perm l := by
    have := pv.map fun v => txt (0, v)
    rw [List.map_map] at this
    exact this.trans pm
  have hv : vs.length < 64 := by
    have := pk.length_eq
    rw [List.length_map] at this
    rw [this]; exact h64
  refine wpAny_bind (wpAny_newList ?_ (by rw [sizeLine_eq]; omega))
  have hL : (s1.heap.push (seqObj "list" vs.toArray 0)).get? s1.heap.objs.size = some (seqObj "list" vs.toArray 0) := Heap.get?_push_size _ rfl
  refine wpAny_bind (wpAny_holding (wpAny_call_entry slot_list_sort ⟨_, hL, rfl⟩ entry_list_sort (list_sort_treeK strKind_oneLt hL hS.keysOf (fun v₁ v₂ rest e => keyKind_strs (by rw [← e]; exact hS)) hv fun st' hp hs => ⟨_, rfl, ?_⟩) (args_list_sort _)))
  obtain ⟨ys, y1, y2, y3⟩ := sorted_out_str hS hp hs
  obtain ⟨c, hcc⟩ := sortedHeap_at (vs := vs) (out := (arrOf st').map (·.2)) hL
  refine wpAny_pure ⟨_, rfl, fin _ s1.heap.objs.size _ c ys (fun b u e => ?_) g1 o1 hz hcc y1 (y2.trans pk) y3⟩
  have q := k1 b u e
  have hlt := Heap.lt_size q
  show (sortedHeap (s1.heap.push (seqObj "list" vs.toArray 0)) s1.heap.objs.size vs _).get? b = some u
  rw [sortedHeap_old (Nat.ne_of_lt hlt) (by rw [size_push']; exact Nat.lt_succ_of_lt hlt)]
  exact Heap.get?_push_of_some _ q
end
def tSortSetS (K : PySem.W.Frag) (ta : TE) : TE := fun σ H Q => ta σ H fun x H1 => ∃ (l : Addr) (xs : List Str), x = .ref l ∧ SqL K H1 l (xs.map V.str) ∧ xs.length < 64 ∧ ∀ (ys : List Str) (p : Addr), ys.Perm (uniq xs) → sortedS ys = true → H1 p = none → Q (.ref p) (upd H1 p (.lst (ys.map V.str)))
section
variable {X : Cx} {a : Expr} {ta : TE} {p p2 q pos : Pos}
theorem pe_sortSetS (hg : Gl X "sorted") (hm : X.mg "sorted" = none) (hg2 : Gl X "set") (hm2 : X.mg "set" = none) (ha : PE X a ta) (hc : X.calm = true) (na : starEach [a] X.env = (false, eval a X.env) :: starEach [] X.env) : PE X (.Call (.Name "sorted" p) [.Call (.Name "set" p2) [a] [] q] [] pos) (tSortSetS X.K ta) := by
  refine ⟨fun pins s σ H Q I h => ?_⟩
  refine Call_ (ld_blt I hg hm bi_sorted (PyProof.Rows.callWith_builtin1 (PyProof.Rows.args_cons ?_ rfl) rfl rfl))
  refine Call_ (ld_blt I hg2 hm2 boot_set (PyProof.Rows.callWith_type1 (PyProof.Rows.args_cons (thn (ha.run pins s σ H _ I h) fun v s1 ⟨x, H1, I1, r1, l, xs, ex, hq, h64, q1⟩ => PyProof.Rows.args_nil ?_) na) na rfl))
  subst ex
  cases r1
  obtain ⟨its, r, pl, hz⟩ := I1.list hq
  have hi : StrsAre its.toArray.toList xs := by simpa using strsAre_of r
  have hsz : its.toArray.size = xs.length := by rw [← StrsAre.len_eq hi, Array.length_toList]
  refine set_of_list (I1.ok.hd hc) pl.isList (T := fun i h => TabS X.w h s1.heap.objs.size (uniq (xs.take i))) (fun h e => tab_new e) (fills_tab hi (by unfold scanBound; omega)) fun h' tk hS hk => ?_
  refine PyProof.Rows.args_nil ?_
  rw [hsz, List.take_length] at hS
  have hle := uniq_le xs
  have I2 : Inv X pins σ H1 { s1 with heap := h', toks := tk } := I1.kept hk
  refine tab_sorted hS (I2.ok.hd hc) (by omega) fun s' p0 out c ys k g o hp hcc y1 y2 y3 => ?_
  have hlen : (ys.map V.str).length ≤ sizeLine := by rw [List.length_map, y2.length_eq, sizeLine_eq]; omega
  have hn : H1 p0 = none := I2.hok.fresh hp
  have J : Inv X pins σ (upd H1 p0 (.lst (ys.map V.str))) { ({ s1 with heap := h', toks := tk } : Shared) with heap := s'.heap, gens := s'.gens, drawn := s'.drawn, toks := s'.toks } :=
    I2.call (ch := []) (Un.laid k hp hn) (I2.hok.laid k hp ⟨hlen, out.toList, c, L2.vals_of_strs y1, hcc⟩) (by rw [g]; exact I2.bare) (fun _ z => nomatch z)
  have e : s' = { ({ s1 with heap := h', toks := tk } : Shared) with heap := s'.heap, gens := s'.gens, drawn := s'.drawn, toks := s'.toks } := by
    cases s'
    cases s1
    cases o
    rfl
  rw [e]
  exact ⟨.ref p0, _, J, rfl, q1 ys p0 y2 y3 hn⟩
variable {sg : Sg} {M : Mem} {Q : D → Mem → Prop}
theorem rpa_strs {K : PySem.W.Frag} {G : Hp} : ∀ xs : List Str, RpA K G (xs.map V.str) (xs.map D.str)
  | [] => .nil
  | x :: xs => .cons (.str x) (rpa_strs xs)
/-- sorted(set(texts)) -/
theorem we_sortSetS (hm : X.mg "sorted" = none) (hm2 : X.mg "set" = none) (hc : X.calm = true) (h : WE X a sg M fun x M1 => ∃ xs : List Str, LsD M1 x (xs.map .str) ∧ xs.length < 64 ∧ ∀ ys : List Str, ys.Perm (uniq xs) → sortedS ys = true → Q (.lst (ys.map .str)) M1) (hg : Gl X "sorted" := by rfl) (hg2 : Gl X "set" := by rfl) (na : starEach [a] X.env = (false, eval a X.env) :: starEach [] X.env := by exact star1n rfl) : WE X (.Call (.Name "sorted" p) [.Call (.Name "set" p2) [a] [] q] [] pos) sg M Q :=
  WE.of (pe_sortSetS hg hm hg2 hm2 pe_w hc na) fun σ H G w s => (h σ H G w s).imp fun v H1 ⟨x, G1, M1, st, w1, r1, xs, hl, h64, q⟩ => by
    obtain ⟨b, zs, rfl, hH, rx⟩ := hl.at w1 r1
    have := rx.strs
    subst this
    refine ⟨b, xs, rfl, SqL.of hH, h64, fun ys p hy hs hp => ?_⟩
    exact (new_lst w1 hp (rpa_strs ys) (q ys hy hs)).base st
end
end DL
set_option Elab.async false
set_option linter.all false
set_option maxRecDepth 100000
set_option maxHeartbeats 4000000
/-! DMo: sorted(a list of alike data); dicts keyed by tuples of ints: dict(pairs), {}, get with a default, sorted. -/
namespace DL
open PySem PySem.Spec PyProof.Rows L2
/-! ### sorted, over data of any depth -/
abbrev srtD (ds : List D) : List D := ds.mergeSort (PySem.W.dataLe false toPy)
def rSortD (K : PySem.W.Frag) : List V → Hp → VK → Prop := fun vs H Q => ∃ (a : Addr) (xs : List V) (bs : List D) (F : V → D → Prop), vs = [V.ref a] ∧ SqL K H a xs ∧ Paired F xs bs ∧ (∀ x b, F x b → Dp K H x (toPy b)) ∧ PySem.W.AllAlike (bs.map toPy) ∧ PySem.W.Sortable (bs.map toPy) ∧ (∀ b ∈ bs, (toPy b).depth ≤ 60) ∧
  ∀ ys p, Paired F ys (srtD bs) → H p = none → Q (.ref p) (upd H p (.lst ys))
theorem each_of {F : V → D → Prop} : ∀ {xs : List V} {us : List Value} {bs : List D}, Vals xs us → Paired F xs bs → PySem.W.EachIs (fun u b => ∃ x, RelV x u ∧ F x b) us bs
  | _, _, _, .nil, .nil => .nil
  | _, _, _, .cons r t, .cons f g => .cons ⟨_, r, f⟩ (each_of t g)
theorem of_each {F : V → D → Prop} : ∀ {us : List Value} {bs : List D}, PySem.W.EachIs (fun u b => ∃ x, RelV x u ∧ F x b) us bs → ∃ xs, Vals xs us ∧ Paired F xs bs
  | _, _, .nil => ⟨[], .nil, .nil⟩
  | _, _, .cons ⟨x, r, f⟩ t => by
    obtain ⟨xs, a, b⟩ := of_each t
    exact ⟨x :: xs, .cons r a, .cons f b⟩
theorem cr_sortD {X : Cx} (hu : X.A.units + 64 < cLine) : CallR X (.builtin "sorted") (rSortD X.K) := by
  intro pins s σ H vs us R I r h
  obtain ⟨a, xs, bs, F, rfl, hs, hp, hF, hal, hk, hd, q⟩ := h
  obtain ⟨its, rv, hl, hz⟩ := I.list hs
  obtain ⟨u, rfl, ru⟩ := vals1 r
  obtain rfl : u = Value.ref a := ru
  have e := each_of rv hp
  have er : PySem.W.EachIs (fun u b => ∃ as, Reads s.heap u (toPy b) as) its bs := e.mono fun u b ⟨x, r, f⟩ => Dp.reads I _ x u (hF x b f) r
  have hbl : bs.length ≤ sizeLine := by
    have := e.length
    rw [← this, ← rv.length]
    exact hz
  refine PySem.W.sorted_data hl.isList e er hal hk hbl (fun b hb => ?_) fun out ho eo => ?_
  · have := hd b hb
    omega
  obtain ⟨ys, y1, y2⟩ := of_each eo
  obtain ⟨ep, he'⟩ := PyProof.Rows.sortedAll_at s.heap its out.toArray
  have hlen : ys.length ≤ sizeLine := by rw [y1.length, ho]; exact hbl
  exact ⟨.ref _, upd H (s.heap.objs.size + 1) (.lst ys), I.laid (t' := s.toks) (fun _ _ => PyProof.Rows.sortedAll_old) (Nat.le_succ _) ⟨hlen, out, ep, y1, he'⟩, rfl, q ys _ y2 (I.hok.fresh (Nat.le_succ _))⟩
theorem rpa_paired {K : PySem.W.Frag} {G : Hp} : ∀ {vs : List V} {ds : List D}, RpA K G vs ds → plA ds = true → Paired (fun v d => Rp K G v d ∧ pl d = true) vs ds
  | _, _, .nil, _ => .nil
  | _, _, .cons h r, e => by
    obtain ⟨e1, e2⟩ := Bool.and_eq_true_iff.mp e
    exact .cons ⟨h, e1⟩ (rpa_paired r e2)
theorem paired_rpa {K : PySem.W.Frag} {G : Hp} : ∀ {vs : List V} {ds : List D}, Paired (fun v d => Rp K G v d ∧ pl d = true) vs ds → RpA K G vs ds
  | _, _, .nil => .nil
  | _, _, .cons h r => .cons h.1 (paired_rpa r)
theorem cd_sortD {K : PySem.W.Frag} {M : Mem} {Q : D → Mem → Prop} {x : D} {ds : List D} (h : LsD M x ds) (hp : plA ds = true) (hal : PySem.W.AllAlike (ds.map toPy)) (hk : PySem.W.Sortable (ds.map toPy)) (hd : ∀ b ∈ ds, (toPy b).depth ≤ 60) (q : Q (.lst (srtD ds)) M) : ClD K (rSortD K) [x] M Q := fun G H vs R w r k => by
  obtain ⟨v, rfl, rv⟩ := r.one
  obtain ⟨a, xs, rfl, h1, r1⟩ := h.at w rv
  exact ⟨a, xs, ds, _, rfl, SqL.of h1, rpa_paired r1 hp, fun x b hb => dp_of w.sub hb.1 hb.2, hal, hk, hd, fun ys p hy hn => k _ _ (new_lst w hn (paired_rpa hy) q)⟩
/-! ### dicts keyed by tuples -/
def mergeT {κ : Type} [DecidableEq κ] {β : Type} (put : List (κ × β) → κ → β → List (κ × β)) (acc more : List (κ × β)) : List (κ × β) := more.foldl (fun acc p => put acc p.1 p.2) acc
def rDictPT (K : PySem.W.Frag) : List V → Hp → VK → Prop := fun xs H Q => ∃ (a : Addr) (as : List Addr) (kvs : List (List Key × V)), xs = [V.ref a] ∧ SqL K H a (as.map V.ref) ∧ Paired (fun p kv => ∃ b, SqT K H p [.ref b, kv.2] ∧ H b = some (.tup (kv.1.map kV))) as kvs ∧
  ∀ p, H p = none → Q (.ref p) (upd H p (.dT (mergeT putK [] kvs)))
section
variable {X : Cx}
theorem kt_all {H : Hp} : ∀ {more : List (List Key × V)} {ms : List (List Key × Addr × Value)} {kvs : List (List Key × V)} {xs : List (List Key × Addr × Value)}, KT H kvs xs → KT H more ms → KT H (mergeT putK kvs more) (PySem.storedAllH xs ms)
  | [], _, _, _, h, .nil => h
  | p :: more, _, _, _, h, .cons (b := q) ⟨e1, e2, e3⟩ t => by
    have := kt_all (h.put p.1 e2 e3) t
    rw [e1] at this
    unfold mergeT PySem.storedAllH at this ⊢
    rw [List.foldl_cons, List.foldl_cons, e1]
    exact this
theorem pairs_at {pins : List (Addr × Obj)} {σ : L2.St} {H : Hp} {s : Shared} (I : Inv X pins σ H s) : ∀ {as : List Addr} {kvs : List (List Key × V)}, Paired (fun p kv => ∃ b, SqT X.K H p [.ref b, kv.2] ∧ H b = some (.tup (kv.1.map kV))) as kvs →
    ∃ ps : List (List Key × Addr × Value), KT H kvs ps ∧ ps.length = as.length ∧ ∀ (j : Nat) (x : List Key × Addr × Value), ps[j]? = some x → ∃ p, as[j]? = some p ∧ PySem.PairAt s.heap p (.ref x.2.1) x.2.2
  | _, _, .nil => ⟨[], .nil, rfl, fun j x e => by simp at e⟩
  | p :: as, kv :: kvs, .cons ⟨b, h1, h2⟩ t => by
    obtain ⟨ps, k, hl, g⟩ := pairs_at I t
    obtain ⟨its, r, ⟨o, ho, hc, n, hd⟩, _⟩ := I.tuple h1
    obtain ⟨u1, u2, rfl, r1, r2⟩ := vals2 r
    obtain rfl : u1 = Value.ref b := r1
    refine ⟨(kv.1, b, u2) :: ps, .cons ⟨rfl, h2, r2⟩ k, by rw [List.length_cons, List.length_cons, hl], fun j x e => ?_⟩
    cases j with
    | zero =>
      cases e
      exact ⟨p, rfl, .inl ⟨o, ho, hc, n, hd⟩⟩
    | succ j =>
      obtain ⟨p', e1, e2⟩ := g j x (by simpa using e)
      exact ⟨p', by simpa using e1, e2⟩
theorem merge_len {κ β : Type} [DecidableEq κ] (put : List (κ × β) → κ → β → List (κ × β)) (hp : ∀ l k b, (put l k b).length ≤ l.length + 1) : ∀ (more acc : List (κ × β)), (mergeT put acc more).length ≤ acc.length + more.length
  | [], acc => Nat.le_refl _
  | p :: more, acc => by
    have h1 := merge_len put hp more (put acc p.1 p.2)
    have h2 := hp acc p.1 p.2
    unfold mergeT at h1 ⊢
    rw [List.foldl_cons, List.length_cons]
    omega
theorem call_dictPT (hcalm : X.calm = true) (hu : X.A.units + 2 < cLine) : CallR X (.type "dict") (rDictPT X.K) := by
  intro pins s σ H xs us Q I r q
  obtain ⟨a, as, kvs, ex, hq, hp, q⟩ := q
  subst ex
  obtain ⟨u, eu, rx⟩ := vals1 r
  subst eu
  cases rx
  obtain ⟨its, rv, pl, hz⟩ := I.list hq
  have ei := refs_at rv
  subst ei
  rw [List.length_map] at hz
  obtain ⟨ps, kt, hl, hpr⟩ := pairs_at I hp
  obtain ⟨o, n, ho, hc, hd, hdat⟩ := pl
  have keys : ∀ x ∈ ps, (tupleKind (mixKind X.prog X.w)).is s.heap x.1 x.2.1 := by
    have all : ∀ {l : List (List Key × V)} {m : List (List Key × Addr × Value)}, KT H l m → ∀ x ∈ m, (tupleKind (mixKind X.prog X.w)).is s.heap x.1 x.2.1 := by
      intro l m q
      induction q with
      | nil => intro x hx; exact nomatch hx
      | @cons p q ps qs hq t ih =>
        intro x hx
        rcases List.mem_cons.mp hx with e | hx
        · subst e
          exact key_of I.hok (by rw [← hq.1]; exact hq.2.1)
        · exact ih x hx
    exact all kt
  have hpl : (ps.map fun x => (Value.ref x.2.1, x.2.2)).length = ps.length := List.length_map ..
  refine PySem.call_dict_pairsH (knd := tupleKind (mixKind X.prog X.w)) (ps := ps) (PySem.PairArg.list a (as.map Value.ref).toArray (fun j => as.getD j 0) (ps.map fun x => (Value.ref x.2.1, x.2.2))) (I.ok.hd hcalm) ?_ ⟨⟨o, n, ho, hc, hd, hdat⟩, ?_, fun j k v e => ?_⟩ ⟨hpl.symm, fun i key v e => ?_⟩ (fun h' hk x hx => ?_) (by rw [hpl, hl]; exact hz) fun h' tk dd hk => ?_
  · exact hu
  · rw [hpl, hl]; simp
  · rw [List.getElem?_map] at e
    cases ej : ps[j]? with
    | none => rw [ej] at e; cases e
    | some x =>
      rw [ej] at e
      obtain ⟨p, e1, e2⟩ := hpr j x ej
      cases e
      have eg : as.getD j 0 = p := by rw [List.getD_eq_getElem?_getD, e1]; rfl
      show (as.map Value.ref).toArray[j]? = some (Value.ref (as.getD j 0)) ∧ PySem.PairAt s.heap (as.getD j 0) _ _
      rw [eg]
      exact ⟨by simp [e1], e2⟩
  · unfold PySem.PairRel at e
    rw [List.getElem?_map] at e
    cases ej : ps[i]? with
    | none => rw [ej] at e; cases e
    | some x =>
      rw [ej] at e
      cases e
      exact ⟨x.1, x.2.1, rfl, rfl⟩
  · obtain ⟨o1, its1, n1, h1, h2, h3⟩ := keys x hx
    exact ⟨o1, its1, n1, hk _ _ (Nat.ne_of_lt (Heap.lt_size h1)) (List.not_mem_nil) h1, h2, h3⟩
  · have hm : (s.heap.objs.size == sysModules) = false := beq_eq_false_iff_ne.mpr (Nat.ne_of_gt I.big)
    have hlen : (mergeT putK [] kvs).length ≤ sizeLine := by
      refine Nat.le_trans (merge_len putK (fun l k b => ?_) kvs []) ?_
      · unfold putK
        split
        · rw [List.length_map]; omega
        · rw [List.length_append]; exact Nat.le_refl _
      · rw [List.length_nil, Nat.zero_add, Paired.length kt, hl]
        exact hz
    obtain ⟨o', es, ep, g1, g2, g3, g4, _, g5⟩ := dd
    exact ⟨.ref s.heap.objs.size, upd H s.heap.objs.size (.dT (mergeT putK [] kvs)), I.laid (t' := tk) (fun b o e => hk b o List.not_mem_nil e) (Nat.le_refl _) (show ObjOk X.prog X.w _ _ _ (.dT (mergeT putK [] kvs)) from ⟨hlen, hm, _, (kt_all .nil kt).keeps fun b ys e => by rw [upd_ne (ne_of_none e (I.hok.fresh (Nat.le_refl _)))]; exact e, o', es, ep, g1, g2, g3, g4, g5⟩), rfl, q _ (I.hok.fresh (Nat.le_refl _))⟩
end
end DL
set_option Elab.async false
set_option linter.all false
set_option maxRecDepth 100000
set_option maxHeartbeats 4000000
/-! DMp: dicts keyed by tuples of ints, by data: dict(pairs), {}, get with a default; pop. -/
namespace DL
open PySem PySem.Spec PyProof.Rows L2
section
variable {K : PySem.W.Frag} {G : Hp}
abbrev DT := List (List Int × D)
theorem pt_all : ∀ {more : DT} {ms : List (List Key × V)} {kvs : DT} {vs : List (List Key × V)}, KVd K G vs (kvs.map fun p => (inlK p.1, p.2)) → KVd K G ms (more.map fun p => (inlK p.1, p.2)) → KVd K G (mergeT putK vs ms) ((mergeT pt kvs more).map fun p => (inlK p.1, p.2))
  | [], [], _, _, h, _ => h
  | [], m :: ms, _, _, _, ⟨e, _⟩ => nomatch e
  | p :: more, [], _, _, _, ⟨e, _⟩ => nomatch e
  | p :: more, m :: ms, kvs, vs, h, ⟨e, r⟩ => by
    rw [List.map_cons, List.map_cons, List.map_cons] at e
    have e1 := (List.cons.inj e).1
    have e2 := (List.cons.inj e).2
    cases r with
    | cons r1 r2 =>
      have := pt_all (pt_rp (k := p.1) h r1) ⟨e2, r2⟩
      unfold mergeT at this ⊢
      rw [List.foldl_cons, List.foldl_cons, show m.1 = inlK p.1 from e1]
      exact this
theorem tup2_at {H : Hp} {M : Mem} {x : V} {ks : List Int} {d : D} (w : Wd K G M H) (r : Rp K G x (.tup [.tup (ks.map .int), d])) : ∃ p b v, x = .ref p ∧ SqT K H p [.ref b, v] ∧ H b = some (.tup ((inlK ks).map kV)) ∧ Rp K G v d := by
  cases r with
  | tup h1 r1 =>
    obtain ⟨u, v, rfl, ru, rv⟩ := r1.two
    obtain ⟨b, rfl, hb⟩ := tup_at w ru
    exact ⟨_, b, v, rfl, h1.sq w.sub, hb, rv⟩
theorem tups_at {H : Hp} {M : Mem} (w : Wd K G M H) : ∀ {xs : List V} {ps : DT}, RpA K G xs (ps.map fun p => .tup [.tup (p.1.map .int), p.2]) → ∃ (as : List Addr) (kvs : List (List Key × V)), xs = as.map V.ref ∧ Paired (fun p kv => ∃ b, SqT K H p [.ref b, kv.2] ∧ H b = some (.tup (kv.1.map kV))) as kvs ∧ KVd K G kvs (ps.map fun p => (inlK p.1, p.2))
  | _, [], .nil => ⟨[], [], rfl, .nil, rfl, .nil⟩
  | _, p :: ps, .cons r t => by
    obtain ⟨a, b, v, rfl, h1, h2, h3⟩ := tup2_at w r
    obtain ⟨as, kvs, rfl, hp, ⟨e, rr⟩⟩ := tups_at w t
    exact ⟨a :: as, (inlK p.1, v) :: kvs, rfl, .cons ⟨b, h1, h2⟩ hp, by rw [List.map_cons, List.map_cons, List.map_cons, e], .cons h3 rr⟩
theorem cd_dictPT {M : Mem} {Q : D → Mem → Prop} {x : D} {ps : DT} (h : LsD M x (ps.map fun p => .tup [.tup (p.1.map .int), p.2])) (q : ∀ p, M p = none → Q (.ptr p) (updM M p (some (.dit (mergeT pt [] ps))))) : ClD K (rDictPT K) [x] M Q := fun G H vs R w r k => by
  obtain ⟨v, rfl, rv⟩ := r.one
  obtain ⟨a, xs, rfl, h1, r1⟩ := h.at w rv
  obtain ⟨as, kvs, rfl, hp, kv⟩ := tups_at w r1
  refine ⟨a, as, kvs, rfl, SqL.of h1, hp, fun p hn => k _ _ ?_⟩
  have kv2 : KVd K G (mergeT putK [] kvs) ((mergeT pt [] ps).map fun p => (inlK p.1, p.2)) := pt_all ⟨rfl, .nil⟩ kv
  obtain ⟨w2, st⟩ := w.newM hn (o := .dT (mergeT putK [] kvs)) (mo := .dit (mergeT pt [] ps)) ⟨_, upd_same, kv2⟩
  exact ⟨.ptr p, G, _, st, w2, .ptr p, q p (w.free hn).2⟩
end
section
variable {X : Cx} {sg : Sg} {M : Mem} {o e f : Expr} {apos cpos pos : Pos} {Q : D → Mem → Prop}
/-- {}, to be keyed by tuples -/
theorem we_tnew (h : ∀ p, M p = none → Q (.ptr p) (updM M p (some (.dit [])))) : WE X (.Dict [] [] pos) sg M Q :=
  WE.of pe_dnewT fun σ H G w s => fun p hp => by
    obtain ⟨w0, st0⟩ := w.newM hp (o := .dT []) (mo := .dit []) ⟨[], upd_same, rfl, .nil⟩
    exact ⟨.ptr p, G, _, st0, w0, .ptr p, h p (w.free hp).2⟩
/-- d.get(k, x), d keyed by tuples -/
theorem we_tget2 (hu : X.A.units + 1 < cLine) (h : WE X o sg M fun x M1 => ∃ p kvs, x = .ptr p ∧ M1 p = some (.dit kvs) ∧ WE X e sg M1 fun y M2 => WE X f sg M2 fun z M3 => ∃ kvs ks, y = .tup (ks.map .int) ∧ M3 p = some (.dit kvs) ∧ Q ((gt kvs ks).getD z) M3) (m : M2 X o "get" apos e f cpos) : WE X (.Call (.Attribute o "get" apos) [e, f] [] cpos) sg M Q :=
  WE.of (pe_dget2 hu pe_w pe_w pe_w m) fun σ H G w s => (h σ H G w s).imp fun x H1 ⟨dx, G1, M1, st, w1, r1, p, kvs, e1, hm, q1⟩ => by
    subst e1
    cases r1
    obtain ⟨vs, hH, kv⟩ := dit_at w1 hm
    refine ⟨p, rfl, .inr ⟨vs, .inl hH⟩, (q1 σ H1 G1 w1 (s.mono (st.gx w))).imp fun y H2 ⟨dy, G2, M2, st2, w2, r2, q2⟩ => (q2 σ H2 G2 w2 ((s.mono (st.gx w)).mono (st2.gx w1))).imp fun z H3 ⟨dz, G3, M3, st3, w3, r3, kvs3, ks, e2, hm3, q⟩ => ?_⟩
    subst e2
    obtain ⟨b, rfl, hb⟩ := tup_at w3 (r2.mono (st3.gx w2))
    obtain ⟨vs3, hH3, kv3⟩ := dit_at w3 hm3
    refine ⟨valV vs3 (inlK ks), .inr ⟨vs3, inlK ks, b, .inl hH3, rfl, hb, rfl⟩, ?_⟩
    rcases gt_rp ks kv3 with ⟨z1, z2⟩ | ⟨d', v', g1, g2, r⟩
    · rw [z1] at q
      rw [z2]
      exact ⟨dz, G3, M3, (st.trans st2).trans st3, w3, r3, q⟩
    · rw [g1] at q
      rw [g2]
      exact ⟨d', G3, M3, (st.trans st2).trans st3, w3, r, q⟩
/-- d.get(k, x) -/
theorem we_kget2 (hu : X.A.units + 1 < cLine) (h : WE X o sg M fun x M1 => ∃ p kvs, x = .ptr p ∧ M1 p = some (.dic kvs) ∧ WE X e sg M1 fun y M2 => WE X f sg M2 fun z M3 => ∃ kvs k, y = kD k ∧ M3 p = some (.dic kvs) ∧ Q ((gk kvs k).getD z) M3) (m : M2 X o "get" apos e f cpos) : WE X (.Call (.Attribute o "get" apos) [e, f] [] cpos) sg M Q :=
  WE.of (pe_dget2 hu pe_w pe_w pe_w m) fun σ H G w s => (h σ H G w s).imp fun x H1 ⟨dx, G1, M1, st, w1, r1, p, kvs, e1, hm, q1⟩ => by
    subst e1
    cases r1
    obtain ⟨vs, hH, kv⟩ := (w1.mem _ _ hm).2
    refine ⟨p, rfl, .inl ⟨vs, .inl hH⟩, (q1 σ H1 G1 w1 (s.mono (st.gx w))).imp fun y H2 ⟨dy, G2, M2, st2, w2, r2, q2⟩ => (q2 σ H2 G2 w2 ((s.mono (st.gx w)).mono (st2.gx w1))).imp fun z H3 ⟨dz, G3, M3, st3, w3, r3, kvs3, k, e2, hm3, q⟩ => ?_⟩
    subst e2
    have := kD_of r2
    subst this
    obtain ⟨vs3, hH3, kv3⟩ := (w3.mem _ _ hm3).2
    refine ⟨valV vs3 k, .inl ⟨vs3, k, .inl hH3, rfl, rfl⟩, ?_⟩
    rcases gk_rp k kv3 with ⟨z1, z2⟩ | ⟨d', v', g1, g2, r⟩
    · rw [z1] at q
      rw [z2]
      exact ⟨dz, G3, M3, (st.trans st2).trans st3, w3, r3, q⟩
    · rw [g1] at q
      rw [g2]
      exact ⟨d', G3, M3, (st.trans st2).trans st3, w3, r, q⟩
def dk (kvs : KD) (k : Key) : KD := kvs.filter fun p => !decide (p.1 = k)
theorem dk_rp {K : PySem.W.Frag} {G : Hp} {k : Key} : ∀ {kvs : KD} {vs : List (Key × V)}, KVd K G vs kvs → KVd K G (dropK vs k) (dk kvs k)
  | [], [], _ => ⟨rfl, .nil⟩
  | [], _ :: _, ⟨e, _⟩ => nomatch e
  | _ :: _, [], ⟨e, _⟩ => nomatch e
  | p :: kvs, q :: vs, ⟨e, r⟩ => by
    rw [List.map_cons, List.map_cons] at e
    have e1 : q.1 = p.1 := (List.cons.inj e).1
    have e2 := (List.cons.inj e).2
    cases r with
    | cons r1 r2 =>
      have ih := dk_rp (k := k) ⟨e2, r2⟩
      unfold dropK dk at ih ⊢
      by_cases h : p.1 = k
      · rw [List.filter_cons_of_neg (by simp [e1, h]), List.filter_cons_of_neg (by simp [h])]
        exact ih
      · rw [List.filter_cons_of_pos (by simp [e1, h]), List.filter_cons_of_pos (by simp [h])]
        exact ⟨by rw [List.map_cons, List.map_cons, e1, ih.1], .cons r1 ih.2⟩
/-- d.pop(k), k there -/
theorem we_kpop (h : WE X o sg M fun x M1 => ∃ p kvs, x = .ptr p ∧ M1 p = some (.dic kvs) ∧ WE X e sg M1 fun y M2 => ∃ kvs k d, y = kD k ∧ M2 p = some (.dic kvs) ∧ gk kvs k = some d ∧ Q d (updM M2 p (some (.dic (dk kvs k))))) (m : M1 X o "pop" apos e cpos) : WE X (.Call (.Attribute o "pop" apos) [e] [] cpos) sg M Q :=
  WE.of (pe_dpop1 pe_w pe_w m) fun σ H G w s => (h σ H G w s).imp fun x H1 ⟨dx, G1, M1, st, w1, r1, p, kvs, e1, hm, q1⟩ => by
    subst e1
    cases r1
    obtain ⟨vs, hH, kv⟩ := (w1.mem _ _ hm).2
    refine ⟨p, rfl, .inl ⟨vs, .inl hH⟩, (q1 σ H1 G1 w1 (s.mono (st.gx w))).imp fun y H2 ⟨dy, G2, M2, st2, w2, r2, kvs2, k, d, e2, hm2, hg, q⟩ => ?_⟩
    subst e2
    have := kD_of r2
    subst this
    obtain ⟨vs2, hH2, kv2⟩ := (w2.mem _ _ hm2).2
    rcases gk_rp k kv2 with ⟨z1, z2⟩ | ⟨d', v', g1, g2, r⟩
    · rw [z1] at hg; cases hg
    · rw [g1] at hg
      cases hg
      obtain ⟨w3, st3⟩ := w2.write hm2 (o := .dK (dropK vs2 k)) (mo := .dic (dk kvs2 k)) ⟨_, upd_same, dk_rp kv2⟩
      exact ⟨vs2, k, v', hH2, rfl, g2, d, G2, _, (st.trans st2).trans st3, w3, r, q⟩
end
end DL
set_option Elab.async false
set_option linter.all false
set_option maxRecDepth 100000
set_option maxHeartbeats 4000000
/-! DMq: sorted(dict(a list of pairs whose keys are tuples of ints)). -/
namespace DL
open PySem PySem.Spec PyProof.Rows L2
abbrev KA := Addr × List Int
def tSortDictT (K : PySem.W.Frag) (ta : TE) : TE := fun σ H Q => ta σ H fun x H1 => ∃ (l : Addr) (as : List Addr) (bs : List KA), x = .ref l ∧ SqL K H1 l (as.map V.ref) ∧ Paired (fun p (b : KA) => (∃ v, SqT K H1 p [.ref b.1, v]) ∧ H1 b.1 = some (.tup (b.2.map V.int))) as bs ∧ bs.length < 64 ∧ (∀ b ∈ bs, b.2.length = 2) ∧
  ∀ (ys : List KA) (p : Addr), (∀ y ∈ ys, y ∈ bs) → ys.length ≤ bs.length → (bs ≠ [] → ys ≠ []) → H1 p = none → Q (.ref p) (upd H1 p (.lst (ys.map fun y => V.ref y.1)))
theorem stored_mem {xs : List (List Key × Addr × Value)} {k : List Key} {b : Addr} {v : Value} {x : List Key × Addr × Value} (h : x ∈ storedH xs k b v) : (∃ y ∈ xs, x.1 = y.1 ∧ x.2.1 = y.2.1) ∨ (x.1 = k ∧ x.2.1 = b) := by
  unfold storedH at h
  split at h
  · obtain ⟨y, hy, e⟩ := List.mem_map.mp h
    refine .inl ⟨y, hy, ?_⟩
    rw [← e]
    unfold putAt
    split <;> exact ⟨rfl, rfl⟩
  · rcases List.mem_append.mp h with h | h
    · exact .inl ⟨x, h, rfl, rfl⟩
    · rw [List.mem_singleton] at h
      subst h
      exact .inr ⟨rfl, rfl⟩
theorem storedAll_mem : ∀ {ps xs : List (List Key × Addr × Value)} {x : List Key × Addr × Value}, x ∈ PySem.storedAllH xs ps → ∃ y, y ∈ xs ++ ps ∧ x.1 = y.1 ∧ x.2.1 = y.2.1
  | [], xs, x, h => ⟨x, by simpa [PySem.storedAllH] using h, rfl, rfl⟩
  | p :: ps, xs, x, h => by
    have h' : x ∈ PySem.storedAllH (storedH xs p.1 p.2.1 p.2.2) ps := h
    obtain ⟨y, hy, e1, e2⟩ := storedAll_mem h'
    rcases List.mem_append.mp hy with hy | hy
    · rcases stored_mem hy with ⟨z, hz, e3, e4⟩ | ⟨e3, e4⟩
      · exact ⟨z, List.mem_append_left _ hz, e1.trans e3, e2.trans e4⟩
      · exact ⟨p, List.mem_append_right _ List.mem_cons_self, e1.trans e3, e2.trans e4⟩
    · exact ⟨y, List.mem_append_right _ (List.mem_cons_of_mem _ hy), e1, e2⟩
theorem stored_ne {xs : List (List Key × Addr × Value)} {k : List Key} {b : Addr} {v : Value} : storedH xs k b v ≠ [] := by
  unfold storedH
  split
  · rename_i h
    intro e
    rw [List.map_eq_nil_iff] at e
    subst e
    simp [atKey] at h
  · intro e
    exact absurd (List.append_eq_nil_iff.mp e).2 (by simp)
theorem storedAll_ne : ∀ {ps xs : List (List Key × Addr × Value)}, xs ≠ [] ∨ ps ≠ [] → PySem.storedAllH xs ps ≠ []
  | [], xs, h => by
    rcases h with h | h
    · exact h
    · exact absurd rfl h
  | p :: ps, xs, h => storedAll_ne (ps := ps) (xs := storedH xs p.1 p.2.1 p.2.2) (.inl stored_ne)
section
variable {X : Cx} {pins : List (Addr × Obj)} {σ : L2.St} {H : Hp} {s : Shared}
theorem pairs_atI (I : Inv X pins σ H s) : ∀ {as : List Addr} {bs : List KA}, Paired (fun p (b : KA) => (∃ v, SqT X.K H p [.ref b.1, v]) ∧ H b.1 = some (.tup (b.2.map V.int))) as bs →
    ∃ ps : List (List Key × Addr × Value), ps.map (fun x => (x.1, x.2.1)) = bs.map (fun b => (inlK b.2, b.1)) ∧ ps.length = as.length ∧ ∀ (j : Nat) (x : List Key × Addr × Value), ps[j]? = some x → ∃ p, as[j]? = some p ∧ PySem.PairAt s.heap p (.ref x.2.1) x.2.2
  | _, _, .nil => ⟨[], rfl, rfl, fun j x e => by simp at e⟩
  | p :: as, b :: bs, .cons ⟨⟨v, h1⟩, h2⟩ t => by
    obtain ⟨ps, k, hl, g⟩ := pairs_atI I t
    obtain ⟨its, r, ⟨o, ho, hc, n, hd⟩, _⟩ := I.tuple h1
    obtain ⟨u1, u2, rfl, r1, r2⟩ := vals2 r
    obtain rfl : u1 = Value.ref b.1 := r1
    refine ⟨(inlK b.2, b.1, u2) :: ps, by rw [List.map_cons, List.map_cons, k], by rw [List.length_cons, List.length_cons, hl], fun j x e => ?_⟩
    cases j with
    | zero =>
      cases e
      exact ⟨p, rfl, .inl ⟨o, ho, hc, n, hd⟩⟩
    | succ j =>
      obtain ⟨p', e1, e2⟩ := g j x (by simpa using e)
      exact ⟨p', by simpa using e1, e2⟩
theorem addrs_of {bs : List KA} : ∀ {xs : List (List Key × Addr × Value)}, (∀ x ∈ xs, ∃ b ∈ bs, x.2.1 = b.1) → ∃ zs : List KA, xs.map (fun x => x.2.1) = zs.map (·.1) ∧ ∀ z ∈ zs, z ∈ bs
  | [], _ => ⟨[], rfl, fun z h => nomatch h⟩
  | x :: xs, h => by
    obtain ⟨b, hb, e⟩ := h x List.mem_cons_self
    obtain ⟨zs, e1, h1⟩ := addrs_of (xs := xs) fun y hy => h y (List.mem_cons_of_mem _ hy)
    refine ⟨b :: zs, by rw [List.map_cons, List.map_cons, e1, e], fun z hz => ?_⟩
    rcases List.mem_cons.mp hz with rfl | hz
    · exact hb
    · exact h1 z hz
theorem each_refs {bs : List KA} : ∀ {zs : List KA}, (∀ z ∈ zs, z ∈ bs) → PySem.W.EachIs (fun (u : Value) (b : KA) => u = Value.ref b.1 ∧ b ∈ bs) (zs.map fun z => Value.ref z.1) zs
  | [], _ => .nil
  | z :: zs, h => .cons ⟨rfl, h z List.mem_cons_self⟩ (each_refs fun y hy => h y (List.mem_cons_of_mem _ hy))
theorem refs_of {bs : List KA} : ∀ {us : List Value}, (∀ u ∈ us, ∃ b ∈ bs, u = Value.ref b.1) → ∃ ys : List KA, us = ys.map (fun y => Value.ref y.1) ∧ ∀ y ∈ ys, y ∈ bs
  | [], _ => ⟨[], rfl, fun z h => nomatch h⟩
  | u :: us, h => by
    obtain ⟨b, hb, e⟩ := h u List.mem_cons_self
    obtain ⟨ys, e1, h1⟩ := refs_of (us := us) fun y hy => h y (List.mem_cons_of_mem _ hy)
    refine ⟨b :: ys, by rw [List.map_cons, e, e1], fun z hz => ?_⟩
    rcases List.mem_cons.mp hz with rfl | hz
    · exact hb
    · exact h1 z hz
theorem dpi {K : PySem.W.Frag} {H : Hp} : ∀ ns : List Int, DpAll K H (ns.map V.int) (ns.map PyData.int)
  | [] => .nil
  | n :: ns => .cons (.int n) (dpi ns)
theorem alike_int : ∀ ns ms : List Int, PySem.W.alikeAll (ns.map PyData.int) (ms.map PyData.int) = true := PySem.W.alike_ints
theorem vals_refs1 : ∀ ys : List KA, Vals (ys.map fun y => V.ref y.1) (ys.map fun y => Value.ref y.1)
  | [] => .nil
  | _ :: r => .cons rfl (vals_refs1 r)
theorem pe_sortDictT {a : Expr} {ta : TE} {p p2 q pos : Pos} (hg : Gl X "sorted") (hm : X.mg "sorted" = none) (hg2 : Gl X "dict") (hm2 : X.mg "dict" = none) (ha : PE X a ta) (hc : X.calm = true) (hu : X.A.units + 64 < cLine) (na : starEach [a] X.env = (false, eval a X.env) :: starEach [] X.env) : PE X (.Call (.Name "sorted" p) [.Call (.Name "dict" p2) [a] [] q] [] pos) (tSortDictT X.K ta) := by
  refine ⟨fun pins s σ H Q I h => ?_⟩
  refine Call_ (ld_blt I hg hm bi_sorted (PyProof.Rows.callWith_builtin1 (PyProof.Rows.args_cons ?_ rfl) rfl rfl))
  refine Call_ (ld_blt I hg2 hm2 bi_dict (PyProof.Rows.callWith_type1 (PyProof.Rows.args_cons (thn (ha.run pins s σ H _ I h) fun v s1 ⟨x, H1, I1, r1, l, as, bs, ex, hq, hp, h64, h2, q1⟩ => PyProof.Rows.args_nil ?_) na) na rfl))
  subst ex
  cases r1
  obtain ⟨its, rv, pl, hz⟩ := I1.list hq
  have ei := refs_at rv
  subst ei
  rw [List.length_map] at hz
  obtain ⟨ps, kt, hl, hpr⟩ := pairs_atI I1 hp
  obtain ⟨o, n, ho, hc', hd, hdat⟩ := pl
  have hbl : bs.length = ps.length := by
    have := congrArg List.length kt
    rw [List.length_map, List.length_map] at this
    exact this.symm
  have hH : ∀ b ∈ bs, H1 b.1 = some (.tup (b.2.map V.int)) := by
    have all : ∀ {as : List Addr} {bs : List KA}, Paired (fun p (b : KA) => (∃ v, SqT X.K H1 p [.ref b.1, v]) ∧ H1 b.1 = some (.tup (b.2.map V.int))) as bs → ∀ b ∈ bs, H1 b.1 = some (.tup (b.2.map V.int)) := by
      intro as bs q
      induction q with
      | nil => intro x hx; exact nomatch hx
      | cons hq t ih =>
        intro x hx
        rcases List.mem_cons.mp hx with rfl | hx
        · exact hq.2
        · exact ih x hx
    exact all hp
  have inb : ∀ x ∈ ps, ∃ b ∈ bs, x.1 = inlK b.2 ∧ x.2.1 = b.1 := fun x hx => by
    have : (x.1, x.2.1) ∈ bs.map fun b => (inlK b.2, b.1) := by rw [← kt]; exact List.mem_map.mpr ⟨x, hx, rfl⟩
    obtain ⟨b, hb, e⟩ := List.mem_map.mp this
    exact ⟨b, hb, (congrArg Prod.fst e).symm, (congrArg Prod.snd e).symm⟩
  have keys : ∀ x ∈ ps, (tupleKind (mixKind X.prog X.w)).is s1.heap x.1 x.2.1 := fun x hx => by
    obtain ⟨b, hb, e1, e2⟩ := inb x hx
    rw [e1, e2]
    exact key_of I1.hok (by rw [inlK_kV]; exact hH b hb)
  have hpl : (ps.map fun x => (Value.ref x.2.1, x.2.2)).length = ps.length := List.length_map ..
  refine PySem.call_dict_pairsH (knd := tupleKind (mixKind X.prog X.w)) (ps := ps) (PySem.PairArg.list _ (as.map Value.ref).toArray (fun j => as.getD j 0) (ps.map fun x => (Value.ref x.2.1, x.2.2))) (I1.ok.hd hc) (show X.A.units + 1 + 1 < cLine by omega) ⟨⟨o, n, ho, hc', hd, hdat⟩, ?_, fun j k v e => ?_⟩ ⟨hpl.symm, fun i key v e => ?_⟩ (fun h' hk x hx => ?_) (by rw [hpl, hl]; exact hz) fun h' tk dd hk => ?_
  · rw [hpl, hl]; simp
  · rw [List.getElem?_map] at e
    cases ej : ps[j]? with
    | none => rw [ej] at e; cases e
    | some x =>
      rw [ej] at e
      obtain ⟨p, e1, e2⟩ := hpr j x ej
      cases e
      have eg : as.getD j 0 = p := by rw [List.getD_eq_getElem?_getD, e1]; rfl
      show (as.map Value.ref).toArray[j]? = some (Value.ref (as.getD j 0)) ∧ PySem.PairAt s1.heap (as.getD j 0) _ _
      rw [eg]
      exact ⟨by simp [e1], e2⟩
  · unfold PySem.PairRel at e
    rw [List.getElem?_map] at e
    cases ej : ps[i]? with
    | none => rw [ej] at e; cases e
    | some x =>
      rw [ej] at e
      cases e
      exact ⟨x.1, x.2.1, rfl, rfl⟩
  · obtain ⟨o1, its1, n1, g1, g2, g3⟩ := keys x hx
    exact ⟨o1, its1, n1, hk _ _ (Nat.ne_of_lt (Heap.lt_size g1)) List.not_mem_nil g1, g2, g3⟩
  refine PyProof.Rows.args_nil ?_
  have I2 : Inv X pins σ H1 { s1 with heap := h', toks := tk } := I1.kept fun b o e => hk b o List.not_mem_nil e
  have lo : (s1.heap.objs.size == sysModules) = false := beq_eq_false_iff_ne.mpr (Nat.ne_of_gt I1.big)
  obtain ⟨od, es, ep, g1, g2, g3, g4, g5, g6⟩ := dd
  have hxl : (PySem.storedAllH [] ps).length ≤ bs.length := by
    have := PySem.storedAllH_length ps []
    rw [List.length_nil] at this
    omega
  have hes : es.size = (PySem.storedAllH [] ps).length := size_of_entries g4
  obtain ⟨zs, ez, hzs⟩ := addrs_of (bs := bs) (xs := PySem.storedAllH [] ps) fun x hx => by
    obtain ⟨y, hy, e1, e2⟩ := storedAll_mem hx
    obtain ⟨b, hb, e3, e4⟩ := inb y (by simpa using hy)
    exact ⟨b, hb, e2.trans e4⟩
  have hzl : zs.length = (PySem.storedAllH [] ps).length := by
    have := congrArg List.length ez
    rw [List.length_map, List.length_map] at this
    exact this.symm
  refine Calls.call_function_entry kind_sorted plain_sorted entry_sorted (args_sorted1 _) ?_
  unfold Builtin.«sorted»
  refine wpAny_bind (m := checkCount "sorted" 1 1 _) (wpAny_pure ?_)
  refine wpAny_bind (PySem.W.kdu_collect (A := X.A.in1) (kdl_raw lo g2 g3) (I2.ok.hd hc) g1 (by rw [sizeLine_eq]; omega) fun h2' tk2 acc hk2 hacc => ?_)
  have ea : acc.toList = zs.map fun z => Value.ref z.1 := by
    have hl2 : acc.toList.length = zs.length := by rw [Array.length_toList, hacc.1, hzl]; exact hes
    apply List.ext_getElem?
    intro j
    rw [List.getElem?_map]
    cases hj : acc.toList[j]? with
    | none =>
      have h1 := List.getElem?_eq_none_iff.mp hj
      rw [List.getElem?_eq_none (by omega)]
      rfl
    | some v =>
      obtain ⟨en, hen, hv⟩ := hacc.2 j v (by rw [← Array.getElem?_toList]; exact hj)
      have qe := entry_at g4 j
      rw [hen] at qe
      cases hb : (PySem.storedAllH [] ps)[j]? with
      | none =>
        rw [hb] at qe
        exact nomatch (show some en = none from qe)
      | some b =>
        rw [hb] at qe
        have e2 : en = entryOfKey (tupleKind (mixKind X.prog X.w)) b := Option.some.inj qe
        have e3 : (zs.map (·.1))[j]? = some b.2.1 := by rw [← ez, List.getElem?_map, hb]; rfl
        rw [List.getElem?_map] at e3
        cases e4 : zs[j]? with
        | none => rw [e4] at e3; cases e3
        | some z =>
          rw [e4] at e3
          have e5 : z.1 = b.2.1 := Option.some.inj e3
          rw [hv, e2]
          show some (Value.ref b.2.1) = some (Value.ref z.1)
          rw [e5]
  have I3 : Inv X pins σ H1 { s1 with heap := h2', toks := tk2 } := I2.kept hk2
  have hzz : zs.length < 64 := by omega
  rw [ea]
  have hvl : (zs.map fun z => Value.ref z.1).length ≤ sizeLine := by rw [List.length_map, sizeLine_eq]; omega
  refine wpAny_bind (wpAny_newList ?_ hvl)
  have hL : (h2'.push (seqObj "list" (zs.map fun z => Value.ref z.1).toArray 0)).get? h2'.objs.size = some (seqObj "list" (zs.map fun z => Value.ref z.1).toArray 0) := Heap.get?_push_size _ rfl
  show wpAny _ _ _ _ _ { s1 with heap := h2'.push (seqObj "list" (zs.map fun z => Value.ref z.1).toArray 0), toks := tk2 }
  have er : PySem.W.EachIs (fun (u : Value) (b : KA) => ∃ ws, Reads (PySem.W.sortingHeap (h2'.push (seqObj "list" (zs.map fun z => Value.ref z.1).toArray 0)) h2'.objs.size (zs.map fun z => Value.ref z.1)) u (.tuple (b.2.map PyData.int)) ws) (zs.map fun z => Value.ref z.1) zs := (each_refs hzs).mono fun u b ⟨e, hb⟩ => by
    subst e
    obtain ⟨ws, r⟩ := Dp.reads I3 (.tuple (b.2.map PyData.int)) (.ref b.1) (.ref b.1) (.tup (SqT.of (hH b hb)) (dpi b.2)) rfl
    exact ⟨ws, PyProof.Rows.Reads.keeps (fun c oc ec => PySem.W.sortingHeap_old (Nat.ne_of_lt (Heap.lt_size ec)) (Heap.get?_push_of_some _ ec)) r⟩
  refine wpAny_bind (wpAny_holding (wpAny_call_entry slot_list_sort ⟨_, hL, rfl⟩ entry_list_sort (PySem.W.list_sort_vals hL (PySem.W.SortsAt.data (s := { s1 with heap := PySem.W.sortingHeap (h2'.push (seqObj "list" (zs.map fun z => Value.ref z.1).toArray 0)) h2'.objs.size (zs.map fun z => Value.ref z.1), toks := tk2 }) (ds := zs.map fun b => .tuple (b.2.map PyData.int)) (PySem.W.each_map (fun b : KA => PyData.tuple (b.2.map PyData.int)) er) (fun d hd d' hd' => ?_) (.inl fun d hd => ?_) fun d hd => ?_) hvl ⟨_, rfl, ?_⟩) (args_list_sort _)))
  · obtain ⟨b, _, rfl⟩ := List.mem_map.mp hd
    obtain ⟨b', _, rfl⟩ := List.mem_map.mp hd'
    show PySem.W.alikeAll _ _ = true
    exact alike_int _ _
  · obtain ⟨b, hb, rfl⟩ := List.mem_map.mp hd
    have := h2 b (hzs b hb)
    match hb2 : b.2, this with
    | x :: r, _ => exact ⟨.int x, r.map PyData.int, rfl⟩
  · obtain ⟨b, _, rfl⟩ := List.mem_map.mp hd
    have : (PyData.tuple (b.2.map PyData.int)).depth ≤ 3 := by
      show PyData.depthAll (b.2.map PyData.int) + 1 ≤ 3
      rw [PySem.W.depth_ints]
      decide
    have hA : ∀ A : Around, A.units = X.A.units + 1 ∨ A.units = X.A.units + 2 → A.units + (PyData.tuple (b.2.map PyData.int)).depth < cLine := fun A h => by omega
    exact hA _ (by first | exact .inl rfl | exact .inr rfl)
  obtain ⟨ys, ey, hys⟩ := refs_of (bs := bs) (us := PySem.W.sortVals (PySem.W.dataKind (PySem.W.sortingHeap (h2'.push (seqObj "list" (zs.map fun z => Value.ref z.1).toArray 0)) h2'.objs.size (zs.map fun z => Value.ref z.1)) (zs.map fun b => .tuple (b.2.map PyData.int))) false (zs.map fun z => Value.ref z.1) (zs.map fun z => Value.ref z.1)) fun u hu' => by
    obtain ⟨z, hz', rfl⟩ := List.mem_map.mp (PySem.W.sortVals_mem _ hu')
    exact ⟨z, hzs z hz', rfl⟩
  have hyl : ys.length = zs.length := by
    have := congrArg List.length ey
    rw [PySem.W.sortVals_length _ rfl, List.length_map, List.length_map] at this
    exact this.symm
  rw [ey]
  obtain ⟨c, hcc⟩ := sortedHeap_at (vs := zs.map fun z => Value.ref z.1) (out := (ys.map fun y => Value.ref y.1).toArray) hL
  have hlen : (ys.map fun y => V.ref y.1).length ≤ sizeLine := by rw [List.length_map, hyl, sizeLine_eq]; omega
  refine wpAny_pure ⟨_, rfl, .ref h2'.objs.size, upd H1 h2'.objs.size (.lst (ys.map fun y => V.ref y.1)), I3.laid (t' := tk2) (fun b u e => ?_) (Nat.le_refl _) ⟨hlen, _, c, vals_refs1 ys, hcc⟩, rfl, q1 ys _ hys (by omega) (fun hb e => ?_) (I3.hok.fresh (Nat.le_refl _))⟩
  · have hlt := Heap.lt_size e
    rw [sortedHeap_old (Nat.ne_of_lt hlt) (by rw [size_push']; exact Nat.lt_succ_of_lt hlt)]
    exact Heap.get?_push_of_some _ e
  · subst e
    have : PySem.storedAllH [] ps ≠ [] := storedAll_ne (.inr fun z => hb (List.length_eq_zero_iff.mp (by rw [hbl, z]; rfl)))
    exact this (List.length_eq_zero_iff.mp (by rw [← hzl, ← hyl]; rfl))
end
end DL
set_option Elab.async false
set_option linter.all false
set_option maxRecDepth 100000
set_option maxHeartbeats 4000000
/-! DMr: any of a list of lists; sorted(dict(pairs)) by data; not in. -/
namespace DL
open PySem PySem.Spec PyProof.Rows L2
def rAnyD (K : PySem.W.Frag) : List V → Hp → VK → Prop := fun vs H Q => ∃ (a : Addr) (xs : List V) (ds : List PyData), vs = [V.ref a] ∧ SqL K H a xs ∧ DpAll K H xs ds ∧ PyData.plainAll ds = true ∧ (∀ d ∈ ds, d.fits63) ∧ Q (.bl (ds.any PyData.truthy)) H
theorem cr_anyD {X : Cx} (hc : X.calm = true) : CallR X (.builtin "any") (rAnyD X.K) := by
  intro pins s σ H vs us R I r h
  obtain ⟨a, xs, ds, rfl, hs, hd, hp, hf, q⟩ := h
  obtain ⟨its, rv, hl, hz⟩ := I.list hs
  obtain ⟨u, rfl, ru⟩ := vals1 r
  obtain rfl : u = Value.ref a := ru
  obtain ⟨as, rr⟩ := Dp.readsAll I ds xs its hd rv
  exact PySem.W.any_list_data (I.ok.hd hc) hl.isList (by simpa using rr) hp hf fun h' tk k => ⟨.bl _, H, I.kept k, rfl, q⟩
theorem any_truthy : ∀ ls : List (List Int), (toPyA (ls.map fun l => D.lst (l.map D.int))).any PyData.truthy = ls.any fun l => !l.isEmpty
  | [] => rfl
  | l :: ls => by
    have ih := any_truthy ls
    have e : (toPyA (l.map D.int)).isEmpty = l.isEmpty := by cases l <;> rfl
    show (!(toPyA (l.map D.int)).isEmpty || (toPyA (ls.map fun l => D.lst (l.map D.int))).any PyData.truthy) = (!l.isEmpty || ls.any fun l => !l.isEmpty)
    rw [ih, e]
theorem plA_lls : ∀ ls : List (List Int), plA (ls.map fun l => D.lst (l.map D.int)) = true
  | [] => rfl
  | l :: ls => by
    show (plA (l.map D.int) && plA (ls.map fun l => D.lst (l.map D.int))) = true
    rw [plA_int, plA_lls ls]
    rfl
theorem plain_int : ∀ l : List Int, PyData.plainAll (toPyA (l.map D.int)) = true
  | [] => rfl
  | n :: l => by
    show (PyData.plain (.int n) && PyData.plainAll (toPyA (l.map D.int))) = true
    rw [plain_int l]
    rfl
theorem plain_lls : ∀ ls : List (List Int), PyData.plainAll (toPyA (ls.map fun l => D.lst (l.map D.int))) = true
  | [] => rfl
  | l :: ls => by
    show (PyData.plainAll (toPyA (l.map D.int)) && PyData.plainAll (toPyA (ls.map fun l => D.lst (l.map D.int)))) = true
    rw [plain_int l, plain_lls ls]
    rfl
theorem fits_lls : ∀ ls : List (List Int), (∀ l ∈ ls, l.length < 1000) → ∀ d ∈ toPyA (ls.map fun l => D.lst (l.map D.int)), d.fits63
  | [], _, d, h => nomatch h
  | l :: ls, hz, d, h => by
    rcases List.mem_cons.mp h with rfl | h
    · show ((toPyA (l.map D.int)).length : Int) < 2 ^ 63
      have : (toPyA (l.map D.int)).length = l.length := by rw [toPyA_int, List.length_map]
      have := hz l List.mem_cons_self
      omega
    · exact fits_lls ls (fun x hx => hz x (List.mem_cons_of_mem _ hx)) d h
/-- any(a list of lists of ints) -/
theorem cd_anyL {K : PySem.W.Frag} {M : Mem} {Q : D → Mem → Prop} {x : D} {ls : List (List Int)} (h : LsD M x (ls.map fun l => .lst (l.map .int))) (hz : ∀ l ∈ ls, l.length < 1000) (q : Q (.bl (ls.any fun l => !l.isEmpty)) M) : ClD K (rAnyD K) [x] M Q := fun G H vs R w r k => by
  obtain ⟨v, rfl, rv⟩ := r.one
  obtain ⟨a, xs, rfl, h1, r1⟩ := h.at w rv
  exact ⟨a, xs, toPyA (ls.map fun l => .lst (l.map .int)), rfl, SqL.of h1, dp_all w.sub r1 (plA_lls ls), plain_lls ls, fits_lls ls hz, k _ _ (PV.here w (.bl _) (by rw [any_truthy]; exact q))⟩
section
variable {X : Cx} {sg : Sg} {M : Mem} {a : Expr} {p p2 q pos : Pos} {Q : D → Mem → Prop}
theorem paired_ka {K : PySem.W.Frag} {G H : Hp} {M : Mem} (w : Wd K G M H) : ∀ {xs : List V} {ps : DT}, RpA K G xs (ps.map fun p => .tup [.tup (p.1.map .int), p.2]) → ∃ (as : List Addr) (bs : List KA), xs = as.map V.ref ∧ bs.map (·.2) = ps.map (·.1) ∧ Paired (fun p (b : KA) => (∃ v, SqT K H p [.ref b.1, v]) ∧ H b.1 = some (.tup (b.2.map V.int))) as bs ∧ ∀ b ∈ bs, Rp K G (.ref b.1) (.tup (b.2.map .int))
  | _, [], .nil => ⟨[], [], rfl, rfl, .nil, fun b h => nomatch h⟩
  | _, p :: ps, .cons r t => by
    cases r with
    | tup h1 r1 =>
      obtain ⟨u, v, rfl, ru, rv⟩ := r1.two
      obtain ⟨b, rfl, hb⟩ := tup_at w ru
      obtain ⟨as, bs, rfl, e, hp, hr⟩ := paired_ka w t
      refine ⟨_ :: as, (b, p.1) :: bs, rfl, by rw [List.map_cons, List.map_cons, e], .cons ⟨⟨v, h1.sq w.sub⟩, by rw [← inlK_kV]; exact hb⟩ hp, fun z hz => ?_⟩
      rcases List.mem_cons.mp hz with rfl | hz
      · exact ru
      · exact hr z hz
theorem rpa_ka {K : PySem.W.Frag} {G : Hp} {bs : List KA} (hr : ∀ b ∈ bs, Rp K G (.ref b.1) (.tup (b.2.map .int))) : ∀ {ys : List KA}, (∀ y ∈ ys, y ∈ bs) → RpA K G (ys.map fun y => V.ref y.1) (ys.map fun y => .tup (y.2.map .int))
  | [], _ => .nil
  | y :: ys, h => .cons (hr y (h y List.mem_cons_self)) (rpa_ka hr fun z hz => h z (List.mem_cons_of_mem _ hz))
/-- sorted(dict(pairs)): some of the keys -/
theorem we_sortDictT (hm : X.mg "sorted" = none) (hm2 : X.mg "dict" = none) (hc : X.calm = true) (hu : X.A.units + 64 < cLine) (h : WE X a sg M fun x M1 => ∃ ps : DT, LsD M1 x (ps.map fun p => .tup [.tup (p.1.map .int), p.2]) ∧ ps.length < 64 ∧ (∀ p ∈ ps, p.1.length = 2) ∧ ∀ ks : List (List Int), (∀ k ∈ ks, k ∈ ps.map (·.1)) → ks.length ≤ ps.length → (ps ≠ [] → ks ≠ []) → Q (.lst (ks.map fun k => .tup (k.map .int))) M1) (hg : Gl X "sorted" := by rfl) (hg2 : Gl X "dict" := by rfl) (na : starEach [a] X.env = (false, eval a X.env) :: starEach [] X.env := by exact star1n rfl) : WE X (.Call (.Name "sorted" p) [.Call (.Name "dict" p2) [a] [] q] [] pos) sg M Q :=
  WE.of (pe_sortDictT hg hm hg2 hm2 pe_w hc hu na) fun σ H G w s => (h σ H G w s).imp fun v H1 ⟨x, G1, M1, st, w1, r1, ps, hl, h64, h2, q⟩ => by
    obtain ⟨b, xs, rfl, hH, rx⟩ := hl.at w1 r1
    obtain ⟨as, bs, rfl, e, hp, hr⟩ := paired_ka w1 rx
    have hbl : bs.length = ps.length := by have := congrArg List.length e; simpa using this
    refine ⟨b, as, bs, rfl, SqL.of hH, hp, by omega, fun b hb => ?_, fun ys p hy hyl hyn hn => ?_⟩
    · have : b.2 ∈ ps.map (·.1) := by rw [← e]; exact List.mem_map.mpr ⟨b, hb, rfl⟩
      obtain ⟨z, hz, e1⟩ := List.mem_map.mp this
      rw [← e1]
      exact h2 z hz
    · have q1 := q (ys.map (·.2)) (fun k hk => by
        obtain ⟨y, hy', rfl⟩ := List.mem_map.mp hk
        rw [← e]
        exact List.mem_map.mpr ⟨y, hy y hy', rfl⟩) (by rw [List.length_map]; omega) fun hps z => hyn (fun z2 => hps (List.length_eq_zero_iff.mp (by rw [← hbl, z2]; rfl))) (List.map_eq_nil_iff.mp z)
      rw [List.map_map] at q1
      exact (new_lst w1 hn (rpa_ka hr hy) q1).base st
end
end DL
set_option Elab.async false
set_option linter.all false
set_option maxRecDepth 100000
set_option maxHeartbeats 4000000
/-! DMs: name = [e for x in xs for y in ys(x)], the name a local. -/
namespace DL
open PySem L2 PyProof.Rows
section
variable {X : Cx} {scope : Scope} {iter iter1 elt : Expr} {sg : Sg} {M : Mem} {ds : List D} {x y : Str} {px py pos : Pos}
theorem lc22_run (i j : Nat) (g : D → List D) (f : D → D → D) (hN : X.N.Nodup) {wi : TI} (hw : ∀ (σ : L2.St) (H G : Hp) (R : It → Hp → Prop), Wd X.K G M H → SRp X.K G sg σ → (∀ J H' ds' C G' M', Stp G M H G' M' H' → Wd X.K G' M' H' → ItD X.K G' J ds' C → ItQ ds M ds' C M' → R J H') → wi σ H R) (hz : (ds.flatMap g).length < sizeLine)
    (h1 : ∀ (a : Nat) (d : D), ds[a]? = some d → Blk X scope fun Y => WI Y (.Name y py) iter1 ((wipeD sg [i, j]).set i (some d)) M (ItQ (g d) M))
    (h2 : ∀ (a b : Nat) (d e : D), ds[a]? = some d → (g d)[b]? = some e → Blk X scope fun Y => EE Y elt ((wipeD ((wipeD sg [i, j]).set i (some d)) [j]).set j (some e)) M (f d e))
    (hix : X.N[i]? = some x) (hjy : X.N[j]? = some y) (hx : scope.names.lookup x = some .local ∨ scope.names.lookup x = some .cell) (hy : scope.names.lookup y = some .local ∨ scope.names.lookup y = some .cell) {σ : L2.St} {H G : Hp} {R : VK} (w : Wd X.K G M H) (s : SRp X.K G sg σ)
    (kk : ∀ v H', PV X.K G M H (fun x M' => x = .lst (ds.flatMap fun d => (g d).map (f d)) ∧ M' = M) v H' → R v H') : tLc2 wi (gB X scope (.Name x px)) tYes (wiB X scope (.Name y py) iter1) (gB X scope (.Name y py)) tYes (teB X scope elt) [i, j] [j] σ H R := by
  refine hw σ H G _ w s fun J H0 ds' C G0 M0 st0 w0 it ⟨e1, e2, hC⟩ => fun p hp => ?_
  subst e1; subst e2
  obtain ⟨g0, m0⟩ := w0.free hp
  have s0 := s.mono (st0.gx w)
  have hf0 : ∀ u, M0.b.H p = some u → M0.b.M p = none → False := fun u e m => w0.fresh hp e m
  -- what the list holds
  let F : List D → List D := fun l => l.flatMap fun d => (g d).map (f d)
  let St : Hp → List D → Hp → Hp → Prop := fun Gb acc G1 H1 => ∃ xs, Stp G0 M0 H0 G1 M0 H1 ∧ Gx Gb G1 ∧ Wd X.K G1 M0 H1 ∧ H1 p = some (.lst xs) ∧ G1 p = none ∧ RpA X.K G1 xs acc
  have flen : ∀ l : List D, (F l).length = (l.flatMap g).length := fun l => by
    show (l.flatMap fun d => (g d).map (f d)).length = _
    induction l with
    | nil => rfl
    | cons a l ih => rw [List.flatMap_cons, List.flatMap_cons, List.length_append, List.length_append, ih, List.length_map]
  have hF : ∀ n, (F (ds'.take n)).length ≤ (F ds').length := fun n => by
    have := congrArg (fun l => (F l).length) (List.take_append_drop n ds')
    show ((ds'.take n).flatMap _).length ≤ _
    have e : (F (ds'.take n ++ ds'.drop n)).length = (F (ds'.take n)).length + (F (ds'.drop n)).length := by
      show ((ds'.take n ++ ds'.drop n).flatMap _).length = _
      rw [List.flatMap_append, List.length_append]
    have this : (F (ds'.take n ++ ds'.drop n)).length = (F ds').length := this
    show (F (ds'.take n)).length ≤ _
    omega
  refine ⟨fun a m H1 => m = ds'.length - a ∧ a ≤ ds'.length ∧ ∃ G1, St G0 (F (ds'.take a)) G1 H1, ⟨ds'.length, rfl, Nat.zero_le _, G0, [], ⟨fun x o e m => ⟨by rw [upd_ne (ne_of_none e hp)]; exact e, rfl, m⟩, rfl⟩, Gx.refl _, w0.other g0 m0 hf0, upd_same, g0, .nil⟩, ?_⟩
  rintro a m H1 ⟨rfl, hle, G1, xs, st1, gx1, w1, h1p, g1, ra⟩
  obtain ⟨stop, go⟩ := it G1 M0 H1 gx1 w1 hC a
  by_cases hlt : a < ds'.length
  · obtain ⟨go1, yld⟩ := go ds'[a] (List.getElem?_eq_getElem hlt)
    have tn : ds'.take (a + 1) = ds'.take a ++ [ds'[a]] := by rw [List.take_add_one, List.getElem?_eq_getElem hlt]; rfl
    have hFn : F (ds'.take (a + 1)) = F (ds'.take a) ++ (g ds'[a]).map (f ds'[a]) := by
      show (ds'.take (a + 1)).flatMap _ = _
      rw [tn, List.flatMap_append]
      show _ ++ [ds'[a]].flatMap _ = _
      rw [List.flatMap_cons, List.flatMap_nil, List.append_nil]
    refine .inr ⟨go1, fun H2 => ∃ G2, St G0 (F (ds'.take (a + 1))) G2 H2, fun H2 n => ⟨ds'.length - (a + 1), by omega, rfl, hlt, n⟩, fun v H' hv => ?_⟩
    obtain ⟨G2, st2, w2, rx⟩ := yld v H' hv
    obtain ⟨h2p, g2, _⟩ := st2.keep p _ h1p m0
    have sw : SRp X.K G2 (wipeD sg [i, j]) (wipe σ [i, j]) := wipe_rp (s0.mono (gx1.trans (st2.gx w1))) [i, j]
    intro t5 H5 C5 cl5 fp5
    refine blk_name (vs := [i, j]) i hN hx hix t5 H5 C5 cl5 fp5 (wipe σ [i, j]) H' G2 M0 v _ w2 sw rx fun σ2 s2 l2 o2 => ⟨wipe_same (is := [i]) (fun q hq => by rw [List.mem_singleton.mp hq]; simp) l2 o2, ?_⟩
    dsimp only [tYes]
    rw [if_pos rfl]
    intro t6 H6 C6 cl6 fp6
    obtain ⟨wi1, pi1, hw1⟩ := h1 a ds'[a] (List.getElem?_eq_getElem hlt) t6 H6 C6 cl6 fp6
    refine ⟨wi1, pi1, hw1 σ2 H' G2 _ w2 s2 fun J1 H4 es C1 G3 M3 st3 w3 it1 ⟨e1, e2, hC1⟩ => ?_⟩
    subst e2
    have e1' := e1
    obtain ⟨h3p, g3, _⟩ := st3.keep p _ h2p m0
    have gx3 : Gx G1 G3 := (st2.gx w1).trans (st3.gx w2)
    have s3 := s2.mono (st3.gx w2)
    refine ⟨fun b k H7 => k = es.length - b ∧ b ≤ es.length ∧ ∃ G4, St G3 (F (ds'.take a) ++ (es.take b).map (f ds'[a])) G4 H7, ⟨es.length, rfl, Nat.zero_le _, G3, xs, (st1.trans st2).trans st3, Gx.refl _, w3, h3p, by rw [g3, g2, g1], by
      show RpA X.K G3 xs (F (ds'.take a) ++ [])
      rw [List.append_nil]
      exact ra.mono gx3⟩, ?_⟩
    rintro b k H7 ⟨rfl, hle1, G4, ys, st4, gx4, w4, h4p, g4, rb⟩
    obtain ⟨stop1, go1'⟩ := it1 G4 M3 H7 gx4 w4 hC1 b
    by_cases hlt1 : b < es.length
    · obtain ⟨go2, yld1⟩ := go1' es[b] (List.getElem?_eq_getElem hlt1)
      have tb : es.take (b + 1) = es.take b ++ [es[b]] := by rw [List.take_add_one, List.getElem?_eq_getElem hlt1]; rfl
      refine .inr ⟨go2, fun H8 => ∃ G5, St G3 (F (ds'.take a) ++ (es.take (b + 1)).map (f ds'[a])) G5 H8, fun H8 n => ⟨es.length - (b + 1), by omega, rfl, hlt1, n⟩, fun u H8 hu => ?_⟩
      obtain ⟨G5, st5, w5, ru⟩ := yld1 u H8 hu
      obtain ⟨h5p, g5, _⟩ := st5.keep p _ h4p m0
      have sw2 : SRp X.K G5 (wipeD ((wipeD sg [i, j]).set i (some ds'[a])) [j]) (wipe σ2 [j]) := wipe_rp (s3.mono (gx4.trans (st5.gx w4))) [j]
      intro t9 H9 C9 cl9 fp9
      refine blk_name (vs := [j]) j hN hy hjy t9 H9 C9 cl9 fp9 (wipe σ2 [j]) H8 G5 M3 u _ w5 sw2 ru fun σ3 s4 l3 o3 => ⟨wipe_same (is := [j]) (fun q hq => hq) l3 o3, ?_⟩
      dsimp only [tYes]
      rw [if_pos rfl]
      intro ta Ha Ca cla fpa
      refine (h2 a b ds'[a] es[b] (List.getElem?_eq_getElem hlt) (by rw [← e1']; exact List.getElem?_eq_getElem hlt1) ta Ha Ca cla fpa σ3 H8 G5 w5 s4).imp fun z Hb ⟨d, G6, M6, st6, w6, r6, q1, q2⟩ => ?_
      subst q1; subst q2
      obtain ⟨h6p, g6, _⟩ := st6.keep p _ h5p m0
      have gx6 : Gx G4 G6 := (st5.gx w4).trans (st6.gx w5)
      have g6' : G6 p = none := by rw [g6, g5, g4]
      have stA := (st4.trans st5).trans st6
      have hle2 : (F (ds'.take a) ++ (es.take b).map (f ds'[a])).length < sizeLine := by
        have k1 := hF (a + 1)
        rw [hFn, ← e1'] at k1
        rw [List.length_append, List.length_map] at k1
        rw [List.length_append, List.length_map, List.length_take]
        have k2 := flen ds'
        omega
      refine ⟨ys, h6p, by rw [rb.length]; exact hle2, G6, ys ++ [z], ⟨fun c o e m => ?_, stA.base⟩, gx4.trans gx6, w6.other g6' m0 (by rw [← stA.base] at hf0; exact hf0), upd_same, g6', ?_⟩
      · obtain ⟨a1, a2, a3⟩ := stA.keep c o e m
        exact ⟨by rw [upd_ne (ne_of_none e hp)]; exact a1, a2, a3⟩
      · rw [tb, List.map_append, ← List.append_assoc]
        exact (rb.mono gx6).append (.cons r6 .nil)
    · have e : b = es.length := by omega
      subst e
      refine .inl ⟨stop1 rfl, G4, ys, st4, (gx1.trans gx3).trans gx4, w4, h4p, g4, ?_⟩
      rw [List.take_length] at rb
      rw [hFn, ← e1']
      exact rb
  · have e : a = ds'.length := by omega
    subst e
    obtain ⟨w2, gx2⟩ := w1.adopt h1p g1 m0 (by rw [← st1.base] at hf0; exact hf0)
    rw [List.take_length] at ra
    refine .inl ⟨stop rfl, kk _ _ (PV.base st0 ⟨.lst (F ds'), _, M0, ⟨fun z o e m => ?_, st1.base⟩, w2, .lst upd_same (ra.mono gx2), rfl, rfl⟩)⟩
    obtain ⟨a1, a2, a3⟩ := st1.keep z o e m
    exact ⟨a1, by rw [upd_ne (ne_of_none e hp)]; exact a2, a3⟩
theorem ws_setLc22 {E : EndsD} (l i j : Nat) {z : Str} {pz spos : Pos} (g : D → List D) (f : D → D → D) (hc : X.calm = true) (hN : X.N.Nodup) (hi : WI X (.Name x px) iter sg M (ItQ ds M)) (hz : (ds.flatMap g).length < sizeLine)
    (h1 : ∀ (a : Nat) (d : D), ds[a]? = some d → Blk X scope fun Y => WI Y (.Name y py) iter1 ((wipeD sg [i, j]).set i (some d)) M (ItQ (g d) M))
    (h2 : ∀ (a b : Nat) (d e : D), ds[a]? = some d → (g d)[b]? = some e → Blk X scope fun Y => EE Y elt ((wipeD ((wipeD sg [i, j]).set i (some d)) [j]).set j (some e)) M (f d e))
    (q : E.nx (sg.set l (some (.lst (ds.flatMap fun d => (g d).map (f d))))) M)
    (ok : BlkOk X.N X.env.scope scope [(x, i), (y, j)] := by exact blkOk_by (by with_unfolding_all rfl)) (hx : scope.names.lookup x = some .local ∨ scope.names.lookup x = some .cell := by first | exact Or.inl rfl | exact Or.inr rfl) (hy : scope.names.lookup y = some .local ∨ scope.names.lookup y = some .cell := by first | exact Or.inl rfl | exact Or.inr rfl)
    (hl : X.N[l]? = some z := by rfl) (hyl : X.env.scope.names.lookup z = some .local := by rfl) (hsw : swapsWith (.ListComp elt [⟨.Name x px, iter, [], 0⟩, ⟨.Name y py, iter1, [], 0⟩] scope pos) (some (.Name z pz)) spos.line X.env = pure true := by exact sw_true rfl rfl rfl (by decide +kernel))
    (hs : ∀ x, foldedSetIterable iter X.env x = pure x := by intro _; rfl) (hs1 : ∀ env x, foldedSetIterable iter1 env x = pure x := by intro _ _; rfl) : WS X (.Assign [.Name z pz] (.ListComp elt [⟨.Name x px, iter, [], 0⟩, ⟨.Name y py, iter1, [], 0⟩] scope pos) spos) sg M E := by
  obtain ⟨wi, pi, hw⟩ := hi
  have hix := ok.ix (x, i) (by simp)
  have hjy := ok.ix (y, j) (by simp)
  refine WS.of (ps_setLc2 (own := [(x, i), (y, j)]) (vs1 := [j]) hc hN hl hyl hsw pi ok (by simp) blk_pg (fun _ _ _ _ _ => pts_nil) blk_pi blk_pg (fun _ _ _ _ _ => pts_nil) blk_pe hs hs1) fun σ H G w s => lc22_run i j g f hN hw hz h1 h2 hix hjy hx hy w s fun v H' p => ?_
  obtain ⟨d, G1, M1, st, w1, r1, e1, e2⟩ := p
  subst e1; subst e2
  exact ⟨_, G1, M1, st, w1, (s.mono (st.gx w)).set l r1, q⟩
end
end DL
set_option Elab.async false
set_option linter.all false
set_option maxRecDepth 100000
set_option maxHeartbeats 4000000
/-! DMt: the top's own nested tuples as data; comprehensions whose list may change; classes' heads. -/
namespace DL
open PySem L2 PyProof.Rows
mutual
def kval (K : PySem.W.Frag) : Nat → Value → D → Bool
  | _, .int i _, .int j => decide (i = j)
  | _, .none, .non => true
  | n + 1, .ref a, .tup ds => match K.lookup a with
    | some ⟨.type t, none, .seq its _, _⟩ => decide (t = "tuple") && (kvals K n its.toList ds && (decide (its.size ≤ 1000) && ds.any nI))
    | _ => false
  | _, _, _ => false
def kvals (K : PySem.W.Frag) : Nat → List Value → List D → Bool
  | _, [], [] => true
  | n, v :: vs, d :: ds => kval K n v d && kvals K n vs ds
  | _, _, _ => false
end
theorem kvals_of {K : PySem.W.Frag} {n : Nat} (ih : ∀ {v : Value} {d : D}, kval K n v d = true → ∃ x, RelV x v ∧ ∀ G, Rp K G x d) : ∀ {vs : List Value} {ds : List D}, kvals K n vs ds = true → ∃ xs, Vals xs vs ∧ ∀ G, RpA K G xs ds
  | [], [], _ => ⟨[], .nil, fun G => .nil⟩
  | [], _ :: _, h => by unfold kvals at h; cases h
  | _ :: _, [], h => by unfold kvals at h; cases h
  | v :: vs, d :: ds, h => by
    unfold kvals at h
    obtain ⟨h1, h2⟩ := Bool.and_eq_true_iff.mp h
    obtain ⟨x, r1, g1⟩ := ih h1
    obtain ⟨xs, r2, g2⟩ := kvals_of ih h2
    exact ⟨x :: xs, .cons r1 r2, fun G => .cons (g1 G) (g2 G)⟩
theorem kval_of {K : PySem.W.Frag} : ∀ {n : Nat} {v : Value} {d : D}, kval K n v d = true → ∃ x, RelV x v ∧ ∀ G, Rp K G x d
  | n, v, d, h => by
    unfold kval at h
    split at h
    · rename_i i t j
      have e := of_decide_eq_true h
      subst e
      exact ⟨.int i, ⟨t, rfl⟩, fun G => .int i⟩
    · exact ⟨.non, rfl, fun G => .non⟩
    · rename_i m a ds
      split at h
      · rename_i t its k sl e
        simp only [Bool.and_eq_true, decide_eq_true_eq] at h
        obtain ⟨rfl, h1, h2, h3⟩ := h
        obtain ⟨xs, r, g⟩ := kvals_of (fun {v d} => kval_of (n := m) (v := v) (d := d)) h1
        exact ⟨.ref a, rfl, fun G => .tup (.inr ⟨⟨_, its, k, e, rfl, rfl, Nat.le_trans h2 (by decide), r⟩, h3⟩) (g G)⟩
      · cases h
    · cases h
/-- the top's own tuple at a is the datum d -/
def KT1 (K : PySem.W.Frag) (a : Addr) (d : D) : Prop := ∀ G, Rp K G (.ref a) d
theorem kt1 {K : PySem.W.Frag} {n : Nat} {a : Addr} {d : D} (h : kval K n (.ref a) d = true) : KT1 K a d := fun G => by
  obtain ⟨x, r, g⟩ := kval_of h
  have : x = V.ref a := by
    cases x with
    | ref b =>
      cases r
      rfl
    | non => cases r
    | bl b => cases r
    | int i => obtain ⟨t, e⟩ := r; cases e
    | str i => obtain ⟨t, e⟩ := r; cases e
    | _ => first | (obtain ⟨t, e⟩ := r; cases e; done) | (cases r; done)
  subst this
  exact g G
section
variable {X : Cx} {sg : Sg} {M : Mem} {Q : D → Mem → Prop} {pos : Pos}
theorem ee_kt {x : Str} {a : Addr} {d : D} (hm : X.mg x = some (.ref a)) (hk : KT1 X.K a d) (hg : Gl X x := by rfl) (hd : (x == ("__debug__" : Str)) = false := by decide) : EE X (.Name x pos) sg M d := WE.of (pe_glob (v := .ref a) hg hm rfl hd) fun σ H G w r => PV.here w (hk G) ⟨rfl, rfl⟩
/-- a comprehension whose list may change -/
theorem we_lcM {tg iter elt : Expr} {ifs : List Expr} {scope : Scope} {Qi : List D → (Mem → Prop) → Mem → Prop} (own : List (Str × Nat)) (hc : X.calm = true) (hN : X.N.Nodup) (ok : BlkOk X.N X.env.scope scope own) (hi : WI X tg iter sg M Qi) (h : LcOkM X scope (own.map (·.2)) tg elt ifs sg Qi Q) (hif : ifs.length ≤ 1 := by decide) (hs : ∀ x, foldedSetIterable iter X.env x = pure x := by intro _; rfl) : WE X (.ListComp elt [⟨tg, iter, ifs, 0⟩] scope pos) sg M Q := by
  obtain ⟨wi, pi, hw⟩ := hi
  exact WE.of (pe_lc hc hN pi ok blk_pg (blk_pts hif) blk_pe hs) fun σ H G w s => lc_runM hw hif h w s fun v H' q => q
variable {scope : Scope} {x : Str} {px : Pos} {iter elt : Expr} {ds : List D}
theorem ok_lcM1if {c : Expr} (i : Nat) (p : D → Bool) (f : D → D) (hc : X.calm = true) (hN : X.N.Nodup) (hz : ds.length < sizeLine) (ht : ∀ (j : Nat) (d : D), ds[j]? = some d → Blk X scope fun Y => ET Y c ((wipeD sg [i]).set i (some d)) M (p d)) (h : ∀ (j : Nat) (d : D), ds[j]? = some d → p d = true → Blk X scope fun Y => EE Y elt ((wipeD sg [i]).set i (some d)) M (f d))
    (q : ∀ a, M a = none → Q (.ptr a) (updM M a (some (.lst ((ds.filter p).map f)))))
    (ok : BlkOk X.N X.env.scope scope [(x, i)]) (hx : scope.names.lookup x = some .local ∨ scope.names.lookup x = some .cell) : LcOkM X scope [i] (.Name x px) elt [c] sg (ItQ ds M) Q :=
  fun ds' C M0 ⟨e1, e2, hC⟩ => by
    subst e1; subst e2
    refine ⟨fun j acc M1 => j ≤ ds'.length ∧ acc = ((ds'.take j).filter p).map f ∧ M1 = M0, ⟨Nat.zero_le _, rfl, rfl⟩, fun j acc M1 ⟨hj, e1, e2⟩ => ?_, fun j d acc M1 hd ⟨hj, e1, e2⟩ => ?_, fun acc M1 ⟨_, e1, e2⟩ => ?_⟩
    · subst e1; subst e2
      refine ⟨hC, ?_⟩
      rw [List.length_map]
      have a1 := List.length_filter_le p (ds'.take j)
      rw [List.length_take] at a1
      omega
    · subst e1; subst e2
      have hlt := (List.getElem?_eq_some_iff.mp hd).1
      have tk : ds'.take (j + 1) = ds'.take j ++ [d] := by rw [List.take_add_one, hd]; rfl
      refine turn1 i (List.mem_singleton.mpr rfl) hN hx (ok.ix _ (List.mem_singleton.mpr rfl)) (fun b M2 => b = p d ∧ M2 = M1) (ht j d hd) (fun M2 ⟨e3, e⟩ => ?_) (fun M2 ⟨e3, e⟩ => ⟨hlt, ?_, e⟩)
      · subst e
        refine fun s H C cl fp => (h j d hd e3.symm s H C cl fp).imp fun z M3 ⟨e5, e4⟩ => ⟨hlt, ?_, e4⟩
        rw [e5, tk, List.filter_append, List.map_append, List.filter_cons_of_pos e3.symm]
        rfl
      · rw [tk, List.filter_append, List.filter_cons_of_neg (by rw [← e3]; exact Bool.false_ne_true), List.filter_nil, List.append_nil]
    · rw [List.take_length] at e1
      subst e1
      subst e2
      exact q
/-- [elt for x in iter if c], to be changed -/
theorem we_lcM1if {c : Expr} (i : Nat) (p : D → Bool) (f : D → D) (hc : X.calm = true) (hN : X.N.Nodup) (hi : WI X (.Name x px) iter sg M (ItQ ds M)) (hz : ds.length < sizeLine) (ht : ∀ (j : Nat) (d : D), ds[j]? = some d → Blk X scope fun Y => ET Y c ((wipeD sg [i]).set i (some d)) M (p d)) (h : ∀ (j : Nat) (d : D), ds[j]? = some d → p d = true → Blk X scope fun Y => EE Y elt ((wipeD sg [i]).set i (some d)) M (f d))
    (q : ∀ a, M a = none → Q (.ptr a) (updM M a (some (.lst ((ds.filter p).map f)))))
    (ok : BlkOk X.N X.env.scope scope [(x, i)] := by exact blkOk_by (by with_unfolding_all rfl)) (hx : scope.names.lookup x = some .local ∨ scope.names.lookup x = some .cell := by first | exact Or.inl rfl | exact Or.inr rfl) (hs : ∀ x, foldedSetIterable iter X.env x = pure x := by intro _; rfl) : WE X (.ListComp elt [⟨.Name x px, iter, [c], 0⟩] scope pos) sg M Q :=
  we_lcM [(x, i)] hc hN ok hi (ok_lcM1if i p f hc hN hz ht h q ok hx) (Nat.le_refl _) hs
end
/-! ### what is changed, and what is not -/
/-- but for own (what was told of it) and new addresses nothing is changed; own' is own's, or new -/
structure Ch (M M' : Mem) (own own' : List Addr) : Prop where
  same : ∀ x, M x ≠ none → x ∉ own → M' x = M x
  old : ∀ x ∈ own', x ∈ own ∨ M x = none
theorem Ch.refl (M : Mem) (own : List Addr) : Ch M M own own := ⟨fun _ _ _ => rfl, fun _ h => .inl h⟩
theorem Ch.keep {M M' : Mem} {o o' : List Addr} (c : Ch M M' o o') {x : Addr} (h : M x ≠ none) (hx : x ∉ o) : M' x = M x ∧ x ∉ o' := ⟨c.same x h hx, fun z => (c.old x z).elim hx h⟩
theorem Ch.at {M M' : Mem} {o o' : List Addr} (c : Ch M M' o o') {x : Addr} {u : MO} (h : M x = some u) (hx : x ∉ o) : M' x = some u ∧ x ∉ o' := by
  obtain ⟨a, b⟩ := c.keep (fun z => by rw [h] at z; cases z) hx
  exact ⟨a.trans h, b⟩
theorem Ch.trans {M M1 M2 : Mem} {o o1 o2 : List Addr} (a : Ch M M1 o o1) (b : Ch M1 M2 o1 o2) : Ch M M2 o o2 := by
  refine ⟨fun x h hx => ?_, fun x hx => ?_⟩
  · obtain ⟨e, n⟩ := a.keep h hx
    exact (b.same x (by rw [e]; exact h) n).trans e
  · rcases b.old x hx with h | h
    · exact a.old x h
    · by_cases hx2 : x ∈ o
      · exact .inl hx2
      · refine .inr ?_
        cases e : M x with
        | none => rfl
        | some u =>
          have := (a.at e hx2).1
          rw [this] at h
          cases h
theorem Ch.upd {M : Mem} {o : List Addr} {a : Addr} {u : Option MO} (ha : a ∈ o) : Ch M (updM M a u) o o := ⟨fun x _ hx => updM_ne fun e => hx (by rw [e]; exact ha), fun _ h => .inl h⟩
theorem Ch.new {M : Mem} {o : List Addr} {a : Addr} {u : Option MO} (ha : M a = none) : Ch M (updM M a u) o (a :: o) := ⟨fun x h _ => updM_ne fun e => h (by rw [e]; exact ha), fun x h => by
  rcases List.mem_cons.mp h with rfl | h
  · exact .inr ha
  · exact .inl h⟩
theorem Ch.less {M M' : Mem} {o o1 o2 : List Addr} (c : Ch M M' o o1) (h : ∀ x ∈ o2, x ∈ o1) : Ch M M' o o2 := ⟨c.same, fun x hx => c.old x (h x hx)⟩
theorem Ch.more {M M' : Mem} {o o1 o2 : List Addr} (c : Ch M M' o o1) (h : ∀ x ∈ o, x ∈ o2) : Ch M M' o2 o1 := ⟨fun x a b => c.same x a fun z => b (h x z), fun x hx => (c.old x hx).imp (h x) id⟩
/-- what was made anew -/
theorem Ch.made {M M' : Mem} {a : Addr} {u : Option MO} {o : List Addr} (ha : M a = none) (c : Ch (updM M a u) M' [a] o) : Ch M M' [] o := by
  refine ⟨fun x h _ => ?_, fun x hx => .inr ?_⟩
  · have hx : x ≠ a := fun e => h (by rw [e]; exact ha)
    rw [c.same x (by rw [updM_ne hx]; exact h) (fun z => hx (List.mem_singleton.mp z)), updM_ne hx]
  · rcases c.old x hx with h | h
    · rw [List.mem_singleton.mp h]; exact ha
    · by_cases e : x = a
      · rw [e]; exact ha
      · rw [updM_ne e] at h; exact h
/-! ### classes -/
/-- the method m of the class stands behind its def -/
def Dm (K : PySem.W.Frag) (C : Addr) (m q : Str) (st : Stmt) (ps : List Str) : Prop := ∃ f fd, Fun K m q st f fd ∧ Meth K C m f ∧ Binds K fd ps []
def Di (K : PySem.W.Frag) (mg : Str → Option Value) (x : Str) (C : Addr) (q : Str) (st : Stmt) (ps : List Str) : Prop := ∃ f fd, Fun K "__init__" q st f fd ∧ Mk K C f ∧ mg x = some (.ref C) ∧ Binds K fd ps []
structure HCf (K : PySem.W.Frag) (C : Addr) (fs : List Str) : Prop where
  cls : Cls K C
  na : ∀ f : Str, f ∈ fs → NoAttr K C f
section
variable {P : Program} {w : World} {K : PySem.W.Frag} {mg : Str → Option Value} {base : Heap} {C : Addr}
theorem dfm {m q : Str} {st : Stmt} {N ps : List Str} {k n : Nat} {S : SpD} (F : Dm K C m q st ps) (sc : FnScope N ps (defScope st)) (hn : ps.length = n)
    (body : ∀ (f : Addr) (cdv : Value) (A : Around) (outer : List Env) (s : Shared) (H : Hp) (E : XK) (ds : List D) (M : Mem) (Q : D → Mem → Prop), Room k (A.deeper (envOfC q (defScope st) s.heap.objs.size f cdv)) → ds.length = n → S ds M Q →
      WSs (cxOf CX0 P w K mg base N q (defScope st) f cdv A outer s H E).nox (defBody st) (startD N ds) M { nx := fun _ M' => Q .non M', rt := Q }) : CalM P w K mg base (k + 1) C m n S := by
  obtain ⟨f, fd, F, hm, hb⟩ := F
  exact ⟨f, fd, ps, dfnF F sc hn body, hm, hb⟩
theorem dfi {x q : Str} {st : Stmt} {N ps : List Str} {k n : Nat} {S : SpD} (F : Di K mg x C q st ps) (sc : FnScope N ps (defScope st)) (hn : ps.length = n)
    (body : ∀ (f : Addr) (cdv : Value) (A : Around) (outer : List Env) (s : Shared) (H : Hp) (E : XK) (ds : List D) (M : Mem) (Q : D → Mem → Prop), Room k (A.deeper (envOfC q (defScope st) s.heap.objs.size f cdv)) → ds.length = n → S ds M Q →
      WSs (cxOf CX0 P w K mg base N q (defScope st) f cdv A outer s H E).nox (defBody st) (startD N ds) M { nx := fun _ M' => Q .non M', rt := Q }) : CalI P w K mg base (k + 1) x C n S := by
  obtain ⟨f, fd, F, hm, hg, hb⟩ := F
  exact ⟨f, fd, ps, dfnF F sc hn body, hm, hg, hb⟩
end
end DL
set_option Elab.async false
set_option linter.all false
set_option maxRecDepth 100000
set_option maxHeartbeats 4000000
namespace K42
open PySem L2 PyProof.Rows DL
def topS (i : Nat) : Stmt := PySem.Challenge.pw_changestold_k42_whole_hurt_lines.main.body.getD i (.Pass ⟨0, 0, 0, 0⟩)
def clsB : Stmt → List Stmt
  | .ClassDef (body := b) .. => b
  | _ => []
def forBody : Stmt → List Stmt
  | .For _ _ b _ _ => b
  | _ => []
abbrev s_is_number : Stmt := topS 1
theorem sc_is_number : FnScope ["value", "least", "most"] ["value", "least", "most"] (defScope s_is_number) := ⟨rfl, rfl, rfl, by decide +kernel, rfl, by decide +kernel, by decide +kernel⟩
-- is_number: value 0, least 1, most 2
abbrev s_is_copy : Stmt := topS 6
theorem sc_is_copy : FnScope ["value"] ["value"] (defScope s_is_copy) := ⟨rfl, rfl, rfl, by decide +kernel, rfl, by decide +kernel, by decide +kernel⟩
-- is_copy: value 0
abbrev s_is_fate : Stmt := topS 7
theorem sc_is_fate : FnScope ["value", "copy"] ["value"] (defScope s_is_fate) := ⟨rfl, rfl, rfl, by decide +kernel, rfl, by decide +kernel, by decide +kernel⟩
-- is_fate: value 0, copy 1
abbrev s_is_script : Stmt := topS 8
theorem sc_is_script : FnScope ["value", "fate"] ["value"] (defScope s_is_script) := ⟨rfl, rfl, rfl, by decide +kernel, rfl, by decide +kernel, by decide +kernel⟩
-- is_script: value 0, fate 1
abbrev s_fate_of : Stmt := topS 9
theorem sc_fate_of : FnScope ["script", "number"] ["script", "number"] (defScope s_fate_of) := ⟨rfl, rfl, rfl, by decide +kernel, rfl, by decide +kernel, by decide +kernel⟩
-- fate_of: script 0, number 1
abbrev s_hurt_data : Stmt := topS 10
theorem sc_hurt_data : FnScope ["data", "hurt", "place"] ["data", "hurt"] (defScope s_hurt_data) := ⟨rfl, rfl, rfl, by decide +kernel, rfl, by decide +kernel, by decide +kernel⟩
-- hurt_data: data 0, hurt 1, place 2
abbrev s_whole_delays : Stmt := topS 11
theorem sc_whole_delays : FnScope ["fate", "delay", "hurt"] ["fate"] (defScope s_whole_delays) := ⟨rfl, rfl, rfl, by decide +kernel, rfl, by decide +kernel, by decide +kernel⟩
-- whole_delays: fate 0, delay 1, hurt 2
abbrev s_is_starved : Stmt := topS 12
theorem sc_is_starved : FnScope ["script", "fate"] ["script"] (defScope s_is_starved) := ⟨rfl, rfl, rfl, by decide +kernel, rfl, by decide +kernel, by decide +kernel⟩
-- is_starved: script 0, fate 1
abbrev s_latest_news : Stmt := topS 13
theorem sc_latest_news : FnScope ["script", "found", "begin", "rows", "k", "delay"] ["script"] (defScope s_latest_news) := ⟨rfl, rfl, rfl, by decide +kernel, rfl, by decide +kernel, by decide +kernel⟩
-- latest_news: script 0, found 1, begin 2, rows 3, k 4, delay 5
abbrev m_L_init : Stmt := (clsB (topS 16)).getD 0 (.Pass ⟨0, 0, 0, 0⟩)
theorem sm_L_init : FnScope ["self", "scripts", "link", "script"] ["self", "scripts"] (defScope m_L_init) := ⟨rfl, rfl, rfl, by decide +kernel, rfl, by decide +kernel, by decide +kernel⟩
-- L_init: self 0, scripts 1, link 2, script 3
abbrev m_L_script : Stmt := (clsB (topS 16)).getD 1 (.Pass ⟨0, 0, 0, 0⟩)
theorem sm_L_script : FnScope ["self", "link"] ["self", "link"] (defScope m_L_script) := ⟨rfl, rfl, rfl, by decide +kernel, rfl, by decide +kernel, by decide +kernel⟩
-- L_script: self 0, link 1
abbrev m_L_count : Stmt := (clsB (topS 16)).getD 2 (.Pass ⟨0, 0, 0, 0⟩)
theorem sm_L_count : FnScope ["self", "link"] ["self", "link"] (defScope m_L_count) := ⟨rfl, rfl, rfl, by decide +kernel, rfl, by decide +kernel, by decide +kernel⟩
-- L_count: self 0, link 1
abbrev m_L_send : Stmt := (clsB (topS 16)).getD 3 (.Pass ⟨0, 0, 0, 0⟩)
theorem sm_L_send : FnScope ["self", "tick", "link", "data", "number", "fate", "copy", "delay", "hurt"] ["self", "tick", "link", "data"] (defScope m_L_send) := ⟨rfl, rfl, rfl, by decide +kernel, rfl, by decide +kernel, by decide +kernel⟩
-- L_send: self 0, tick 1, link 2, data 3, number 4, fate 5, copy 6, delay 7, hurt 8
abbrev m_L_arrived : Stmt := (clsB (topS 16)).getD 4 (.Pass ⟨0, 0, 0, 0⟩)
theorem sm_L_arrived : FnScope ["self", "tick", "end", "here", "row"] ["self", "tick", "end"] (defScope m_L_arrived) := ⟨rfl, rfl, rfl, by decide +kernel, rfl, by decide +kernel, by decide +kernel⟩
-- L_arrived: self 0, tick 1, end 2, here 3, row 4
abbrev m_L_under_way : Stmt := (clsB (topS 16)).getD 5 (.Pass ⟨0, 0, 0, 0⟩)
theorem sm_L_under_way : FnScope ["self", "end", "row"] ["self", "end"] (defScope m_L_under_way) := ⟨rfl, rfl, rfl, by decide +kernel, rfl, by decide +kernel, by decide +kernel⟩
-- L_under_way: self 0, end 1, row 2
abbrev m_G_init : Stmt := (clsB (topS 19)).getD 0 (.Pass ⟨0, 0, 0, 0⟩)
theorem sm_G_init : FnScope ["self"] ["self"] (defScope m_G_init) := ⟨rfl, rfl, rfl, by decide +kernel, rfl, by decide +kernel, by decide +kernel⟩
-- G_init: self 0
abbrev m_G_put : Stmt := (clsB (topS 19)).getD 1 (.Pass ⟨0, 0, 0, 0⟩)
theorem sm_G_put : FnScope ["self", "data"] ["self", "data"] (defScope m_G_put) := ⟨rfl, rfl, rfl, by decide +kernel, rfl, by decide +kernel, by decide +kernel⟩
-- G_put: self 0, data 1
abbrev m_G_waiting : Stmt := (clsB (topS 19)).getD 2 (.Pass ⟨0, 0, 0, 0⟩)
theorem sm_G_waiting : FnScope ["self"] ["self"] (defScope m_G_waiting) := ⟨rfl, rfl, rfl, by decide +kernel, rfl, by decide +kernel, by decide +kernel⟩
-- G_waiting: self 0
abbrev m_G_out : Stmt := (clsB (topS 19)).getD 3 (.Pass ⟨0, 0, 0, 0⟩)
theorem sm_G_out : FnScope ["self", "rows", "k", "data"] ["self"] (defScope m_G_out) := ⟨rfl, rfl, rfl, by decide +kernel, rfl, by decide +kernel, by decide +kernel⟩
-- G_out: self 0, rows 1, k 2, data 3
abbrev m_G_hear : Stmt := (clsB (topS 19)).getD 4 (.Pass ⟨0, 0, 0, 0⟩)
theorem sm_G_hear : FnScope ["self", "number", "come"] ["self", "number"] (defScope m_G_hear) := ⟨rfl, rfl, rfl, by decide +kernel, rfl, by decide +kernel, by decide +kernel⟩
-- G_hear: self 0, number 1, come 2
abbrev m_T_init : Stmt := (clsB (topS 20)).getD 0 (.Pass ⟨0, 0, 0, 0⟩)
theorem sm_T_init : FnScope ["self"] ["self"] (defScope m_T_init) := ⟨rfl, rfl, rfl, by decide +kernel, rfl, by decide +kernel, by decide +kernel⟩
-- T_init: self 0
abbrev m_T_next_number : Stmt := (clsB (topS 20)).getD 1 (.Pass ⟨0, 0, 0, 0⟩)
theorem sm_T_next_number : FnScope ["self"] ["self"] (defScope m_T_next_number) := ⟨rfl, rfl, rfl, by decide +kernel, rfl, by decide +kernel, by decide +kernel⟩
-- T_next_number: self 0
abbrev m_T_hear : Stmt := (clsB (topS 20)).getD 2 (.Pass ⟨0, 0, 0, 0⟩)
theorem sm_T_hear : FnScope ["self", "number", "data", "found"] ["self", "number", "data"] (defScope m_T_hear) := ⟨rfl, rfl, rfl, by decide +kernel, rfl, by decide +kernel, by decide +kernel⟩
-- T_hear: self 0, number 1, data 2, found 3
abbrev m_T_lacking : Stmt := (clsB (topS 20)).getD 3 (.Pass ⟨0, 0, 0, 0⟩)
theorem sm_T_lacking : FnScope ["self", "most", "number"] ["self"] (defScope m_T_lacking) := ⟨rfl, rfl, rfl, by decide +kernel, rfl, by decide +kernel, by decide +kernel⟩
-- T_lacking: self 0, most 1, number 2
abbrev s_law_box : Stmt := topS 22
theorem sc_law_box : FnScope ["script"] ["script"] (defScope s_law_box) := ⟨rfl, rfl, rfl, by decide +kernel, rfl, by decide +kernel, by decide +kernel⟩
-- law_box: script 0
abbrev s_law_load : Stmt := topS 23
theorem sc_law_load : FnScope ["box", "cells", "cell", "size", "first", "second"] ["box"] (defScope s_law_load) := ⟨rfl, rfl, rfl, by decide +kernel, rfl, by decide +kernel, by decide +kernel⟩
-- law_load: box 0, cells 1, cell 2, size 3, first 4, second 5
abbrev s_law_draw : Stmt := topS 24
theorem sc_law_draw : FnScope ["box", "many", "digit"] ["box", "many"] (defScope s_law_draw) := ⟨rfl, rfl, rfl, by decide +kernel, rfl, by decide +kernel, by decide +kernel⟩
-- law_draw: box 0, many 1, digit 2
abbrev s_law_same : Stmt := topS 25
theorem sc_law_same : FnScope ["a", "b", "k"] ["a", "b"] (defScope s_law_same) := ⟨rfl, rfl, rfl, by decide +kernel, rfl, by decide +kernel, by decide +kernel⟩
-- law_same: a 0, b 1, k 2
abbrev s_law_bent : Stmt := topS 26
theorem sc_law_bent : FnScope ["box", "value", "at", "pick"] ["box", "value"] (defScope s_law_bent) := ⟨rfl, rfl, rfl, by decide +kernel, rfl, by decide +kernel, by decide +kernel⟩
-- law_bent: box 0, value 1, at 2, pick 3
abbrev s_law_script : Stmt := topS 27
theorem sc_law_script : FnScope ["box", "whole", "fates", "step", "copies", "copy"] ["box", "whole"] (defScope s_law_script) := ⟨rfl, rfl, rfl, by decide +kernel, rfl, by decide +kernel, by decide +kernel⟩
-- law_script: box 0, whole 1, fates 2, step 3, copies 4, copy 5
abbrev s_law_hurt : Stmt := topS 28
theorem sc_law_hurt : FnScope ["data", "hurt", "place", "byte"] ["data", "hurt"] (defScope s_law_hurt) := ⟨rfl, rfl, rfl, by decide +kernel, rfl, by decide +kernel, by decide +kernel⟩
-- law_hurt: data 0, hurt 1, place 2, byte 3
abbrev s_law_whole : Stmt := topS 29
theorem sc_law_whole : FnScope ["value", "low", "high"] ["value", "low", "high"] (defScope s_law_whole) := ⟨rfl, rfl, rfl, by decide +kernel, rfl, by decide +kernel, by decide +kernel⟩
-- law_whole: value 0, low 1, high 2
abbrev s_law_is_copy : Stmt := topS 30
theorem sc_law_is_copy : FnScope ["value"] ["value"] (defScope s_law_is_copy) := ⟨rfl, rfl, rfl, by decide +kernel, rfl, by decide +kernel, by decide +kernel⟩
-- law_is_copy: value 0
abbrev s_law_is_script : Stmt := topS 31
theorem sc_law_is_script : FnScope ["value", "fate", "copy"] ["value"] (defScope s_law_is_script) := ⟨rfl, rfl, rfl, by decide +kernel, rfl, by decide +kernel, by decide +kernel⟩
-- law_is_script: value 0, fate 1, copy 2
abbrev s_law_course : Stmt := topS 32
theorem sc_law_course : FnScope ["box", "scripts", "line", "tick", "copies", "counts", "told", "step", "end", "link", "data", "k", "script", "number", "fate", "due", "row", "one"] ["box", "scripts"] (defScope s_law_course) := ⟨rfl, rfl, rfl, by decide +kernel, rfl, by decide +kernel, by decide +kernel⟩
-- law_course: box 0, scripts 1, line 2, tick 3, copies 4, counts 5, told 6, step 7, end 8, link 9, data 10, k 11, script 12, number 13, fate 14, due 15, row 16, one 17
abbrev s_law_talk : Stmt := topS 33
theorem sc_law_talk : FnScope ["box", "there", "back", "many", "line", "giver", "taker", "found", "number", "limit", "tick", "sender", "data", "k", "rows"] ["box", "there", "back", "many"] (defScope s_law_talk) := ⟨rfl, rfl, rfl, by decide +kernel, rfl, by decide +kernel, by decide +kernel⟩
-- law_talk: box 0, there 1, back 2, many 3, line 4, giver 5, taker 6, found 7, number 8, limit 9, tick 10, sender 11, data 12, k 13, rows 14
abbrev s_law : Stmt := topS 34
theorem sc_law : FnScope ["script", "box", "turn", "links", "step", "scripts", "link", "one", "some", "whole", "k", "copy", "starved", "row", "waits", "begin", "turned", "j", "delay", "due", "many", "found", "number", "taker", "kept", "given", "fine", "value"] ["script"] (defScope s_law) := ⟨rfl, rfl, rfl, by decide +kernel, rfl, by decide +kernel, by decide +kernel⟩
-- law: script 0, box 1, turn 2, links 3, step 4, scripts 5, link 6, one 7, some 8, whole 9, k 10, copy 11, starved 12, row 13, waits 14, begin 15, turned 16, j 17, delay 18, due 19, many 20, found 21, number 22, taker 23, kept 24, given 25, fine 26, value 27
section
variable {P : Program} {w : World} {K : PySem.W.Frag} {mg : Str → Option Value} {base : Heap}
/-! ### the box of draws: a list, its first item a list of its own -/
def Bx (M : Mem) (p c : Addr) : Prop := ∃ (cs : List Int) (a b : Int), M p = some (.lst [.ptr c, .int a, .int b]) ∧ M c = some (.lst (cs.map .int)) ∧ p ≠ c ∧ 0 ≤ a ∧ 0 ≤ b ∧ b < 4294967296
/-- nothing else is changed -/
def Els (M M' : Mem) (p c : Addr) : Prop := ∀ x, x ≠ p → x ≠ c → M' x = M x
theorem Els.refl (M : Mem) (p c : Addr) : Els M M p c := fun _ _ _ => rfl
theorem Els.trans {M M' M'' : Mem} {p c : Addr} (h : Els M M' p c) (h' : Els M' M'' p c) : Els M M'' p c := fun x a b => (h' x a b).trans (h x a b)
def S_box : SpD := fun ds M Q => ∃ ns : List Int, ds = [.scr ns] ∧ ns.length ≤ 63 ∧ ∀ p c M', M p = none → M c = none → Bx M' p c → Els M M' p c → Q (.ptr p) M'
theorem d_box (F : Df K mg "_law_box" s_law_box ["script"]) (B : Blt mg) : Cal P w K mg base 1 "_law_box" 1 S_box := by
  refine dfn' F sc_law_box rfl fun f cdv A outer s H E ds M Q hr hl hs => ?_
  obtain ⟨ns, rfl, hn, q⟩ := hs
  refine wss_one (ws_ret (we_lstM (wa_cons (we_ct call_list_of B.list bi_list (wa_cons (ee_sl sl_list (ee_v 0 rfl) eo_none (eo_some ee_int) (sd_scr (wa_nil (cd_lstM (.inr (.inl rfl)) fun c hc => ?_))))) ))))
  refine wa_cons (EE.to ee_int (wa_cons (EE.to (ee_add ee_int (ee_cb call_len B.len bi_len (ea_cons (ee_v 0 rfl) ea_nil) (cd_lenC ⟨rfl, rfl⟩))) (wa_nil ⟨by exact small30, fun p hp => ?_⟩))))
  have ne : p ≠ c := fun e => by subst e; rw [updM_same] at hp; cases hp
  have hpM : M p = none := by rw [updM_ne ne] at hp; exact hp
  exact q p c _ hpM hc ⟨_, 0, _, updM_same, by rw [updM_ne ne.symm]; exact updM_same, ne, by omega, by omega, by omega⟩ fun x h1 h2 => by rw [updM_ne h1, updM_ne h2]
def S_load : SpD := fun ds M Q => ∃ (p c : Addr), ds = [.ptr p] ∧ Bx M p c ∧ ∀ r M', 0 ≤ r → Bx M' p c → Els M M' p c → Q (.int r) M'
theorem d_load (F : Df K mg "_law_load" s_law_load ["box"]) (B : Blt mg) : Cal P w K mg base 1 "_law_load" 1 S_load := by
  refine dfn' F sc_law_load rfl fun f cdv A outer s H E ds M Q hr hl hs => ?_
  obtain ⟨p, c, rfl, hB, q⟩ := hs
  have nd := sc_law_load.nd
  obtain ⟨cs, a, b, hp, hc, ne, ha, hb, hb2⟩ := id hB
  -- behind the if
  have rest : ∀ (x y : Option D) (M1 : Mem), Bx M1 p c → Els M M1 p c → WSs (cxOf CX0 P w K mg base ["box", "cells", "cell", "size", "first", "second"] "_law_load" (defScope s_law_load) f cdv A outer s H E).nox ((defBody s_law_load).drop 2) [some (.ptr p), some (.ptr c), x, y, none, none] M1 { nx := fun _ M' => Q .non M', rt := Q } := fun x y M1 hB1 hE => by
    obtain ⟨cs, a, b, hp, hc, ne, ha, hb, hb2⟩ := hB1
    refine wss_cons (ws_set 4 nd (EE.to (ee_mod (ee_ct call_int1 B.int bi_int (ea_cons (ee_add (ee_mul (ee_ix ix_list (ee_v 0 rfl) ee_int (od_ixL (.inr ⟨p, rfl, hp⟩) rfl ⟨rfl, rfl⟩)) ee_int (.inr ⟨by decide, by decide⟩)) ee_int) ea_nil) (cd_int ⟨rfl, rfl⟩)) ee_int (by decide)) ?_))
    generalize h1 : (b * 48271 + 17) % 2147483629 = first
    refine wss_cons (ws_set 5 nd (EE.to (ee_mod (ee_ct call_int1 B.int bi_int (ea_cons (ee_add (ee_mul (ee_v 4 rfl) ee_int (.inr ⟨by decide, by decide⟩)) ee_int) ea_nil) (cd_int ⟨rfl, rfl⟩)) ee_int (by decide)) ?_))
    generalize h2 : (first * 69621 + 5) % 2147483587 = second
    refine wss_cons (ws_sub set_list (EE.to (ee_mod (ee_ct call_int1 B.int bi_int (ea_cons (ee_add (ee_mul (ee_v 5 rfl) ee_int (.inr ⟨by decide, by decide⟩)) ee_int) ea_nil) (cd_int ⟨rfl, rfl⟩)) ee_int (by decide)) (EE.to (ee_v 0 rfl) (EE.to ee_int (sd_setL hp rfl ?_)))))
    generalize h3 : (second * 40692 + 3) % 2147483563 = third
    have f0 : 0 ≤ first := by rw [← h1]; exact Int.emod_nonneg _ (by decide)
    have s0 : 0 ≤ second := by rw [← h2]; exact Int.emod_nonneg _ (by decide)
    have t0 : 0 ≤ third := by rw [← h3]; exact Int.emod_nonneg _ (by decide)
    have t1 : third < 2147483563 := by rw [← h3]; exact Int.emod_lt_of_pos _ (by decide)
    refine wss_one (ws_ret (EE.to (ee_add (ee_add (ee_mul (ee_v 4 rfl) ee_int (.inr ⟨by decide, by decide⟩)) (ee_mul (ee_v 5 rfl) ee_int (.inr ⟨by decide, by decide⟩))) (ee_ix ix_list (ee_v 0 rfl) ee_int (od_ixL (.inr ⟨p, rfl, updM_same⟩) rfl ⟨rfl, rfl⟩))) (q _ _ (by omega) ⟨cs, a, third, updM_same, by rw [updM_ne ne.symm]; exact hc, ne, ha, t0, by omega⟩ (hE.trans fun x h1 h2 => updM_ne h1))))
  refine wss_cons (ws_set 1 nd (EE.to (ee_ix ix_list (ee_v 0 rfl) ee_int (od_ixL (.inr ⟨p, rfl, hp⟩) rfl ⟨rfl, rfl⟩)) ?_))
  refine wss_cons (ws_ifE (et_gt (ee_cb call_len B.len bi_len (ea_cons (ee_v 1 rfl) ea_nil) (cd_lenL (.inr ⟨c, rfl, hc⟩) ⟨rfl, rfl⟩)) ee_int) (fun h => ?_) fun _ => wss_nil (rest _ _ M hB (Els.refl _ _ _)))
  cases cs with
  | nil => exact absurd (of_decide_eq_true h) (by decide)
  | cons n cs =>
    refine wss_cons (ws_set 2 nd (we_ct call_int1 B.int bi_int (wa_cons (we_bm PySem.F.plainAttrs_list PySem.F.slot_list_pop PySem.F.type_list_pop mt_popAt (EE.to (ee_v 1 rfl) ⟨ty_lst (.inr ⟨c, rfl, hc⟩), wa_cons (EE.to ee_int (wa_nil (md_pop0 hc (wa_nil (cd_int ?_)))))⟩)))))
    have hB1 : Bx (updM M c (some (.lst (cs.map .int)))) p c := ⟨cs, a, b, by rw [updM_ne ne]; exact hp, updM_same, ne, ha, hb, hb2⟩
    have hE1 : Els M (updM M c (some (.lst (cs.map .int)))) p c := fun x h1 h2 => updM_ne h2
    generalize updM M c (some (.lst (cs.map .int))) = M1 at hB1 hE1 ⊢
    refine wss_cons (ws_set 3 nd (WE.imp (Q := fun d M2 => (∃ z, d = .int z ∧ 0 ≤ z) ∧ M2 = M1) (we_if (ET.to (et_ge (ee_v 2 rfl) ee_int) ⟨fun h => EE.to (ee_mul ee_int (ee_v 2 rfl) (.inl ⟨by decide, by decide⟩)) ⟨⟨_, rfl, by have := of_decide_eq_true h; omega⟩, rfl⟩, fun h => EE.to (ee_sub (ee_mul (ee_neg ee_int) (ee_v 2 rfl) (.inl ⟨by decide, by decide⟩)) ee_int) ⟨⟨_, rfl, by have := of_decide_eq_false h; omega⟩, rfl⟩⟩)) fun d M2 ⟨⟨z, e1, hz⟩, e2⟩ => ?_))
    subst e1; subst e2
    refine wss_cons (ws_ifE (et_ge (ee_v 3 rfl) ee_int) (fun _ => wss_one (ws_ret (EE.to (ee_v 3 rfl) (q _ _ hz hB1 hE1)))) fun _ => wss_nil ?_)
    obtain ⟨cs2, a2, b2, hp2, hc2, ne2, ha2, hb2', hb22⟩ := hB1
    refine wss_one (ws_sub set_list (EE.to (ee_mod (ee_ct call_int1 B.int bi_int (ea_cons (ee_add (ee_add (ee_mul (ee_ix ix_list (ee_v 0 rfl) ee_int (od_ixL (.inr ⟨p, rfl, hp2⟩) rfl ⟨rfl, rfl⟩)) ee_int (.inr ⟨by decide, by decide⟩)) (ee_mul (ee_v 3 rfl) ee_int (.inr ⟨by decide, by decide⟩))) ee_int) ea_nil) (cd_int ⟨rfl, rfl⟩)) ee_int (by decide)) (EE.to (ee_v 0 rfl) (EE.to ee_int (sd_setL hp2 rfl ?_)))))
    generalize h3 : (b2 * 69621 + z * 48271 + 11) % 2147483647 = third
    have t0 : 0 ≤ third := by rw [← h3]; exact Int.emod_nonneg _ (by decide)
    have t1 : third < 2147483647 := by rw [← h3]; exact Int.emod_lt_of_pos _ (by decide)
    exact rest _ _ _ ⟨cs2, a2, third, updM_same, by rw [updM_ne ne2.symm]; exact hc2, ne2, ha2, t0, by omega⟩ (hE1.trans fun x h1 h2 => updM_ne h1)
def S_draw : SpD := fun ds M Q => ∃ (p c : Addr) (m : Int), ds = [.ptr p, .int m] ∧ Bx M p c ∧ 0 < m ∧ m < 1000000000 ∧ ∀ r M', 0 ≤ r → r < m → Bx M' p c → Els M M' p c → Q (.int r) M'
theorem d_draw (F : Df K mg "_law_draw" s_law_draw ["box", "many"]) (B : Blt mg) (C1 : Cal P w K mg base 1 "_law_load" 1 S_load) : Cal P w K mg base 2 "_law_draw" 2 S_draw := by
  refine dfn' F sc_law_draw rfl fun f cdv A outer s H E ds M Q hr hl hs => ?_
  obtain ⟨p, c, m, rfl, hB, m0, m1, q⟩ := hs
  have nd := sc_law_draw.nd
  have rest : ∀ (M1 : Mem), Bx M1 p c → Els M M1 p c → WSs (cxOf CX0 P w K mg base ["box", "many", "digit"] "_law_draw" (defScope s_law_draw) f cdv A outer s H E).nox ((defBody s_law_draw).drop 1) [some (.ptr p), some (.int m), none] M1 { nx := fun _ M' => Q .non M', rt := Q } := fun M1 hB1 hE => by
    obtain ⟨cs, a, b, hp, hc, ne, ha, hb, hb2⟩ := hB1
    refine wss_cons (ws_set 2 nd (EE.to (ee_mod (ee_ct call_int1 B.int bi_int (ea_cons (ee_ix ix_list (ee_v 0 rfl) ee_int (od_ixL (.inr ⟨p, rfl, hp⟩) rfl ⟨rfl, rfl⟩)) ea_nil) (cd_int ⟨rfl, rfl⟩)) (ee_v 1 rfl) m0) ?_))
    refine wss_cons (ws_sub set_list (EE.to (ee_fdiv (ee_ix ix_list (ee_v 0 rfl) ee_int (od_ixL (.inr ⟨p, rfl, hp⟩) rfl ⟨rfl, rfl⟩)) (ee_v 1 rfl) ⟨m0, by omega⟩) (EE.to (ee_v 0 rfl) (EE.to ee_int (sd_setL hp rfl ?_)))))
    exact wss_one (ws_ret (EE.to (ee_v 2 rfl) (q _ _ (Int.emod_nonneg _ (by omega)) (Int.emod_lt_of_pos _ m0) ⟨cs, a / m, b, updM_same, by rw [updM_ne ne.symm]; exact hc, ne, Int.ediv_nonneg ha (by omega), hb, hb2⟩ (hE.trans fun x h1 h2 => updM_ne h1))))
  obtain ⟨cs, a, b, hp, hc, ne, ha, hb, hb2⟩ := id hB
  refine wss_cons (ws_ifE (et_lt (ee_ix ix_list (ee_v 0 rfl) ee_int (od_ixL (.inr ⟨p, rfl, hp⟩) rfl ⟨rfl, rfl⟩)) (ee_v 1 rfl)) (fun _ => ?_) fun _ => wss_nil (rest M hB (Els.refl _ _ _)))
  refine wss_one (ws_sub set_list (we_call C1 hr (EA.to (ea_cons (ee_v 0 rfl) ea_nil) ⟨rfl, p, c, rfl, hB, fun r M1 r0 hB1 hE => ?_⟩)))
  obtain ⟨cs1, a1, b1, hp1, hc1, ne1, ha1, hb1, hb21⟩ := hB1
  refine EE.to (ee_v 0 rfl) (EE.to ee_int (sd_setL hp1 rfl ?_))
  exact rest _ ⟨cs1, r, b1, updM_same, by rw [updM_ne ne1.symm]; exact hc1, ne1, r0, hb1, hb21⟩ (hE.trans fun x h1 h2 => updM_ne h1)
end
section
variable {P : Program} {w : World} {K : PySem.W.Frag} {mg : Str → Option Value} {base : Heap}
/-! ### _law_same -/
def S_same (n : Nat) : SpD := fun ds M Q => ∃ a b, ds = [a, b] ∧ wf 900 n a = true ∧ wf 900 n b = true ∧ Q (.bl (eqD a b)) M
theorem d_same_step {n : Nat} (F : Df K mg "_law_same" s_law_same ["a", "b"]) (B : Blt mg) (C : Cal P w K mg base n "_law_same" 2 (S_same n)) : Cal P w K mg base (n + 1) "_law_same" 2 (S_same (n + 1)) := by
  refine dfn' F sc_law_same rfl fun f cdv A outer s H E ds M Q hr hl hs => ?_
  obtain ⟨a, b, rfl, ha, hb, q⟩ := hs
  have nd := sc_law_same.nd
  have la := pl_lk M (wf_pl ha)
  have lb := pl_lk M (wf_pl hb)
  refine wss_cons (ws_ifE (ww_pt (ew_or (ww_pt (ew_and (et_val (ee_isT B.isinstance B.tuple (ee_v 0 rfl) la)) fun _ => ww_and1 (et_val (ee_isT B.isinstance B.tuple (ee_v 1 rfl) lb)))) fun _ => ww_or1 (ww_pt (ew_and (et_val (ee_isL B.isinstance B.list (ee_v 0 rfl) la)) fun _ => ww_and1 (et_val (ee_isL B.isinstance B.list (ee_v 1 rfl) lb)))))) (fun h => ?_) fun h1 => wss_nil ?_)
  · -- two tuples, two lists
    rcases Bool.or_eq_true_iff.mp h with h | h
    · obtain ⟨h1, h2⟩ := Bool.and_eq_true_iff.mp h
      obtain ⟨as, rfl⟩ := isT_of h1
      obtain ⟨bs, rfl⟩ := isT_of h2
      obtain ⟨za, wa⟩ := wf_tup ha
      obtain ⟨zb, wb⟩ := wf_tup hb
      have e : eqD (.tup as) (.tup bs) = (decide ((as.length : Int) = (bs.length : Int)) && ((List.range as.length).map fun j => eqD (as.getD j .non) (bs.getD j .non)).all id) := (eqD_of ⟨fun h => congrArg _ (eq_lists.mp h), fun h => eq_lists.mpr (D.tup.inj h)⟩).symm
      rw [e] at q
      refine wss_one (ws_ret (EE.to (ee_and (ee_eqI (ee_cb call_len B.len bi_len (ea_cons (ee_v 0 rfl) ea_nil) (cd_lenT ⟨rfl, rfl⟩)) (ee_cb call_len B.len bi_len (ea_cons (ee_v 1 rfl) ea_nil) (cd_lenT ⟨rfl, rfl⟩))) fun hl => we_one ?_) q))
      have hl' : as.length = bs.length := by have := of_decide_eq_true hl; omega
      refine ee_cb (cr_all rfl) B.all bi_all (ea_cons (ee_lc1 2 (ds := rngD 0 as.length) (fun d => .bl (eqD (as.getD (intOf d).toNat .non) (bs.getD (intOf d).toNat .non))) rfl nd (wi_rng1 B.range (EA.to (ea_cons (ee_cb call_len B.len bi_len (ea_cons (ee_v 0 rfl) ea_nil) (cd_lenT ⟨rfl, rfl⟩)) ea_nil) ⟨_, rfl, by omega, by omega, rfl, rfl, trivial⟩)) (by rw [rngD_len]; exact lt1000 (by omega)) fun j d hd s H C' cl fp => ?_) ea_nil) (cd_all (bs := (List.range as.length).map fun j => eqD (as.getD j .non) (bs.getD j .non)) (.inl ?_) ⟨rfl, rfl⟩)
      · obtain ⟨hj, rfl⟩ := rngD_at hd
        have ej : (intOf (.int (0 + (j : Int)))).toNat = j := by show (0 + (j : Int)).toNat = j; omega
        rw [ej]
        refine we_call C hr (EA.to (ea_cons (ee_ix ix_tup (ee_v 0 rfl) (ee_v 2 rfl) (od_ixT (atI_of hj) ⟨rfl, rfl⟩)) (ea_cons (ee_ix ix_tup (ee_v 1 rfl) (ee_v 2 rfl) (od_ixT (atI_of (by omega)) ⟨rfl, rfl⟩)) ea_nil)) ⟨rfl, _, _, rfl, wa _ ?_, wb _ ?_, rfl, rfl⟩)
        · rw [DL.getD_at hj]; exact List.getElem_mem hj
        · rw [DL.getD_at (by omega)]; exact List.getElem_mem _
      · unfold rngD
        rw [List.map_map, List.map_map]
        congr 1
        apply List.map_congr_left
        intro j _
        show D.bl (eqD (as.getD (0 + (j : Int)).toNat .non) (bs.getD (0 + (j : Int)).toNat .non)) = D.bl (eqD (as.getD j .non) (bs.getD j .non))
        rw [show (0 + (j : Int)).toNat = j by omega]
    · obtain ⟨h1, h2⟩ := Bool.and_eq_true_iff.mp h
      have h1' : ∃ as, a = .lst as := by cases a <;> first | exact ⟨_, rfl⟩ | exact absurd (show false = true from h1) Bool.false_ne_true | exact absurd (show false = true from ha) Bool.false_ne_true
      have h2' : ∃ bs, b = .lst bs := by cases b <;> first | exact ⟨_, rfl⟩ | exact absurd (show false = true from h2) Bool.false_ne_true | exact absurd (show false = true from hb) Bool.false_ne_true
      obtain ⟨as, rfl⟩ := h1'
      obtain ⟨bs, rfl⟩ := h2'
      obtain ⟨za, wa⟩ := wf_lst ha
      obtain ⟨zb, wb⟩ := wf_lst hb
      have e : eqD (.lst as) (.lst bs) = (decide ((as.length : Int) = (bs.length : Int)) && ((List.range as.length).map fun j => eqD (as.getD j .non) (bs.getD j .non)).all id) := (eqD_of ⟨fun h => congrArg _ (eq_lists.mp h), fun h => eq_lists.mpr (D.lst.inj h)⟩).symm
      rw [e] at q
      refine wss_one (ws_ret (EE.to (ee_and (ee_eqI (ee_cb call_len B.len bi_len (ea_cons (ee_v 0 rfl) ea_nil) (cd_lenL (.inl rfl) ⟨rfl, rfl⟩)) (ee_cb call_len B.len bi_len (ea_cons (ee_v 1 rfl) ea_nil) (cd_lenL (.inl rfl) ⟨rfl, rfl⟩))) fun hl => we_one ?_) q))
      have hl' : as.length = bs.length := by have := of_decide_eq_true hl; omega
      refine ee_cb (cr_all rfl) B.all bi_all (ea_cons (ee_lc1 2 (ds := rngD 0 as.length) (fun d => .bl (eqD (as.getD (intOf d).toNat .non) (bs.getD (intOf d).toNat .non))) rfl nd (wi_rng1 B.range (EA.to (ea_cons (ee_cb call_len B.len bi_len (ea_cons (ee_v 0 rfl) ea_nil) (cd_lenL (.inl rfl) ⟨rfl, rfl⟩)) ea_nil) ⟨_, rfl, by omega, by omega, rfl, rfl, trivial⟩)) (by rw [rngD_len]; exact lt1000 (by omega)) fun j d hd s H C' cl fp => ?_) ea_nil) (cd_all (bs := (List.range as.length).map fun j => eqD (as.getD j .non) (bs.getD j .non)) (.inl ?_) ⟨rfl, rfl⟩)
      · obtain ⟨hj, rfl⟩ := rngD_at hd
        have ej : (intOf (.int (0 + (j : Int)))).toNat = j := by show (0 + (j : Int)).toNat = j; omega
        rw [ej]
        refine we_call C hr (EA.to (ea_cons (ee_ix ix_list (ee_v 0 rfl) (ee_v 2 rfl) (od_ixL (.inl rfl) (atI_of hj) ⟨rfl, rfl⟩)) (ea_cons (ee_ix ix_list (ee_v 1 rfl) (ee_v 2 rfl) (od_ixL (.inl rfl) (atI_of (by omega)) ⟨rfl, rfl⟩)) ea_nil)) ⟨rfl, _, _, rfl, wa _ ?_, wb _ ?_, rfl, rfl⟩)
        · rw [DL.getD_at hj]; exact List.getElem_mem hj
        · rw [DL.getD_at (by omega)]; exact List.getElem_mem _
      · unfold rngD
        rw [List.map_map, List.map_map]
        congr 1
        apply List.map_congr_left
        intro j _
        show D.bl (eqD (as.getD (0 + (j : Int)).toNat .non) (bs.getD (0 + (j : Int)).toNat .non)) = D.bl (eqD (as.getD j .non) (bs.getD j .non))
        rw [show (0 + (j : Int)).toNat = j by omega]
  refine wss_cons (ws_ifE (ww_pt (ew_or (et_val (ee_isB B.isinstance B.bool (ee_v 0 rfl) la)) fun _ => ww_or1 (et_val (ee_isB B.isinstance B.bool (ee_v 1 rfl) lb)))) (fun h => ?_) fun h2 => wss_nil ?_)
  · rw [← same_leaf2 h] at q
    refine wss_one (ws_ret (EE.to (ee_and (ee_isB B.isinstance B.bool (ee_v 0 rfl) la) fun k1 => ee_and (ee_isB B.isinstance B.bool (ee_v 1 rfl) lb) fun k2 => we_one ?_) q))
    obtain ⟨x, rfl⟩ := isB_of k1
    obtain ⟨y, rfl⟩ := isB_of k2
    refine ee_cmp op_eq (ee_v 0 rfl) (ee_v 1 rfl) (od_eqB ⟨?_, rfl⟩)
    exact congrArg D.bl (eqD_of ⟨fun h => congrArg _ (of_decide_eq_true h), fun h => decide_eq_true (D.bl.inj h)⟩)
  refine wss_cons (ws_ifE (ww_pt (ew_or (ww_pt (ew_and (et_val (ee_isI B.isinstance B.int (ee_v 0 rfl) la)) fun _ => ww_and1 (et_val (ee_isI B.isinstance B.int (ee_v 1 rfl) lb)))) fun _ => ww_or1 (ww_pt (ew_and (et_val (ee_isS B.isinstance B.str (ee_v 0 rfl) la)) fun _ => ww_and1 (et_val (ee_isS B.isinstance B.str (ee_v 1 rfl) lb)))))) (fun h => ?_) fun h3 => wss_nil ?_)
  · obtain ⟨k1, k2⟩ := Bool.or_eq_false_iff.mp h2
    rcases Bool.or_eq_true_iff.mp h with h | h
    · obtain ⟨j1, j2⟩ := Bool.and_eq_true_iff.mp h
      obtain ⟨x, rfl⟩ := isI_of (d := a) (by rw [j1, k1]; rfl)
      obtain ⟨y, rfl⟩ := isI_of (d := b) (by rw [j2, k2]; rfl)
      refine wss_one (ws_ret (EE.to (ee_eqI (ee_v 0 rfl) (ee_v 1 rfl)) ?_))
      rw [eqD_of (a := .int x) (b := .int y) ⟨fun h => congrArg _ (of_decide_eq_true h), fun h => decide_eq_true (D.int.inj h)⟩]
      exact q
    · obtain ⟨j1, j2⟩ := Bool.and_eq_true_iff.mp h
      obtain ⟨x, rfl⟩ := isS_of j1
      obtain ⟨y, rfl⟩ := isS_of j2
      refine wss_one (ws_ret (ee_cmp op_eq (ee_v 0 rfl) (ee_v 1 rfl) (od_eqS ?_)))
      rw [eqD_of (a := .str x) (b := .str y) ⟨fun h => congrArg _ (of_decide_eq_true h), fun h => decide_eq_true (D.str.inj h)⟩]
      exact q
  · rw [← same_leaf4 (wf_pl ha) (wf_pl hb) h1 h2 h3] at q
    exact wss_one (ws_ret (EE.to (ee_and (ee_cmp op_isN (ee_v 0 rfl) ee_non (od_isN ⟨rfl, rfl⟩)) fun _ => we_one (ee_cmp op_isN (ee_v 1 rfl) ee_non (od_isN ⟨rfl, rfl⟩))) q))
theorem d_same0 (F : Df K mg "_law_same" s_law_same ["a", "b"]) : Cal P w K mg base 0 "_law_same" 2 (S_same 0) := by
  obtain ⟨f, fd, F, hm, hb⟩ := F
  have no : ∀ vs H R E, ¬ spD K 2 (S_same 0) vs H R E := fun vs H R E h => by
    obtain ⟨_, _, _, _, _, _, _, ⟨_, _, _, z, _⟩, _⟩ := h
    cases z
  exact ⟨f, fd, ["a", "b"], ⟨fun vs H R E h => absurd h (no vs H R E), fun A outer s H args us vs R E _ _ _ _ h => absurd h (no vs H R E)⟩, hm, F.kp, hb⟩
theorem d_same (F : Df K mg "_law_same" s_law_same ["a", "b"]) (B : Blt mg) : ∀ n : Nat, Cal P w K mg base n "_law_same" 2 (S_same n)
  | 0 => d_same0 F
  | n + 1 => d_same_step F B (d_same F B n)
end
end K42
set_option Elab.async false
set_option linter.all false
set_option maxRecDepth 100000
set_option maxHeartbeats 4000000
namespace K42
open PySem L2 PyProof.Rows DL
/-! ### copies, fates, scripts: what is taken -/
def hurtB : D → Bool
  | .non => true
  | .tup [x, y] => wholeB x 0 9999 && wholeB y 1 255
  | _ => false
def copyB : D → Bool
  | .tup [a, b] => wholeB a 1 50 && hurtB b
  | _ => false
def fateB : D → Bool
  | .tup ds => decide (ds.length ≤ 3) && ds.all copyB
  | _ => false
def scriptB : D → Bool
  | .tup ds => decide (1 ≤ ds.length) && decide (ds.length ≤ 32) && ds.all fateB
  | _ => false
structure Cc (mg : Str → Option Value) : Prop where
  delay : ∃ t, mg "MOST_DELAY" = some (.int 50 t)
  copies : ∃ t, mg "MOST_COPIES" = some (.int 3 t)
  turns : ∃ t, mg "MOST_TURNS" = some (.int 32 t)
  open_ : ∃ t, mg "MOST_OPEN" = some (.int 16 t)
theorem bn1 {b : Bool} (h : (!b) = true) : b = false := by cases b <;> first | rfl | cases h
theorem bn0 {b : Bool} (h : (!b) = false) : b = true := by cases b <;> first | rfl | cases h
theorem two_or (ds : List D) : (∃ a b, ds = [a, b]) ∨ ds.length ≠ 2 := by
  match ds with
  | [a, b] => exact .inl ⟨a, b, rfl⟩
  | [] => exact .inr (by decide)
  | [_] => exact .inr (fun h => by cases h)
  | _ :: _ :: _ :: _ => exact .inr (by simp)
theorem copyB_no {ds : List D} (h : ds.length ≠ 2) : copyB (.tup ds) = false := by
  match ds, h with
  | [a, b], h => exact absurd rfl h
  | [], _ => rfl
  | [_], _ => rfl
  | _ :: _ :: _ :: _, _ => rfl
theorem hurtB_no {ds : List D} (h : ds.length ≠ 2) : hurtB (.tup ds) = false := by
  match ds, h with
  | [a, b], h => exact absurd rfl h
  | [], _ => rfl
  | [_], _ => rfl
  | _ :: _ :: _ :: _, _ => rfl
theorem copyB_t {x : D} (h : isT x = false) : copyB x = false := by cases x <;> first | rfl | cases h
theorem fateB_t {x : D} (h : isT x = false) : fateB x = false := by cases x <;> first | rfl | cases h
theorem scriptB_t {x : D} (h : isT x = false) : scriptB x = false := by cases x <;> first | rfl | cases h
theorem hurtB_t {x : D} (h : isT x = false) (h2 : isNon x = false) : hurtB x = false := by cases x <;> first | cases h2; done | cases h; done | rfl
theorem pl2 {a b : D} (h : pl (.tup [a, b]) = true) : pl a = true ∧ pl b = true := by
  have := Bool.and_eq_true_iff.mp (show (pl a && (pl b && true)) = true from h)
  exact ⟨this.1, (Bool.and_eq_true_iff.mp this.2).1⟩
theorem pl_at {ds : List D} (h : pl (.tup ds) = true) {j : Nat} {d : D} (e : ds[j]? = some d) : pl d = true := plA_at (ds := ds) h e
/-- a test of plain data -/
def S_bool (f : D → Bool) : SpD := fun ds M Q => ∃ x, ds = [x] ∧ pl x = true ∧ Q (.bl (f x)) M
def S_num : SpD := fun ds M Q => ∃ x lo hi, ds = [x, .int lo, .int hi] ∧ pl x = true ∧ Q (.bl (wholeB x lo hi)) M
section
variable {P : Program} {w : World} {K : PySem.W.Frag} {mg : Str → Option Value} {base : Heap}
theorem d_number (F : Df K mg "is_number" s_is_number ["value", "least", "most"]) (B : Blt mg) : Cal P w K mg base 1 "is_number" 3 S_num := by
  refine dfn' F sc_is_number rfl fun f cdv A outer s H E ds M Q hr hl hs => ?_
  obtain ⟨x, lo, hi, rfl, hp, q⟩ := hs
  refine wss_one (ws_ret (EE.to ((ee_and (ee_isI B.isinstance B.int (ee_v 0 rfl) (pl_lk M hp)) fun h1 => ee_and (q := decide (lo ≤ intOf x) && decide (intOf x ≤ hi)) (ee_not (ee_isB B.isinstance B.bool (ee_v 0 rfl) (pl_lk M hp))) fun h2 => we_one ?_).is (congrArg D.bl (Bool.and_assoc _ _ _).symm)) q))
  obtain ⟨i, rfl⟩ := isI_of (d := x) (by rw [h1, h2]; rfl)
  exact ee_le_le (ee_v 1 rfl) (ee_v 0 rfl) (ee_v 2 rfl)
theorem d_whole (F : Df K mg "_law_whole" s_law_whole ["value", "low", "high"]) (B : Blt mg) : Cal P w K mg base 1 "_law_whole" 3 S_num := by
  refine dfn' F sc_law_whole rfl fun f cdv A outer s H E ds M Q hr hl hs => ?_
  obtain ⟨x, lo, hi, rfl, hp, q⟩ := hs
  refine wss_one (ws_ret (EE.to ((ee_and (ee_isI B.isinstance B.int (ee_v 0 rfl) (pl_lk M hp)) fun h1 => ee_and (q := decide (lo ≤ intOf x) && decide (intOf x ≤ hi)) (ee_not (ee_isB B.isinstance B.bool (ee_v 0 rfl) (pl_lk M hp))) fun h2 => ?_).is (congrArg D.bl (Bool.and_assoc _ _ _).symm)) q))
  obtain ⟨i, rfl⟩ := isI_of (d := x) (by rw [h1, h2]; rfl)
  exact ee_and (ee_le (ee_v 1 rfl) (ee_v 0 rfl)) fun _ => we_one (ee_le (ee_v 0 rfl) (ee_v 2 rfl))
theorem d_copy (F : Df K mg "is_copy" s_is_copy ["value"]) (B : Blt mg) (C : Cc mg) (C1 : Cal P w K mg base 1 "is_number" 3 S_num) : Cal P w K mg base 2 "is_copy" 1 (S_bool copyB) := by
  refine dfn' F sc_is_copy rfl fun f cdv A outer s H E ds M Q hr hl hs => ?_
  obtain ⟨x, rfl, hp, q⟩ := hs
  obtain ⟨t, hmd⟩ := C.delay
  cases hT : isT x with
  | false =>
    rw [copyB_t hT] at q
    exact wss_cons (ws_ifE (k := true) (ww_pt (ew_or (p := true) (q := true) (ET.is (et_not (et_val (ee_isT B.isinstance B.tuple (ee_v 0 rfl) (pl_lk M hp)))) (by rw [hT]; rfl)) fun h => Bool.noConfusion h)) (fun _ => wss_one (ws_ret (EE.to ee_bl q))) fun h => Bool.noConfusion h)
  | true =>
    obtain ⟨ds, rfl⟩ := isT_of hT
    rcases two_or ds with ⟨a, b, rfl⟩ | h2
    · obtain ⟨ha, hb⟩ := pl2 hp
      refine wss_cons (ws_ifE (k := !wholeB a 1 50) (ww_pt (ew_or (p := false) (q := !wholeB a 1 50) (ET.is (et_not (et_val (ee_isT B.isinstance B.tuple (ee_v 0 rfl) (pl_lk M hp)))) rfl) fun _ => ew_or (p := false) (q := !wholeB a 1 50) (ET.is (et_neI (ee_cb call_len B.len bi_len (ea_cons (ee_v 0 rfl) ea_nil) (cd_lenT ⟨rfl, rfl⟩)) ee_int) rfl) fun _ => ww_or1 (et_not (et_val (we_call C1 hr (EA.to (ea_cons (ee_ix ix_tup (ee_v 0 rfl) ee_int (od_ixT (d := a) rfl ⟨rfl, rfl⟩)) (ea_cons ee_int (ea_cons (ee_gi hmd) ea_nil))) ⟨rfl, a, 1, 50, rfl, ha, rfl, rfl⟩)))))) (fun h => ?_) fun h => wss_nil ?_)
      · have e : copyB (.tup [a, b]) = false := by
          show (wholeB a 1 50 && hurtB b) = false
          rw [bn1 h]
          rfl
        rw [e] at q
        exact wss_one (ws_ret (EE.to ee_bl q))
      have e : copyB (.tup [a, b]) = hurtB b := by
        show (wholeB a 1 50 && hurtB b) = hurtB b
        rw [bn0 h]
        rfl
      rw [e] at q
      refine wss_cons (ws_ifE (k := isNon b) (et_cmp op_isN (ee_ix ix_tup (ee_v 0 rfl) ee_int (od_ixT (d := b) rfl ⟨rfl, rfl⟩)) ee_non (od_isN ⟨_, rfl, rfl, rfl⟩)) (fun h => ?_) fun hn => wss_nil ?_)
      · have e : b = .non := by cases b <;> first | rfl | cases h
        subst e
        exact wss_one (ws_ret (EE.to ee_bl q))
      cases hT2 : isT b with
      | false =>
        rw [hurtB_t hT2 hn] at q
        exact wss_cons (ws_ifE (k := true) (ww_pt (ew_or (p := true) (q := true) (ET.is (et_not (et_val (ee_isT B.isinstance B.tuple (ee_ix ix_tup (ee_v 0 rfl) ee_int (od_ixT (d := b) rfl ⟨rfl, rfl⟩)) (pl_lk M hb)))) (by rw [hT2]; rfl)) fun h => Bool.noConfusion h)) (fun _ => wss_one (ws_ret (EE.to ee_bl q))) fun h => Bool.noConfusion h)
      | true =>
        obtain ⟨es, rfl⟩ := isT_of hT2
        rcases two_or es with ⟨u, v, rfl⟩ | h3
        · obtain ⟨hu, hv⟩ := pl2 hb
          refine wss_cons (ws_ifE (k := false) (ww_pt (ew_or (p := false) (q := false) (ET.is (et_not (et_val (ee_isT B.isinstance B.tuple (ee_ix ix_tup (ee_v 0 rfl) ee_int (od_ixT (d := .tup [u, v]) rfl ⟨rfl, rfl⟩)) (pl_lk M hb)))) rfl) fun _ => ww_or1 (ET.is (et_neI (ee_cb call_len B.len bi_len (ea_cons (ee_ix ix_tup (ee_v 0 rfl) ee_int (od_ixT (d := .tup [u, v]) rfl ⟨rfl, rfl⟩)) ea_nil) (cd_lenT ⟨rfl, rfl⟩)) ee_int) rfl))) (fun h => Bool.noConfusion h) fun _ => wss_nil ?_)
          exact wss_one (ws_ret (EE.to (ee_and (we_call C1 hr (EA.to (ea_cons (ee_ix ix_tup (ee_ix ix_tup (ee_v 0 rfl) ee_int (od_ixT (d := .tup [u, v]) rfl ⟨rfl, rfl⟩)) ee_int (od_ixT (d := u) rfl ⟨rfl, rfl⟩)) (ea_cons ee_int (ea_cons ee_int ea_nil))) ⟨rfl, u, 0, 9999, rfl, hu, rfl, rfl⟩)) fun _ => we_one (we_call C1 hr (EA.to (ea_cons (ee_ix ix_tup (ee_ix ix_tup (ee_v 0 rfl) ee_int (od_ixT (d := .tup [u, v]) rfl ⟨rfl, rfl⟩)) ee_int (od_ixT (d := v) rfl ⟨rfl, rfl⟩)) (ea_cons ee_int (ea_cons ee_int ea_nil))) ⟨rfl, v, 1, 255, rfl, hv, rfl, rfl⟩))) q))
        · rw [hurtB_no h3] at q
          exact wss_cons (ws_ifE (k := true) (ww_pt (ew_or (p := false) (q := true) (ET.is (et_not (et_val (ee_isT B.isinstance B.tuple (ee_ix ix_tup (ee_v 0 rfl) ee_int (od_ixT (d := .tup es) rfl ⟨rfl, rfl⟩)) (pl_lk M hb)))) rfl) fun _ => ww_or1 (ET.is (et_neI (ee_cb call_len B.len bi_len (ea_cons (ee_ix ix_tup (ee_v 0 rfl) ee_int (od_ixT (d := .tup es) rfl ⟨rfl, rfl⟩)) ea_nil) (cd_lenT ⟨rfl, rfl⟩)) ee_int) (by rw [decide_eq_false (by omega)]; rfl)))) (fun _ => wss_one (ws_ret (EE.to ee_bl q))) fun h => Bool.noConfusion h)
    · rw [copyB_no h2] at q
      exact wss_cons (ws_ifE (k := true) (ww_pt (ew_or (p := false) (q := true) (ET.is (et_not (et_val (ee_isT B.isinstance B.tuple (ee_v 0 rfl) (pl_lk M hp)))) rfl) fun _ => ew_or (p := true) (q := true) (ET.is (et_neI (ee_cb call_len B.len bi_len (ea_cons (ee_v 0 rfl) ea_nil) (cd_lenT ⟨rfl, rfl⟩)) ee_int) (by rw [decide_eq_false (by omega)]; rfl)) fun h => Bool.noConfusion h)) (fun _ => wss_one (ws_ret (EE.to ee_bl q))) fun h => Bool.noConfusion h)
end
end K42
set_option Elab.async false
set_option linter.all false
set_option maxRecDepth 100000
set_option maxHeartbeats 4000000
namespace K42
open PySem L2 PyProof.Rows DL
/-! ### fates and scripts taken; the law's own -/
theorem le_nat {n : Nat} {k : Nat} : decide ((n : Int) ≤ (k : Int)) = decide (n ≤ k) := by
  by_cases h : n ≤ k
  · rw [decide_eq_true h, decide_eq_true (by omega)]
  · rw [decide_eq_false h, decide_eq_false (by omega)]
section
variable {P : Program} {w : World} {K : PySem.W.Frag} {mg : Str → Option Value} {base : Heap}
theorem d_fate (F : Df K mg "is_fate" s_is_fate ["value"]) (B : Blt mg) (C : Cc mg) (C1 : Cal P w K mg base 2 "is_copy" 1 (S_bool copyB)) : Cal P w K mg base 3 "is_fate" 1 (S_bool fateB) := by
  refine dfn' F sc_is_fate rfl fun f cdv A outer s H E ds M Q hr hl hs => ?_
  obtain ⟨x, rfl, hp, q⟩ := hs
  obtain ⟨t, hmd⟩ := C.copies
  have nd := sc_is_fate.nd
  refine wss_one (ws_ret (EE.to (EE.is (ee_and (q := decide ((itemsD x).length ≤ 3) && (itemsD x).all copyB) (ee_isT B.isinstance B.tuple (ee_v 0 rfl) (pl_lk M hp)) fun h1 => ?_) ?_) q))
  · obtain ⟨ds, rfl⟩ := isT_of h1
    refine ee_and (p := decide (ds.length ≤ 3)) (EE.is (ee_le (ee_cb call_len B.len bi_len (ea_cons (ee_v 0 rfl) ea_nil) (cd_lenT ⟨rfl, rfl⟩)) (ee_gi hmd)) (congrArg D.bl le_nat)) fun h2 => we_one ?_
    have hl : ds.length ≤ 3 := of_decide_eq_true h2
    exact EE.is (ee_cb (cr_all rfl) B.all bi_all (ea_cons (ee_lc1 1 (ds := ds) (fun d => .bl (copyB d)) rfl nd (wi_tup (EE.to (ee_v 0 rfl) ⟨_, rfl, rfl, rfl, trivial⟩)) (lt1000 (by omega)) fun j d hd s H C cl fp => we_call C1 hr (EA.to (ea_cons (ee_v 1 rfl) ea_nil) ⟨rfl, d, rfl, pl_at hp hd, rfl, rfl⟩)) ea_nil) (cd_all (bs := ds.map copyB) (.inl (by rw [List.map_map]; rfl)) ⟨rfl, rfl⟩)) (by rw [List.all_map]; rfl)
  · cases x <;> rfl
theorem d_script (F : Df K mg "is_script" s_is_script ["value"]) (B : Blt mg) (C : Cc mg) (C1 : Cal P w K mg base 3 "is_fate" 1 (S_bool fateB)) : Cal P w K mg base 4 "is_script" 1 (S_bool scriptB) := by
  refine dfn' F sc_is_script rfl fun f cdv A outer s H E ds M Q hr hl hs => ?_
  obtain ⟨x, rfl, hp, q⟩ := hs
  obtain ⟨t, hmd⟩ := C.turns
  have nd := sc_is_script.nd
  refine wss_one (ws_ret (EE.to (EE.is (ee_and (q := (decide (1 ≤ (itemsD x).length) && decide ((itemsD x).length ≤ 32)) && (itemsD x).all fateB) (ee_isT B.isinstance B.tuple (ee_v 0 rfl) (pl_lk M hp)) fun h1 => ?_) ?_) q))
  · obtain ⟨ds, rfl⟩ := isT_of h1
    refine ee_and (p := decide (1 ≤ ds.length) && decide (ds.length ≤ 32)) (EE.is (ee_le_le ee_int (ee_cb call_len B.len bi_len (ea_cons (ee_v 0 rfl) ea_nil) (cd_lenT ⟨rfl, rfl⟩)) (ee_gi hmd)) (congrArg D.bl (congr (congrArg and (le_nat (n := 1) (k := ds.length))) (le_nat (n := ds.length) (k := 32))))) fun h2 => we_one ?_
    have hl : ds.length ≤ 32 := of_decide_eq_true (Bool.and_eq_true_iff.mp h2).2
    exact EE.is (ee_cb (cr_all rfl) B.all bi_all (ea_cons (ee_lc1 1 (ds := ds) (fun d => .bl (fateB d)) rfl nd (wi_tup (EE.to (ee_v 0 rfl) ⟨_, rfl, rfl, rfl, trivial⟩)) (lt1000 (by omega)) fun j d hd s H C cl fp => we_call C1 hr (EA.to (ea_cons (ee_v 1 rfl) ea_nil) ⟨rfl, d, rfl, pl_at hp hd, rfl, rfl⟩)) ea_nil) (cd_all (bs := ds.map fateB) (.inl (by rw [List.map_map]; rfl)) ⟨rfl, rfl⟩)) (by rw [List.all_map]; rfl)
  · cases x <;> rfl
theorem d_lcopy (F : Df K mg "_law_is_copy" s_law_is_copy ["value"]) (B : Blt mg) (C1 : Cal P w K mg base 1 "_law_whole" 3 S_num) : Cal P w K mg base 2 "_law_is_copy" 1 (S_bool copyB) := by
  refine dfn' F sc_law_is_copy rfl fun f cdv A outer s H E ds M Q hr hl hs => ?_
  obtain ⟨x, rfl, hp, q⟩ := hs
  cases hT : isT x with
  | false =>
    rw [copyB_t hT] at q
    exact wss_cons (ws_ifE (k := true) (ww_pt (ew_or (p := true) (q := true) (ET.is (et_not (et_val (ee_isT B.isinstance B.tuple (ee_v 0 rfl) (pl_lk M hp)))) (by rw [hT]; rfl)) fun h => Bool.noConfusion h)) (fun _ => wss_one (ws_ret (EE.to ee_bl q))) fun h => Bool.noConfusion h)
  | true =>
    obtain ⟨ds, rfl⟩ := isT_of hT
    rcases two_or ds with ⟨a, b, rfl⟩ | h2
    · obtain ⟨ha, hb⟩ := pl2 hp
      refine wss_cons (ws_ifE (k := !wholeB a 1 50) (ww_pt (ew_or (p := false) (q := !wholeB a 1 50) (ET.is (et_not (et_val (ee_isT B.isinstance B.tuple (ee_v 0 rfl) (pl_lk M hp)))) rfl) fun _ => ew_or (p := false) (q := !wholeB a 1 50) (ET.is (et_neI (ee_cb call_len B.len bi_len (ea_cons (ee_v 0 rfl) ea_nil) (cd_lenT ⟨rfl, rfl⟩)) ee_int) rfl) fun _ => ww_or1 (et_not (et_val (we_call C1 hr (EA.to (ea_cons (ee_ix ix_tup (ee_v 0 rfl) ee_int (od_ixT (d := a) rfl ⟨rfl, rfl⟩)) (ea_cons ee_int (ea_cons ee_int ea_nil))) ⟨rfl, a, 1, 50, rfl, ha, rfl, rfl⟩)))))) (fun h => ?_) fun h => wss_nil ?_)
      · have e : copyB (.tup [a, b]) = false := by
          show (wholeB a 1 50 && hurtB b) = false
          rw [bn1 h]
          rfl
        rw [e] at q
        exact wss_one (ws_ret (EE.to ee_bl q))
      have e : copyB (.tup [a, b]) = hurtB b := by
        show (wholeB a 1 50 && hurtB b) = hurtB b
        rw [bn0 h]
        rfl
      rw [e] at q
      refine wss_one (ws_ret (EE.to (EE.is (ee_or (p := isNon b) (q := isT b && hurtB b) (ee_cmp op_isN (ee_ix ix_tup (ee_v 0 rfl) ee_int (od_ixT (d := b) rfl ⟨rfl, rfl⟩)) ee_non (od_isN ⟨rfl, rfl⟩)) fun hn => we_one (ee_and (ee_isT B.isinstance B.tuple (ee_ix ix_tup (ee_v 0 rfl) ee_int (od_ixT (d := b) rfl ⟨rfl, rfl⟩)) (pl_lk M hb)) fun hT2 => ?_)) ?_) q))
      · obtain ⟨es, rfl⟩ := isT_of hT2
        rcases two_or es with ⟨u, v, rfl⟩ | h3
        · obtain ⟨hu, hv⟩ := pl2 hb
          exact ee_and (p := true) (q := hurtB (.tup [u, v])) (EE.is (ee_eqI (ee_cb call_len B.len bi_len (ea_cons (ee_ix ix_tup (ee_v 0 rfl) ee_int (od_ixT (d := .tup [u, v]) rfl ⟨rfl, rfl⟩)) ea_nil) (cd_lenT ⟨rfl, rfl⟩)) ee_int) rfl) fun _ => ee_and (we_call C1 hr (EA.to (ea_cons (ee_ix ix_tup (ee_ix ix_tup (ee_v 0 rfl) ee_int (od_ixT (d := .tup [u, v]) rfl ⟨rfl, rfl⟩)) ee_int (od_ixT (d := u) rfl ⟨rfl, rfl⟩)) (ea_cons ee_int (ea_cons ee_int ea_nil))) ⟨rfl, u, 0, 9999, rfl, hu, rfl, rfl⟩)) fun _ => we_one (we_call C1 hr (EA.to (ea_cons (ee_ix ix_tup (ee_ix ix_tup (ee_v 0 rfl) ee_int (od_ixT (d := .tup [u, v]) rfl ⟨rfl, rfl⟩)) ee_int (od_ixT (d := v) rfl ⟨rfl, rfl⟩)) (ea_cons ee_int (ea_cons ee_int ea_nil))) ⟨rfl, v, 1, 255, rfl, hv, rfl, rfl⟩))
        · rw [hurtB_no h3]
          exact ee_and (p := false) (q := false) (EE.is (ee_eqI (ee_cb call_len B.len bi_len (ea_cons (ee_ix ix_tup (ee_v 0 rfl) ee_int (od_ixT (d := .tup es) rfl ⟨rfl, rfl⟩)) ea_nil) (cd_lenT ⟨rfl, rfl⟩)) ee_int) (congrArg D.bl (decide_eq_false (by omega)))) fun h => Bool.noConfusion h
      · cases b <;> first | rfl | (show D.bl (false || (true && _)) = _; rfl)
    · rw [copyB_no h2] at q
      exact wss_cons (ws_ifE (k := true) (ww_pt (ew_or (p := false) (q := true) (ET.is (et_not (et_val (ee_isT B.isinstance B.tuple (ee_v 0 rfl) (pl_lk M hp)))) rfl) fun _ => ew_or (p := true) (q := true) (ET.is (et_neI (ee_cb call_len B.len bi_len (ea_cons (ee_v 0 rfl) ea_nil) (cd_lenT ⟨rfl, rfl⟩)) ee_int) (by rw [decide_eq_false (by omega)]; rfl)) fun h => Bool.noConfusion h)) (fun _ => wss_one (ws_ret (EE.to ee_bl q))) fun h => Bool.noConfusion h)
theorem d_lscript (F : Df K mg "_law_is_script" s_law_is_script ["value"]) (B : Blt mg) (C1 : Cal P w K mg base 2 "_law_is_copy" 1 (S_bool copyB)) : Cal P w K mg base 3 "_law_is_script" 1 (S_bool scriptB) := by
  refine dfn' F sc_law_is_script rfl fun f cdv A outer s H E ds M Q hr hl hs => ?_
  obtain ⟨x, rfl, hp, q⟩ := hs
  have nd := sc_law_is_script.nd
  refine wss_one (ws_ret (EE.to (EE.is (ee_and (q := (decide (1 ≤ (itemsD x).length) && decide ((itemsD x).length ≤ 32)) && (itemsD x).all fateB) (ee_isT B.isinstance B.tuple (ee_v 0 rfl) (pl_lk M hp)) fun h1 => ?_) ?_) q))
  · obtain ⟨ds, rfl⟩ := isT_of h1
    refine ee_and (p := decide (1 ≤ ds.length) && decide (ds.length ≤ 32)) (EE.is (ee_le_le ee_int (ee_cb call_len B.len bi_len (ea_cons (ee_v 0 rfl) ea_nil) (cd_lenT ⟨rfl, rfl⟩)) ee_int) (congrArg D.bl (congr (congrArg and (le_nat (n := 1) (k := ds.length))) (le_nat (n := ds.length) (k := 32))))) fun h2 => we_one ?_
    have hl : ds.length ≤ 32 := of_decide_eq_true (Bool.and_eq_true_iff.mp h2).2
    refine EE.is (ee_cb (cr_all rfl) B.all bi_all (ea_cons (ee_lc1 1 (ds := ds) (fun d => .bl (fateB d)) rfl nd (wi_tup (EE.to (ee_v 0 rfl) ⟨_, rfl, rfl, rfl, trivial⟩)) (lt1000 (by omega)) fun j d hd s H C cl fp => ?_) ea_nil) (cd_all (bs := ds.map fateB) (.inl (by rw [List.map_map]; rfl)) ⟨rfl, rfl⟩)) (by rw [List.all_map]; rfl)
    have hpd := pl_at hp hd
    refine EE.is (ee_and (q := decide ((itemsD d).length ≤ 3) && (itemsD d).all copyB) (ee_isT B.isinstance B.tuple (ee_v 1 rfl) (pl_lk M hpd)) fun h3 => ?_) (by cases d <;> rfl)
    obtain ⟨es, rfl⟩ := isT_of h3
    refine ee_and (p := decide (es.length ≤ 3)) (EE.is (ee_le (ee_cb call_len B.len bi_len (ea_cons (ee_v 1 rfl) ea_nil) (cd_lenT ⟨rfl, rfl⟩)) ee_int) (congrArg D.bl le_nat)) fun h2 => we_one ?_
    have hl : es.length ≤ 3 := of_decide_eq_true h2
    exact EE.is (ee_cb (cr_all rfl) B.all bi_all (ea_cons (ee_lc1 2 (ds := es) (fun d => .bl (copyB d)) rfl nd (wi_tup (EE.to (ee_v 1 rfl) ⟨_, rfl, rfl, rfl, trivial⟩)) (lt1000 (by omega)) fun j d hd s H C cl fp => we_call C1 hr (EA.to (ea_cons (ee_v 2 rfl) ea_nil) ⟨rfl, d, rfl, pl_at hpd hd, rfl, rfl⟩)) ea_nil) (cd_all (bs := es.map copyB) (.inl (by rw [List.map_map]; rfl)) ⟨rfl, rfl⟩)) (by rw [List.all_map]; rfl)
  · cases x <;> rfl
end
end K42
set_option Elab.async false
set_option linter.all false
set_option maxRecDepth 100000
set_option maxHeartbeats 4000000
namespace K42
open PySem L2 PyProof.Rows DL
/-! ### scripts as data; fates; bytes hurt; delays; the latest news -/
abbrev Cp := Int × Option (Int × Int)
abbrev Ft := List Cp
abbrev Sc := List Ft
def hD : Option (Int × Int) → D
  | none => .non
  | some p => .tup [.int p.1, .int p.2]
def cpD (c : Cp) : D := .tup [.int c.1, hD c.2]
def ftD (f : Ft) : D := .tup (f.map cpD)
def scD (s : Sc) : D := .tup (s.map ftD)
def fateAt (s : Sc) (n : Nat) : Ft := s.getD (n % s.length) []
theorem fateAt_get {s : Sc} (h : 0 < s.length) (n : Nat) : s[n % s.length]? = some (fateAt s n) := by
  have := Nat.mod_lt n h
  unfold fateAt
  rw [List.getD_eq_getElem?_getD, List.getElem?_eq_getElem this]
  rfl
theorem fateAt_mem {s : Sc} (h : 0 < s.length) (n : Nat) : fateAt s n ∈ s := List.mem_of_getElem? (fateAt_get h n)
theorem emod_nat (a b : Nat) : ((a : Int) % (b : Int)) = ((a % b : Nat) : Int) := by first | exact (Int.natCast_emod a b).symm | exact (Int.ofNat_emod a b).symm | simp
theorem ediv_nat (a b : Nat) : ((a : Int) / (b : Int)) = ((a / b : Nat) : Int) := by first | exact (Int.natCast_ediv a b).symm | exact (Int.ofNat_ediv a b).symm | simp
def hurtF (data : List Int) : Option (Int × Int) → List Int
  | none => data
  | some (a, b) => if data = [] then [] else data.take (a % (data.length : Int)).toNat ++ [(data.getD (a % (data.length : Int)).toNat 0 + b) % 256] ++ data.drop ((a % (data.length : Int)).toNat + 1)
theorem hurt_len (data : List Int) (h : Option (Int × Int)) : (hurtF data h).length = data.length := by
  match h with
  | none => rfl
  | some (a, b) =>
    show (if data = [] then [] else data.take (a % (data.length : Int)).toNat ++ [(data.getD (a % (data.length : Int)).toNat 0 + b) % 256] ++ data.drop ((a % (data.length : Int)).toNat + 1)).length = _
    by_cases e : data = []
    · rw [if_pos e, e]
    · rw [if_neg e]
      have h0 : 0 < data.length := List.length_pos_iff.mpr e
      have h1 : (a % (data.length : Int)).toNat < data.length := by
        have := Int.emod_lt_of_pos a (show (0 : Int) < data.length by omega)
        have := Int.emod_nonneg a (show (data.length : Int) ≠ 0 by omega)
        omega
      rw [List.length_append, List.length_append, List.length_take, List.length_drop]
      show _ + 1 + _ = _
      omega
def iD (data : List Int) : D := .tup (data.map .int)
/-- the whole copies' delays -/
def wholes (f : Ft) : List Int := (f.filter fun c => c.2.isNone).map (·.1)
def wholesD (d : D) : List D := ((itemsD d).filter fun c => isNon (sndD c)).map fstD
theorem wholesD_ft (f : Ft) : wholesD (ftD f) = (wholes f).map .int := by
  unfold wholesD wholes
  show ((f.map cpD).filter _).map _ = _
  rw [List.filter_map, List.map_map, List.map_map]
  have e : (fun c => isNon (sndD c)) ∘ cpD = fun c : Cp => c.2.isNone := by
    funext c
    obtain ⟨a, b⟩ := c
    cases b <;> rfl
  rw [e]
  rfl
theorem wholes_le (f : Ft) : (wholes f).length ≤ f.length := by
  unfold wholes
  rw [List.length_map]
  exact List.length_filter_le _ _
def starvedB (s : Sc) : Bool := !(s.any fun f => !(wholes f).isEmpty)
def rowsN (s : Sc) (b : Nat) : List Int := (List.range s.length).flatMap fun k => (wholes (fateAt s (b + k))).map ((k : Int) + ·)
def minI (l : List Int) : Int := l.foldl min (l.headD 0)
def maxI (l : List Int) : Int := l.foldl max (l.headD 0)
theorem minI_spec : ∀ {l : List Int}, l ≠ [] → minI l ∈ l ∧ ∀ x ∈ l, minI l ≤ x := by
  have g : ∀ (l : List Int) (a : Int), (l.foldl min a = a ∨ l.foldl min a ∈ l) ∧ l.foldl min a ≤ a ∧ ∀ x ∈ l, l.foldl min a ≤ x := by
    intro l
    induction l with
    | nil => intro a; exact ⟨.inl rfl, Int.le_refl _, fun x h => nomatch h⟩
    | cons y l ih =>
      intro a
      obtain ⟨h1, h2, h3⟩ := ih (min a y)
      rw [List.foldl_cons]
      refine ⟨?_, by omega, fun x hx => ?_⟩
      · rcases h1 with h1 | h1
        · rcases Int.le_total a y with h | h
          · exact .inl (by omega)
          · exact .inr (by rw [h1, Int.min_eq_right h]; exact List.mem_cons_self)
        · exact .inr (List.mem_cons_of_mem _ h1)
      · rcases List.mem_cons.mp hx with rfl | hx
        · omega
        · exact h3 x hx
  intro l hl
  match l, hl with
  | y :: l, _ =>
    obtain ⟨h1, h2, h3⟩ := g (y :: l) y
    refine ⟨?_, h3⟩
    rcases h1 with h1 | h1
    · show (y :: l).foldl min y ∈ _
      rw [h1]
      exact List.mem_cons_self
    · exact h1
theorem maxI_spec : ∀ {l : List Int}, l ≠ [] → maxI l ∈ l ∧ ∀ x ∈ l, x ≤ maxI l := by
  have g : ∀ (l : List Int) (a : Int), (l.foldl max a = a ∨ l.foldl max a ∈ l) ∧ a ≤ l.foldl max a ∧ ∀ x ∈ l, x ≤ l.foldl max a := by
    intro l
    induction l with
    | nil => intro a; exact ⟨.inl rfl, Int.le_refl _, fun x h => nomatch h⟩
    | cons y l ih =>
      intro a
      obtain ⟨h1, h2, h3⟩ := ih (max a y)
      rw [List.foldl_cons]
      refine ⟨?_, by omega, fun x hx => ?_⟩
      · rcases h1 with h1 | h1
        · rcases Int.le_total a y with h | h
          · exact .inr (by rw [h1, Int.max_eq_right h]; exact List.mem_cons_self)
          · exact .inl (by omega)
        · exact .inr (List.mem_cons_of_mem _ h1)
      · rcases List.mem_cons.mp hx with rfl | hx
        · omega
        · exact h3 x hx
  intro l hl
  match l, hl with
  | y :: l, _ =>
    obtain ⟨h1, h2, h3⟩ := g (y :: l) y
    refine ⟨?_, h3⟩
    rcases h1 with h1 | h1
    · show (y :: l).foldl max y ∈ _
      rw [h1]
      exact List.mem_cons_self
    · exact h1
theorem minI_of {l : List Int} {m : Int} (h1 : m ∈ l) (h2 : ∀ x ∈ l, m ≤ x) : m = minI l := by
  obtain ⟨a, b⟩ := minI_spec (l := l) (fun e => by rw [e] at h1; cases h1)
  have := h2 _ a
  have := b _ h1
  omega
theorem maxI_of {l : List Int} {m : Int} (h1 : m ∈ l) (h2 : ∀ x ∈ l, x ≤ m) : m = maxI l := by
  obtain ⟨a, b⟩ := maxI_spec (l := l) (fun e => by rw [e] at h1; cases h1)
  have := h2 _ a
  have := b _ h1
  omega
def newsI (s : Sc) : Int := maxI ((List.range s.length).map fun b => minI (rowsN s b))
def newsD (s : Sc) : D := if starvedB s then .non else .int (newsI s)
/-- a script of plain size -/
structure ScOk (s : Sc) : Prop where
  pos : 0 < s.length
  few : s.length ≤ 40
  ft : ∀ f ∈ s, f.length ≤ 4
theorem shapedT_int (ns : List Int) : SeqAt.shaped (.tuple (ns.map PyData.int)) = true := by
  refine Bool.and_eq_true_iff.mpr ⟨lay_int ns, decide_eq_true ?_⟩
  show PyData.depthAll (ns.map PyData.int) + 1 ≤ 64
  rw [depth_int]
  decide
theorem pydT {M : Mem} (ns : List Int) : PyD M (.tup (ns.map .int)) (.tuple (ns.map PyData.int)) := .inl ⟨plA_int ns, by show _ = PyData.tuple (toPyA (ns.map D.int)); rw [toPyA_int]⟩
theorem eqvA_int : ∀ a b : List Int, PyData.eqvAll (a.map PyData.int) (b.map PyData.int) = decide (a = b)
  | [], [] => by simp [PyData.eqvAll]
  | [], _ :: _ => by simp [PyData.eqvAll]
  | _ :: _, [] => by simp [PyData.eqvAll]
  | x :: a, y :: b => by
    rw [List.map_cons, List.map_cons, PyData.eqvAll, eqvA_int a b, eqv_int, Bool.eq_iff_iff]
    simp
section
variable {P : Program} {w : World} {K : PySem.W.Frag} {mg : Str → Option Value} {base : Heap}
def S_fateof : SpD := fun ds M Q => ∃ (s : Sc) (n : Nat), ds = [scD s, .int n] ∧ 0 < s.length ∧ Q (ftD (fateAt s n)) M
theorem d_fateof (F : Df K mg "fate_of" s_fate_of ["script", "number"]) (B : Blt mg) : Cal P w K mg base 1 "fate_of" 2 S_fateof := by
  refine dfn' F sc_fate_of rfl fun f cdv A outer s H E ds M Q hr hl hs => ?_
  obtain ⟨sc, n, rfl, h0, q⟩ := hs
  have e : ((n : Int) % ((sc.map ftD).length : Int)) = ((n % sc.length : Nat) : Int) := by rw [List.length_map]; exact emod_nat _ _
  exact wss_one (ws_ret (EE.to (ee_ix ix_tup (ee_v 0 (d := scD sc) rfl) (EE.is (ee_mod (ee_v 1 rfl) (ee_cb call_len B.len bi_len (ea_cons (ee_v 0 (d := scD sc) rfl) ea_nil) (cd_lenT ⟨rfl, rfl⟩)) (by rw [List.length_map]; omega)) (congrArg D.int e)) (od_ixT (d := ftD (fateAt sc n)) (atI_nat (by rw [List.getElem?_map, fateAt_get h0]; rfl)) ⟨rfl, rfl⟩)) q))
def S_hurt : SpD := fun ds M Q => ∃ (data : List Int) (h : Option (Int × Int)), ds = [iD data, hD h] ∧ data.length ≤ 900 ∧ Q (iD (hurtF data h)) M
theorem cut_iD (data : List Int) (lo hi : Option Int) : D.tup (cutD (data.map .int) lo hi) = iD (cutD data lo hi) := by
  rw [cut_mapD]
  rfl
theorem d_hurt (F : Df K mg "hurt_data" s_hurt_data ["data", "hurt"]) (B : Blt mg) : Cal P w K mg base 1 "hurt_data" 2 S_hurt := by
  refine dfn' F sc_hurt_data rfl fun f cdv A outer s H E ds M Q hr hl hs => ?_
  obtain ⟨data, h, rfl, hz, q⟩ := hs
  have nd := sc_hurt_data.nd
  match h, q with
  | none, q =>
    exact wss_cons (ws_ifE (k := true) (ww_pt (ew_or (p := true) (q := true) (ET.is (et_cmp op_isN (ee_v 1 rfl) ee_non (od_isN ⟨_, rfl, rfl, rfl⟩)) rfl) fun h => Bool.noConfusion h)) (fun _ => wss_one (ws_ret (EE.to (ee_v 0 rfl) q))) fun h => Bool.noConfusion h)
  | some (a, b), q =>
    refine wss_cons (ws_ifE (k := decide (data = [])) (ww_pt (ew_or (p := false) (q := decide (data = [])) (ET.is (et_cmp op_isN (ee_v 1 rfl) ee_non (od_isN ⟨_, rfl, rfl, rfl⟩)) rfl) fun _ => ww_or1 (ET.is (et_cmp (op_eqD hr.units) (ee_v 0 (d := iD data) rfl) (ee_tup ea_nil) (od_eqD (pydT data) (pydT []) (shapedT_int data) (shapedT_int []) ⟨_, rfl, rfl, rfl⟩)) (eqvA_int data [])))) (fun e => ?_) fun e => wss_nil ?_)
    · have e := of_decide_eq_true e
      subst e
      exact wss_one (ws_ret (EE.to (ee_v 0 rfl) q))
    have e := of_decide_eq_false e
    have h0 : 0 < data.length := List.length_pos_iff.mpr e
    have ln : ((data.map D.int).length : Int) = (data.length : Int) := by rw [List.length_map]
    have p0 := Int.emod_nonneg a (show (data.length : Int) ≠ 0 by omega)
    have p1 := Int.emod_lt_of_pos a (show (0 : Int) < data.length by omega)
    have q : Q (iD (if data = [] then [] else data.take (a % (data.length : Int)).toNat ++ [(data.getD (a % (data.length : Int)).toNat 0 + b) % 256] ++ data.drop ((a % (data.length : Int)).toNat + 1))) M := q
    rw [if_neg e] at q
    refine wss_cons (ws_set 2 nd (EE.to (d := .int (a % (data.length : Int))) (EE.is (ee_mod (ee_ix ix_tup (ee_v 1 rfl) ee_int (od_ixT (d := .int a) rfl ⟨rfl, rfl⟩)) (ee_cb call_len B.len bi_len (ea_cons (ee_v 0 (d := iD data) rfl) ea_nil) (cd_lenT ⟨rfl, rfl⟩)) (by rw [ln]; omega)) (by rw [ln])) ?_))
    generalize a % (data.length : Int) = pl at p0 p1 q ⊢
    obtain ⟨j, rfl⟩ : ∃ j : Nat, pl = (j : Int) := ⟨pl.toNat, by omega⟩
    rw [Int.toNat_natCast] at q
    have hj : j < data.length := by omega
    have c1 : cutD data none (some (j : Int)) = data.take j := cut_toN data j
    have c2 : cutD data (some ((j : Int) + 1)) none = data.drop (j + 1) := by rw [show (j : Int) + 1 = ((j + 1 : Nat) : Int) by omega]; exact cut_fromN data (j + 1)
    refine wss_one (ws_ret (EE.to (EE.is (ee_op op_catA (ee_op op_catA (EE.is (ee_sl sl_tupA (ee_v 0 (d := iD data) rfl) eo_none (eo_some (ee_v 2 rfl)) (sd_tup ⟨rfl, rfl⟩)) ((cut_iD _ _ _).trans (congrArg iD c1))) (ee_tup (ea_cons (ee_mod (ee_add (ee_ix ix_tup (ee_v 0 (d := iD data) rfl) (ee_v 2 rfl) (od_ixT (d := .int (data.getD j 0)) (atI_nat (by rw [List.getElem?_map, List.getD_eq_getElem?_getD, List.getElem?_eq_getElem hj]; rfl)) ⟨rfl, rfl⟩)) (ee_ix ix_tup (ee_v 1 rfl) ee_int (od_ixT (d := .int b) rfl ⟨rfl, rfl⟩))) ee_int (by decide)) ea_nil)) (od_catT (Nat.le_trans (show _ ≤ 2000 by rw [List.length_map, List.length_take]; show _ + 1 ≤ _; omega) (by decide)) ⟨rfl, rfl⟩)) (EE.is (ee_sl sl_tupA (ee_v 0 (d := iD data) rfl) (eo_some (ee_add (ee_v 2 rfl) ee_int)) eo_none (sd_tup ⟨rfl, rfl⟩)) ((cut_iD _ _ _).trans (congrArg iD c2))) (od_catT (Nat.le_trans (show _ ≤ 2000 by rw [List.length_append, List.length_map, List.length_map, List.length_take, List.length_drop]; show _ + 1 + _ ≤ _; omega) (by decide)) ⟨rfl, rfl⟩)) ?_) q))
    show D.tup ((data.take j).map .int ++ [D.int ((data.getD j 0 + b) % 256)] ++ (data.drop (j + 1)).map .int) = iD _
    unfold iD
    rw [List.map_append, List.map_append]
    rfl
def S_whole1 : SpD := fun ds M Q => ∃ f : Ft, ds = [ftD f] ∧ f.length ≤ 900 ∧ Q (.lst (wholesD (ftD f))) M
theorem d_wholes (F : Df K mg "whole_delays" s_whole_delays ["fate"]) : Cal P w K mg base 1 "whole_delays" 1 S_whole1 := by
  refine dfn' F sc_whole_delays rfl fun f cdv A outer s H E ds M Q hr hl hs => ?_
  obtain ⟨ft, rfl, hz, q⟩ := hs
  have nd := sc_whole_delays.nd
  refine wss_one (ws_ret (EE.to (ee_lc2if 1 2 (ds := ft.map cpD) (fun _ b => isNon b) (fun a _ => a) rfl nd (wi_tup (EE.to (ee_v 0 (d := ftD ft) rfl) ⟨_, rfl, rfl, rfl, trivial⟩)) (lt1000 (by rw [List.length_map]; omega)) fun l d hd => ?_) q))
  obtain ⟨c, hc, rfl⟩ := at_map hd
  exact ⟨.int c.1, hD c.2, rfl, fun s H C cl fp => et_cmp op_isN (ee_v 2 rfl) ee_non (od_isN ⟨_, rfl, rfl, rfl⟩), fun _ s H C cl fp => ee_v 1 rfl⟩
def S_starved : SpD := fun ds M Q => ∃ s : Sc, ds = [scD s] ∧ ScOk s ∧ Q (.bl (starvedB s)) M
theorem d_starved (F : Df K mg "is_starved" s_is_starved ["script"]) (B : Blt mg) (C1 : Cal P w K mg base 1 "whole_delays" 1 S_whole1) : Cal P w K mg base 2 "is_starved" 1 S_starved := by
  refine dfn' F sc_is_starved rfl fun f cdv A outer s H E ds M Q hr hl hs => ?_
  obtain ⟨sc, rfl, ho, q⟩ := hs
  have nd := sc_is_starved.nd
  have h1 := ho.few
  refine wss_one (ws_ret (EE.to (EE.is (ee_not (p := (sc.map wholes).any fun l => !l.isEmpty) (ee_cb (cr_anyD rfl) B.any bi_any (ea_cons (ee_lc1 1 (ds := sc.map ftD) (fun d => .lst (wholesD d)) rfl nd (wi_tup (EE.to (ee_v 0 (d := scD sc) rfl) ⟨_, rfl, rfl, rfl, trivial⟩)) (lt1000 (by rw [List.length_map]; omega)) fun j d hd => ?_) ea_nil) (cd_anyL (ls := sc.map wholes) (.inl ?_) (fun l hl => ?_) ⟨rfl, rfl⟩))) ?_) q))
  · obtain ⟨ft, hf, rfl⟩ := at_map hd
    exact fun s H C cl fp => we_call C1 hr (EA.to (ea_cons (ee_v 1 rfl) ea_nil) ⟨rfl, ft, rfl, Nat.le_trans (ho.ft _ (List.mem_of_getElem? hf)) (by decide), rfl, rfl⟩)
  · rw [List.map_map, List.map_map]
    exact congrArg D.lst (List.map_congr_left fun ft _ => congrArg D.lst (wholesD_ft ft))
  · obtain ⟨ft, hf, rfl⟩ := List.mem_map.mp hl
    have := wholes_le ft
    have := ho.ft _ hf
    omega
  · unfold starvedB
    rw [List.any_map]
    rfl
end
end K42
set_option Elab.async false
set_option linter.all false
set_option maxRecDepth 100000
set_option maxHeartbeats 4000000
namespace K42
open PySem L2 PyProof.Rows DL
/-! ### latest_news; the law's own hurt -/
theorem rows_ne {s : Sc} (h : starvedB s = false) (b : Nat) : rowsN s b ≠ [] := by
  unfold starvedB at h
  have h := bn0 h
  obtain ⟨ft, hf, hw⟩ := List.any_eq_true.mp h
  obtain ⟨i, hi⟩ := List.mem_iff_getElem?.mp hf
  have hl := (List.getElem?_eq_some_iff.mp hi).1
  -- the place k with (b + k) % length = i
  obtain ⟨k, hk, e⟩ : ∃ k, k < s.length ∧ (b + k) % s.length = i := by
    have hb := Nat.mod_lt b (show 0 < s.length by omega)
    by_cases c : b % s.length ≤ i
    · refine ⟨i - b % s.length, by omega, ?_⟩
      rw [Nat.add_mod, Nat.mod_eq_of_lt (show i - b % s.length < s.length by omega), show b % s.length + (i - b % s.length) = i by omega, Nat.mod_eq_of_lt hl]
    · refine ⟨s.length + i - b % s.length, by omega, ?_⟩
      rw [Nat.add_mod, Nat.mod_eq_of_lt (show s.length + i - b % s.length < s.length by omega), show b % s.length + (s.length + i - b % s.length) = i + s.length by omega, Nat.add_mod_right, Nat.mod_eq_of_lt hl]
  have ef : fateAt s (b + k) = ft := by
    unfold fateAt
    rw [e, List.getD_eq_getElem?_getD, hi]
    rfl
  intro z
  have : (wholes (fateAt s (b + k))).map ((k : Int) + ·) = [] := by
    have := List.flatMap_eq_nil_iff.mp z k (List.mem_range.mpr hk)
    exact this
  rw [ef] at this
  have := List.map_eq_nil_iff.mp this
  rw [this] at hw
  cases hw
def rowD' (s : Sc) (b : Nat) (d : D) : List D := wholesD (ftD (fateAt s (b + (intOf d).toNat)))
def addD (a b : D) : D := .int (intOf a + intOf b)
theorem rows_D (s : Sc) (b : Nat) : ((rngD 0 s.length).flatMap fun d => (rowD' s b d).map (addD d)) = (rowsN s b).map .int := by
  unfold rngD rowsN
  rw [List.flatMap_map, List.map_flatMap]
  refine congrArg (fun F => List.flatMap F (List.range s.length)) (funext fun k => ?_)
  show (wholesD (ftD (fateAt s (b + (0 + (k : Int)).toNat)))).map (addD (.int (0 + (k : Int)))) = _
  rw [wholesD_ft, show (0 + (k : Int)).toNat = k by omega, Int.zero_add, List.map_map, List.map_map]
  rfl
theorem rows_len (s : Sc) (b : Nat) (h : ScOk s) : ((rngD 0 s.length).flatMap (rowD' s b)).length ≤ 160 := by
  have h1 : ∀ l : List D, (l.flatMap (rowD' s b)).length ≤ 4 * l.length := by
    intro l
    induction l with
    | nil => exact Nat.le_refl _
    | cons d l ih =>
      rw [List.flatMap_cons, List.length_append, List.length_cons]
      have : (rowD' s b d).length ≤ 4 := by
        unfold rowD'
        rw [wholesD_ft, List.length_map]
        exact Nat.le_trans (wholes_le _) (h.ft _ (fateAt_mem h.pos _))
      omega
  have := h1 (rngD 0 s.length)
  rw [rngD_len] at this
  have := h.few
  omega
section
variable {P : Program} {w : World} {K : PySem.W.Frag} {mg : Str → Option Value} {base : Heap}
/-- nothing there before is changed -/
def Up (M M' : Mem) : Prop := ∀ a o, M a = some o → M' a = some o
theorem Up.refl (M : Mem) : Up M M := fun _ _ h => h
theorem Up.trans {M M' M'' : Mem} (h : Up M M') (h' : Up M' M'') : Up M M'' := fun a o e => h' a o (h a o e)
theorem Up.new {M : Mem} {p : Addr} {o : Option MO} (hp : M p = none) : Up M (updM M p o) := fun a o' h => by
  have : a ≠ p := fun e => by subst e; rw [hp] at h; cases h
  rw [updM_ne this]
  exact h
theorem Up.put {M M' : Mem} {p : Addr} {o : Option MO} (h : Up M M') (hp : M p = none) : Up M (updM M' p o) := fun a o' e => by
  have : a ≠ p := fun z => by subst z; rw [hp] at e; cases e
  rw [updM_ne this]
  exact h a o' e
def S_news : SpD := fun ds M Q => ∃ s : Sc, ds = [scD s] ∧ ScOk s ∧ ∀ M', Up M M' → Q (newsD s) M'
theorem d_news (F : Df K mg "latest_news" s_latest_news ["script"]) (B : Blt mg) (C1 : Cal P w K mg base 1 "whole_delays" 1 S_whole1) (C2 : Cal P w K mg base 2 "is_starved" 1 S_starved) (C3 : Cal P w K mg base 1 "fate_of" 2 S_fateof) : Cal P w K mg base 3 "latest_news" 1 S_news := by
  refine dfn' F sc_latest_news rfl fun f cdv A outer s H E ds M Q hr hl hs => ?_
  obtain ⟨sc, rfl, ho, q⟩ := hs
  have nd := sc_latest_news.nd
  have h1 := ho.few
  have hr1 := hr.mono (show 1 ≤ 2 by omega)
  refine wss_cons (ws_ifE (k := starvedB sc) (et_val (we_call C2 hr (EA.to (ea_cons (ee_v 0 rfl) ea_nil) ⟨rfl, sc, rfl, ho, rfl, rfl⟩))) (fun e => ?_) fun e => wss_nil ?_)
  · have q := q M (Up.refl M)
    unfold newsD at q
    rw [if_pos e] at q
    exact wss_one (ws_ret (EE.to ee_non q))
  refine wss_cons (ws_set 1 nd (we_lstM (wa_nil ⟨Nat.zero_le _, fun p hp => ?_⟩)))
  have ln : ((sc.map ftD).length : Int) = (sc.length : Int) := by rw [List.length_map]
  refine wss_cons (ws_for PassesOwn.never rfl (Qi := fun es C M0 => es = rngD 0 sc.length ∧ M0 = updM M p (some (.lst [])) ∧ ∀ M1, C M1) (wi_rng1 B.range (EA.to (ea_cons (ee_cb call_len B.len bi_len (ea_cons (ee_v 0 (d := scD sc) rfl) ea_nil) (cd_lenT ⟨rfl, rfl⟩)) ea_nil) ⟨_, rfl, by omega, by omega, by rw [ln, Int.toNat_natCast], rfl, fun _ => trivial⟩)) fun es C M0 ⟨e1, e2, hC⟩ => ?_)
  subst e1; subst e2
  let ms : Nat → List Int := fun i => (List.range i).map fun b => minI (rowsN sc b)
  refine ⟨fun i sg1 M1 => Fg [some (scD sc), some (.ptr p), none, none, none, none] sg1 ∧ M1 = updM M p (some (.lst ((ms i).map .int))), ⟨⟨rfl, rfl, trivial⟩, rfl⟩, fun i sg1 M1 _ => hC _, fun i d sg1 M1 he ⟨hg, hM⟩ => ?_, fun sg1 M1 ⟨hg, hM⟩ => wss_fg hg ?_⟩
  · obtain ⟨hi, rfl⟩ := rngD_at he
    refine ⟨_, _, wg_name 2 nd, wss_fg (fg_set hg 2 _) ?_⟩
    rw [Int.zero_add]
    subst hM
    refine wss_cons (ws_setLc22 3 4 5 (rowD' sc i) addD (ds := rngD 0 sc.length) rfl nd (wi_rng1 B.range (EA.to (ea_cons (ee_cb call_len B.len bi_len (ea_cons (ee_v 0 (d := scD sc) rfl) ea_nil) (cd_lenT ⟨rfl, rfl⟩)) ea_nil) ⟨_, rfl, by omega, by omega, by rw [ln, Int.toNat_natCast], rfl, trivial⟩)) (lt1000 (Nat.lt_of_le_of_lt (rows_len sc i ho) (by decide))) (fun a d hd => ?_) (fun a b d e hd he => ?_) ?_)
    · obtain ⟨ha, rfl⟩ := rngD_at hd
      rw [Int.zero_add]
      intro s H C cl fp
      refine wi_lst (we_call C1 hr1 (wa_cons (we_call C3 hr1 (EA.to (ea_cons (ee_v 0 (d := scD sc) rfl) (ea_cons (ee_add (ee_v 2 rfl) (ee_v 4 rfl)) ea_nil)) ⟨rfl, sc, i + a, by rw [Int.natCast_add], ho.pos, wa_nil ⟨rfl, fateAt sc (i + a), rfl, Nat.le_trans (ho.ft _ (fateAt_mem ho.pos _)) (by decide), _, .inl rfl, ?_, rfl, .inl rfl⟩⟩))))
      show _ = rowD' sc i (.int (a : Int))
      unfold rowD'
      rw [show (intOf (.int (a : Int))).toNat = a from Int.toNat_natCast a]
    · obtain ⟨ha, rfl⟩ := rngD_at hd
      rw [Int.zero_add] at he ⊢
      have : ∃ z : Int, e = .int z := by
        unfold rowD' at he
        rw [wholesD_ft] at he
        obtain ⟨z, _, rfl⟩ := at_map he
        exact ⟨z, rfl⟩
      obtain ⟨z, rfl⟩ := this
      exact fun s H C cl fp => ee_add (ee_v 4 rfl) (ee_v 5 rfl)
    · rw [rows_D]
      have hne := rows_ne e i
      refine wss_one (ws_expr (we_bm PySem.F.plainAttrs_list PySem.F.slot_list_append PySem.F.type_list_append mt_append (EE.to (ee_v 1 rfl) ⟨ty_lst (.inr ⟨p, rfl, updM_same⟩), wa_cons (we_cb (cr_min rfl) B.min bi_min (EA.to (ea_cons (ee_v 3 rfl) ea_nil) (cd_min (.inl rfl) (List.length_pos_iff.mpr hne) fun m m1 m2 => wa_nil (md_append updM_same (lt1000 (by rw [List.length_map]; show (List.map _ _).length < _; rw [List.length_map, List.length_range]; omega)) ⟨?_, ?_⟩))))⟩)))
      · exact ⟨rfl, rfl, trivial⟩
      · rw [updM_upd, minI_of m1 m2]
        show updM M p (some (.lst (List.map D.int ((List.range i).map fun b => minI (rowsN sc b)) ++ [D.int (minI (rowsN sc i))]))) = updM M p (some (.lst (List.map D.int ((List.range (i + 1)).map fun b => minI (rowsN sc b)))))
        rw [List.range_succ, List.map_append, List.map_append]
        rfl
  · rw [rngD_len] at hM
    subst hM
    have hpos := ho.pos
    refine wss_one (ws_ret (we_cb (cr_max rfl) B.max bi_max (EA.to (ea_cons (ee_v 1 rfl) ea_nil) (cd_max (.inr ⟨p, rfl, updM_same⟩) (by show 0 < (List.map _ _).length; rw [List.length_map, List.length_range]; exact hpos) fun m m1 m2 => ?_))))
    rw [maxI_of m1 m2]
    have q := q (updM M p (some (.lst ((ms sc.length).map .int)))) (Up.new hp)
    unfold newsD at q
    rw [if_neg (by rw [e]; exact Bool.false_ne_true)] at q
    exact q
end
end K42
set_option Elab.async false
set_option linter.all false
set_option maxRecDepth 100000
set_option maxHeartbeats 4000000
namespace K42
open PySem L2 PyProof.Rows DL
/-! ### Line: its state; making it, script, count -/
structure Rw where
  t : Int
  a : Int
  b : Int
  n : Nat
  c : Nat
  data : List Int
deriving DecidableEq
def rwD (r : Rw) : D := .tup [.int r.t, iD [r.a, r.b], .int (r.n : Int), .int (r.c : Int), iD r.data]
def good : Sc := [[(1, none)]]
/-- scripts of good size, with whole bytes' hurts -/
def CpOk (c : Cp) : Prop := 1 ≤ c.1 ∧ c.1 ≤ 50 ∧ ∀ p, c.2 = some p → 0 ≤ p.1 ∧ p.1 ≤ 9999 ∧ 1 ≤ p.2 ∧ p.2 ≤ 255
structure ScG (s : Sc) : Prop where
  pos : 0 < s.length
  few : s.length ≤ 32
  ft : ∀ f ∈ s, f.length ≤ 3
  cp : ∀ f ∈ s, ∀ c ∈ f, CpOk c
theorem ScG.ok {s : Sc} (h : ScG s) : ScOk s := ⟨h.pos, Nat.le_trans h.few (by decide), fun f hf => Nat.le_trans (h.ft f hf) (by decide)⟩
theorem good_g : ScG good := ⟨by decide, by decide, fun f hf => by rw [List.mem_singleton.mp hf]; decide, fun f hf c hc => by
  rw [List.mem_singleton.mp hf] at hc
  rw [List.mem_singleton.mp hc]
  exact ⟨by decide, by decide, fun p e => by cases e⟩⟩
/-- a dict of links' scripts -/
def SdOk (sd : DT) : Prop := ∀ p ∈ sd, ∃ s, p.2 = scD s ∧ ScG s
def sdGet (sd : DT) (k : List Int) : D := (gt sd k).getD (scD good)
theorem gt_mem {sd : DT} {k : List Int} {d : D} (h : gt sd k = some d) : ∃ p ∈ sd, p.2 = d := by
  unfold gt at h
  cases e : sd.find? (fun p => decide (p.1 = k)) with
  | none => rw [e] at h; cases h
  | some p =>
    rw [e] at h
    exact ⟨p, List.mem_of_find?_eq_some e, Option.some.inj h⟩
theorem sd_get {sd : DT} (h : SdOk sd) (k : List Int) : ∃ s, sdGet sd k = scD s ∧ ScG s := by
  unfold sdGet
  cases e : gt sd k with
  | none => exact ⟨good, rfl, good_g⟩
  | some d =>
    obtain ⟨p, hp, e1⟩ := gt_mem e
    obtain ⟨s, e2, hs⟩ := h p hp
    exact ⟨s, by rw [← e2, e1]; rfl, hs⟩
theorem pt_mem {kvs : DT} {k : List Int} {d : D} {p : List Int × D} (h : p ∈ pt kvs k d) : (∃ q ∈ kvs, q.2 = p.2) ∨ p.2 = d := by
  unfold pt at h
  split at h
  · obtain ⟨q, hq, e⟩ := List.mem_map.mp h
    by_cases c : q.1 = k
    · rw [if_pos c] at e
      exact .inr (by rw [← e])
    · rw [if_neg c] at e
      exact .inl ⟨q, hq, by rw [e]⟩
  · rcases List.mem_append.mp h with h | h
    · exact .inl ⟨p, h, rfl⟩
    · exact .inr (by rw [List.mem_singleton.mp h])
theorem pt_len (kvs : DT) (k : List Int) (d : D) : (pt kvs k d).length ≤ kvs.length + 1 := by
  unfold pt
  split
  · rw [List.length_map]; omega
  · rw [List.length_append]; exact Nat.le_refl _
theorem merge_mem : ∀ {more acc : DT} {p : List Int × D}, p ∈ mergeT pt acc more → (∃ q ∈ acc, q.2 = p.2) ∨ ∃ q ∈ more, q.2 = p.2
  | [], acc, p, h => .inl ⟨p, h, rfl⟩
  | m :: more, acc, p, h => by
    have h' : p ∈ mergeT pt (pt acc m.1 m.2) more := h
    rcases merge_mem h' with ⟨q, hq, e⟩ | ⟨q, hq, e⟩
    · rcases pt_mem hq with ⟨z, hz, e2⟩ | e2
      · exact .inl ⟨z, hz, e2.trans e⟩
      · exact .inr ⟨m, List.mem_cons_self, by rw [← e, e2]⟩
    · exact .inr ⟨q, List.mem_cons_of_mem _ hq, e⟩
/-- links with their scripts -/
abbrev Ls := List ((Int × Int) × Sc)
def lsT (ls : Ls) : DT := ls.map fun p => ([p.1.1, p.1.2], scD p.2)
def lsD (ls : Ls) : D := .tup (ls.map fun p => .tup [iD [p.1.1, p.1.2], scD p.2])
def sdOf (ls : Ls) : DT := mergeT pt [] (lsT ls)
theorem sdOf_ok {ls : Ls} (h : ∀ p ∈ ls, ScG p.2) : SdOk (sdOf ls) := fun p hp => by
  rcases merge_mem hp with ⟨q, hq, _⟩ | ⟨q, hq, e⟩
  · cases hq
  · obtain ⟨z, hz, rfl⟩ := List.mem_map.mp hq
    exact ⟨z.2, e.symm, h z hz⟩
/-- a dict of counts -/
def CdOk (cd : DT) : Prop := ∀ p ∈ cd, ∃ n : Nat, p.2 = .int (n : Int)
def cntOf (cd : DT) (k : List Int) : Nat := match gt cd k with
  | some (.int n) => n.toNat
  | _ => 0
theorem cd_get {cd : DT} (h : CdOk cd) (k : List Int) : (gt cd k).getD (.int 0) = .int (cntOf cd k : Int) := by
  unfold cntOf
  cases e : gt cd k with
  | none => rfl
  | some d =>
    obtain ⟨p, hp, e1⟩ := gt_mem e
    obtain ⟨n, e2⟩ := h p hp
    rw [e1] at e2
    subst e2
    show D.int (n : Int) = .int (((n : Int)).toNat : Int)
    rw [Int.toNat_natCast]
theorem cd_put {cd : DT} (h : CdOk cd) (k : List Int) (n : Nat) : CdOk (pt cd k (.int (n : Int))) := fun p hp => by
  rcases pt_mem hp with ⟨q, hq, e⟩ | e
  · obtain ⟨m, e2⟩ := h q hq
    exact ⟨m, by rw [← e, e2]⟩
  · exact ⟨n, e⟩
theorem gt_pt_self (cd : DT) (k : List Int) (d : D) : gt (pt cd k d) k = some d := by
  unfold pt
  by_cases c : cd.any (fun p => decide (p.1 = k)) = true
  · rw [if_pos c]
    unfold gt
    induction cd with
    | nil => cases c
    | cons p cd ih =>
      rw [List.map_cons]
      by_cases e : p.1 = k
      · rw [if_pos e, List.find?_cons_of_pos (by exact decide_eq_true e)]
        rfl
      · rw [if_neg e, List.find?_cons_of_neg (by rw [decide_eq_false e]; exact Bool.false_ne_true)]
        refine ih ?_
        rw [List.any_cons, decide_eq_false e, Bool.false_or] at c
        exact c
  · rw [if_neg c]
    unfold gt
    rw [List.find?_append]
    have : cd.find? (fun p => decide (p.1 = k)) = none := List.find?_eq_none.mpr fun p hp z => c (List.any_eq_true.mpr ⟨p, hp, z⟩)
    rw [this]
    rw [Option.none_or, List.find?_cons_of_pos (by exact decide_eq_true rfl)]
    rfl
theorem gt_pt_ne (cd : DT) {k j : List Int} (d : D) (h : j ≠ k) : gt (pt cd k d) j = gt cd j := by
  unfold pt
  by_cases c : cd.any (fun p => decide (p.1 = k)) = true
  · rw [if_pos c]
    clear c
    unfold gt
    induction cd with
    | nil => rfl
    | cons p cd ih =>
      rw [List.map_cons]
      by_cases e : p.1 = k
      · rw [if_pos e, List.find?_cons_of_neg (by rw [decide_eq_false (fun z => h (z.symm.trans e))]; exact Bool.false_ne_true), List.find?_cons_of_neg (by rw [decide_eq_false (fun z => h (z.symm.trans e))]; exact Bool.false_ne_true)]
        exact ih
      · rw [if_neg e]
        by_cases e2 : p.1 = j
        · rw [List.find?_cons_of_pos (by exact decide_eq_true e2), List.find?_cons_of_pos (by exact decide_eq_true e2)]
        · rw [List.find?_cons_of_neg (by rw [decide_eq_false e2]; exact Bool.false_ne_true), List.find?_cons_of_neg (by rw [decide_eq_false e2]; exact Bool.false_ne_true)]
          exact ih
  · rw [if_neg c]
    unfold gt
    rw [List.find?_append, List.find?_cons_of_neg (by rw [decide_eq_false (Ne.symm h)]; exact Bool.false_ne_true), List.find?_nil, Option.or_none]
theorem cnt_put_self (cd : DT) (k : List Int) (n : Nat) : cntOf (pt cd k (.int (n : Int))) k = n := by
  unfold cntOf
  rw [gt_pt_self]
  exact Int.toNat_natCast n
theorem cnt_put_ne (cd : DT) {k j : List Int} (n : Nat) (h : j ≠ k) : cntOf (pt cd k (.int (n : Int))) j = cntOf cd j := by
  unfold cntOf
  rw [gt_pt_ne cd _ h]
abbrev lF : List Str := ["_scripts", "_counts", "_under_way"]
abbrev LF (ps pc pu : Addr) : List (Str × D) := [("_scripts", .ptr ps), ("_counts", .ptr pc), ("_under_way", .ptr pu)]
/-- the line at a -/
structure LineAt (M : Mem) (C a : Addr) (own : List Addr) (sd cd : DT) (uw : List Rw) : Prop where
  ex : ∃ ps pc pu, own = [a, ps, pc, pu] ∧ M a = some (.ins C (LF ps pc pu)) ∧ M ps = some (.dit sd) ∧ M pc = some (.dit cd) ∧ ps ≠ pc ∧ M pu = some (.lst (uw.map rwD))
theorem LineAt.ch {M M' : Mem} {C a : Addr} {own o o' : List Addr} {sd cd : DT} {uw : List Rw} (h : LineAt M C a own sd cd uw) (c : Ch M M' o o') (hd : ∀ x ∈ own, x ∉ o) : LineAt M' C a own sd cd uw ∧ ∀ x ∈ own, x ∉ o' := by
  obtain ⟨ps, pc, pu, rfl, h1, h2, h3, h4, h5⟩ := h.ex
  have k1 := c.at h1 (hd a (by simp))
  have k2 := c.at h2 (hd ps (by simp))
  have k3 := c.at h3 (hd pc (by simp))
  have k5 := c.at h5 (hd pu (by simp))
  refine ⟨⟨ps, pc, pu, rfl, k1.1, k2.1, k3.1, h4, k5.1⟩, fun x hx => ?_⟩
  simp only [List.mem_cons, List.not_mem_nil, or_false] at hx
  rcases hx with rfl | rfl | rfl | rfl
  · exact k1.2
  · exact k2.2
  · exact k3.2
  · exact k5.2
theorem LineAt.there {M : Mem} {C a : Addr} {own : List Addr} {sd cd : DT} {uw : List Rw} (h : LineAt M C a own sd cd uw) : ∀ x ∈ own, M x ≠ none := by
  obtain ⟨ps, pc, pu, rfl, h1, h2, h3, h4, h5⟩ := h.ex
  intro x hx
  simp only [List.mem_cons, List.not_mem_nil, or_false] at hx
  rcases hx with rfl | rfl | rfl | rfl
  · rw [h1]; exact fun z => nomatch z
  · rw [h2]; exact fun z => nomatch z
  · rw [h3]; exact fun z => nomatch z
  · rw [h5]; exact fun z => nomatch z
section
variable {P : Program} {w : World} {K : PySem.W.Frag} {mg : Str → Option Value} {base : Heap} {C : Addr}
theorem units65 {k : Nat} {A : Around} (r : Room k A) : A.units + 65 < cLine := by have := r.un; omega
theorem units1 {k : Nat} {A : Around} (r : Room k A) : A.units + 1 < cLine := by have := r.un; omega
theorem units2 {k : Nat} {A : Around} (r : Room k A) : A.units + 2 < cLine := by have := r.un; omega
def S_linit (C : Addr) : SpD := fun ds M Q => ∃ (a : Addr) (ls : Ls), ds = [.ptr a, lsD ls] ∧ ls.length ≤ 20 ∧ M a = some (.ins C []) ∧ ∀ M' own, LineAt M' C a own (sdOf ls) [] [] → Ch M M' [a] own → Q .non M'
theorem d_linit (F : Di K mg "Line" C "Line.__init__" m_L_init ["self", "scripts"]) (T : HCf K C lF) (B : Blt mg) (B2 : Bl2 mg) : CalI P w K mg base 1 "Line" C 2 (S_linit C) := by
  refine dfi F sm_L_init rfl fun f cdv A outer s H E ds M Q hr hl hs => ?_
  obtain ⟨a, ls, rfl, hz, hm, q⟩ := hs
  have nd := sm_L_init.nd
  refine wss_cons (ws_fld (we_ct (call_dictPT rfl (units2 hr)) B2.dict bi_dict (EA.to (ea_cons (ee_lc2 2 3 (ds := ls.map fun p => .tup [iD [p.1.1, p.1.2], scD p.2]) (fun a b => .tup [a, b]) rfl nd (wi_tup (EE.to (ee_v 1 (d := lsD ls) rfl) ⟨_, rfl, rfl, rfl, trivial⟩)) (lt1000 (by rw [List.length_map]; omega)) fun l d hd => ?_) ea_nil) (cd_dictPT (ps := lsT ls) (.inl ?_) fun ps hps => ?_))))
  · obtain ⟨p, _, rfl⟩ := at_map hd
    exact ⟨_, _, rfl, fun s H C cl fp => ee_tup (ea_cons (ee_v 2 rfl) (ea_cons (ee_v 3 rfl) ea_nil))⟩
  · unfold lsT
    rw [List.map_map, List.map_map]
    rfl
  have na : ps ≠ a := fun e => by rw [e, hm] at hps; cases hps
  refine EE.to (ee_v 0 rfl) ⟨a, C, [], rfl, by rw [updM_ne na.symm]; exact hm, T.cls, T.na _ (by decide), (show 0 < 1000 by decide), ?_⟩
  show WSs _ _ _ (updM (updM M ps (some (.dit (sdOf ls)))) a (some (.ins C [("_scripts", .ptr ps)]))) _
  have c1 : Ch M (updM (updM M ps (some (.dit (sdOf ls)))) a (some (.ins C [("_scripts", .ptr ps)]))) [a] [a, ps] := ((Ch.new hps).trans (Ch.upd (by simp))).less fun x hx => by simp at hx ⊢; rcases hx with h | h <;> simp [h]
  have h2 : (updM (updM M ps (some (.dit (sdOf ls)))) a (some (.ins C [("_scripts", .ptr ps)]))) ps = some (.dit (sdOf ls)) := by rw [updM_ne na, updM_same]
  have h1 : (updM (updM M ps (some (.dit (sdOf ls)))) a (some (.ins C [("_scripts", .ptr ps)]))) a = some (.ins C [("_scripts", .ptr ps)]) := updM_same
  generalize updM (updM M ps (some (.dit (sdOf ls)))) a (some (.ins C [("_scripts", .ptr ps)])) = M1 at c1 h1 h2 ⊢
  refine wss_one (ws_asgm (we_tup (wa_cons (we_tnew fun pc hpc => wa_cons (we_lstM (wa_nil ⟨Nat.zero_le _, fun pu hpu => wa_nil ⟨Nat.le_of_lt (lt1000 (show 2 < 1000 by decide)), ?_⟩⟩))))))
  have n1 : pc ≠ a := fun e => by rw [e, h1] at hpc; cases hpc
  have n2 : pc ≠ ps := fun e => by rw [e, h2] at hpc; cases hpc
  have n3 : pu ≠ pc := fun e => by rw [e, updM_same] at hpu; cases hpu
  have hpu1 : M1 pu = none := by rw [updM_ne n3] at hpu; exact hpu
  have n4 : pu ≠ a := fun e => by rw [e, h1] at hpu1; cases hpu1
  have n5 : pu ≠ ps := fun e => by rw [e, h2] at hpu1; cases hpu1
  refine wgm_tup rfl (wgms_cons (wgm_fld (EE.to (ee_v 0 rfl) ⟨a, C, [("_scripts", .ptr ps)], rfl, by rw [updM_ne n4.symm, updM_ne n1.symm]; exact h1, T.cls, T.na _ (by decide), (show 1 < 1000 by decide), ?_⟩)))
  refine wgms_cons (wgm_fld (EE.to (ee_v 0 rfl) ⟨a, C, _, rfl, updM_same, T.cls, T.na _ (by decide), (show 2 < 1000 by decide), wgms_nil ?_⟩))
  rw [updM_upd]
  refine q _ [a, ps, pc, pu] ⟨ps, pc, pu, rfl, updM_same, by rw [updM_ne na, updM_ne n5.symm, updM_ne n2.symm]; exact h2, by rw [updM_ne n1, updM_ne n3.symm, updM_same], n2.symm, by rw [updM_ne n4, updM_same]; rfl⟩ ?_
  refine (((c1.trans (Ch.new hpc)).trans (Ch.new hpu)).trans (Ch.upd (by simp))).less fun x hx => ?_
  simp only [List.mem_cons, List.not_mem_nil, or_false] at hx ⊢
  rcases hx with h | h | h | h <;> simp [h]
/-- script(link) -/
def S_lscr (C : Addr) : SpD := fun ds M Q => ∃ (a : Addr) (own : List Addr) (sd cd : DT) (uw : List Rw) (k : List Int), ds = [.ptr a, iD k] ∧ LineAt M C a own sd cd uw ∧ Q (sdGet sd k) M
theorem d_lscr {g : Addr} (F : Dm K C "script" "Line.script" m_L_script ["self", "link"]) (T : HCf K C lF) (hg : mg "GOOD" = some (.ref g)) (hk : KT1 K g (scD good)) : CalM P w K mg base 1 C "script" 2 (S_lscr C) := by
  refine dfm F sm_L_script rfl fun f cdv A outer s H E ds M Q hr hl hs => ?_
  obtain ⟨a, own, sd, cd, uw, k, rfl, hL, q⟩ := hs
  obtain ⟨ps, pc, pu, rfl, h1, h2, h3, h4, h5⟩ := hL.ex
  exact wss_one (ws_ret (we_tget2 (units1 hr) (we_fld (EE.to (ee_v 0 rfl) ⟨a, C, _, .ptr ps, rfl, h1, T.cls, T.na _ (by decide), rfl, ps, sd, rfl, h2, EE.to (ee_v 1 (d := iD k) rfl) (EE.to (ee_kt hg hk) ⟨sd, k, rfl, h2, q⟩)⟩)) ⟨rfl, rfl, rfl, rfl⟩))
/-- count(link) -/
def S_lcnt (C : Addr) : SpD := fun ds M Q => ∃ (a : Addr) (own : List Addr) (sd cd : DT) (uw : List Rw) (k : List Int), ds = [.ptr a, iD k] ∧ LineAt M C a own sd cd uw ∧ CdOk cd ∧ Q (.int (cntOf cd k : Int)) M
theorem d_lcnt (F : Dm K C "count" "Line.count" m_L_count ["self", "link"]) (T : HCf K C lF) : CalM P w K mg base 1 C "count" 2 (S_lcnt C) := by
  refine dfm F sm_L_count rfl fun f cdv A outer s H E ds M Q hr hl hs => ?_
  obtain ⟨a, own, sd, cd, uw, k, rfl, hL, hc, q⟩ := hs
  obtain ⟨ps, pc, pu, rfl, h1, h2, h3, h4, h5⟩ := hL.ex
  exact wss_one (ws_ret (we_tget2 (units1 hr) (we_fld (EE.to (ee_v 0 rfl) ⟨a, C, _, .ptr pc, rfl, h1, T.cls, T.na _ (by decide), rfl, pc, cd, rfl, h3, EE.to (ee_v 1 (d := iD k) rfl) (EE.to ee_int ⟨cd, k, rfl, h3, by rw [cd_get hc]; exact q⟩)⟩)) ⟨rfl, rfl, rfl, rfl⟩))
end
end K42
set_option Elab.async false
set_option linter.all false
set_option maxRecDepth 100000
set_option maxHeartbeats 4000000
namespace DL
open PySem L2 PyProof.Rows
/-- not in a list -/
theorem od_nin {K : PySem.W.Frag} {M : Mem} {Q : D → Mem → Prop} {x y : D} {d : PyData} {ds : List PyData} (hx : PyD M x d) (hy : PyD M y (.list ds)) (sd : SeqAt.shaped d = true) (se : SeqAt.shaped (.list ds) = true) (q : Q (.bl (!ds.any fun z => PyData.eqv z d)) M) : OpD K (rNotInD K) x y M Q := fun G H v u R w rx ry k =>
  ⟨d, ds, hx.dp w rx, hy.dp w ry, sd, se, k _ _ (PV.here w (.bl _) q)⟩
end DL
namespace K42
open PySem L2 PyProof.Rows DL
/-! ### rows under way, sorted and asked for -/
def pyRw (r : Rw) : PyData := .tuple [.int r.t, .tuple [.int r.a, .int r.b], .int (r.n : Int), .int (r.c : Int), .tuple (r.data.map PyData.int)]
theorem toPy_rw (r : Rw) : toPy (rwD r) = pyRw r := by
  show PyData.tuple [.int r.t, .tuple [.int r.a, .int r.b], .int (r.n : Int), .int (r.c : Int), .tuple (toPyA (r.data.map D.int))] = _
  rw [toPyA_int]
  rfl
theorem toPyA_rw : ∀ rs : List Rw, toPyA (rs.map rwD) = rs.map pyRw
  | [] => rfl
  | r :: rs => by
    show toPy (rwD r) :: toPyA (rs.map rwD) = _
    rw [toPy_rw, toPyA_rw rs]
    rfl
theorem pl_rw (r : Rw) : pl (rwD r) = true := by
  show (true && ((true && (true && true)) && (true && (true && (plA (r.data.map D.int) && true))))) = true
  rw [plA_int]
  rfl
theorem plA_rw : ∀ rs : List Rw, plA (rs.map rwD) = true
  | [] => rfl
  | r :: rs => by
    show (pl (rwD r) && plA (rs.map rwD)) = true
    rw [pl_rw, plA_rw rs]
    rfl
theorem dep_rw (r : Rw) : (pyRw r).depth ≤ 4 := by
  have h : PyData.depthAll (r.data.map PyData.int) = 0 := depth_int r.data
  have e : (pyRw r).depth = max 0 (max (max 0 (max 0 0) + 1) (max 0 (max 0 (max (PyData.depthAll (r.data.map PyData.int) + 1) 0)))) + 1 := by
    simp [pyRw, PyData.depth, PyData.depthAll]
  rw [e, h]
  decide
theorem lay_rw : ∀ rs : List Rw, PyData.canLayAll0 (rs.map pyRw) = true
  | [] => rfl
  | r :: rs => by
    have h := lay_int r.data
    have ih := lay_rw rs
    rw [List.map_cons]
    simp [PyData.canLayAll0, PyData.canLay0, pyRw, h, ih]
theorem depA_rw : ∀ rs : List Rw, PyData.depthAll (rs.map pyRw) ≤ 4
  | [] => by rw [List.map_nil]; exact Nat.zero_le _
  | r :: rs => by
    have h := dep_rw r
    have ih := depA_rw rs
    rw [List.map_cons]
    show max (pyRw r).depth (PyData.depthAll (rs.map pyRw)) ≤ 4
    omega
theorem sh_rws (rs : List Rw) : SeqAt.shaped (.list (rs.map pyRw)) = true := Bool.and_eq_true_iff.mpr ⟨lay_rw rs, decide_eq_true (by show PyData.depthAll (rs.map pyRw) + 1 ≤ 64; have := depA_rw rs; omega)⟩
theorem sh_rw (r : Rw) : SeqAt.shaped (pyRw r) = true := by
  have h := lay_rw [r]
  have h2 : PyData.canLay0 (pyRw r) = true := by
    have : (PyData.canLay0 (pyRw r) && PyData.canLayAll0 []) = true := h
    exact (Bool.and_eq_true_iff.mp this).1
  exact Bool.and_eq_true_iff.mpr ⟨h2, decide_eq_true (by have := dep_rw r; omega)⟩
theorem pyd_rw {M : Mem} (r : Rw) : PyD M (rwD r) (pyRw r) := .inl ⟨pl_rw r, (toPy_rw r).symm⟩
theorem pyd_rws {M : Mem} (rs : List Rw) : PyD M (.lst (rs.map rwD)) (.list (rs.map pyRw)) := .inr ⟨_, .inl rfl, plA_rw rs, by rw [toPyA_rw]⟩
theorem eqv_rw (r s : Rw) : PyData.eqv (pyRw r) (pyRw s) = decide (r = s) := by
  obtain ⟨t, a, b, n, c, d⟩ := r
  obtain ⟨t', a', b', n', c', d'⟩ := s
  have h := eqvA_int d d'
  rw [Bool.eq_iff_iff]
  simp [pyRw, PyData.eqv, PyData.eqvAll, h]
  intro _
  constructor
  · rintro ⟨⟨h1, h2⟩, h3, h4, h5⟩
    exact ⟨h1, h2, by omega, by omega, h5⟩
  · rintro ⟨h1, h2, h3, h4, h5⟩
    exact ⟨⟨h1, h2⟩, by omega, by omega, h5⟩
theorem any_rw (rs : List Rw) (r : Rw) : ((rs.map pyRw).any fun z => PyData.eqv z (pyRw r)) = decide (r ∈ rs) := by
  rw [List.any_map, Bool.eq_iff_iff, List.any_eq_true, decide_eq_true_iff]
  constructor
  · rintro ⟨x, hx, e⟩
    have e : PyData.eqv (pyRw x) (pyRw r) = true := e
    rw [eqv_rw, decide_eq_true_iff] at e
    rw [← e]; exact hx
  · intro h
    exact ⟨r, h, by show PyData.eqv (pyRw r) (pyRw r) = true; rw [eqv_rw]; exact decide_eq_true rfl⟩
theorem alike_rw (r s : Rw) : PySem.W.alike (pyRw r) (pyRw s) = true := by
  have h := PySem.W.alike_ints r.data s.data
  simp [pyRw, PySem.W.alike, PySem.W.alikeAll, h]
def srtR (rs : List Rw) : List Rw := rs.mergeSort fun a b => PySem.W.dataLe false toPy (rwD a) (rwD b)
theorem srtD_rw (rs : List Rw) : srtD (rs.map rwD) = (srtR rs).map rwD := (PySem.W.sort_maps rwD fun a _ b _ => rfl).symm
theorem mem_srtR {rs : List Rw} {r : Rw} : r ∈ srtR rs ↔ r ∈ rs := (List.mergeSort_perm _ _).mem_iff
theorem srtR_len (rs : List Rw) : (srtR rs).length = rs.length := (List.mergeSort_perm _ _).length_eq
theorem all_alike (rs : List Rw) : PySem.W.AllAlike ((rs.map rwD).map toPy) := fun d hd d' hd' => by
  obtain ⟨x, hx, rfl⟩ := List.mem_map.mp hd
  obtain ⟨y, hy, rfl⟩ := List.mem_map.mp hd'
  obtain ⟨r, _, rfl⟩ := List.mem_map.mp hx
  obtain ⟨s, _, rfl⟩ := List.mem_map.mp hy
  rw [toPy_rw, toPy_rw]
  exact alike_rw r s
theorem sortable_rw (rs : List Rw) : PySem.W.Sortable ((rs.map rwD).map toPy) := .inl fun d hd => by
  obtain ⟨x, hx, rfl⟩ := List.mem_map.mp hd
  obtain ⟨r, _, rfl⟩ := List.mem_map.mp hx
  exact ⟨_, _, toPy_rw r⟩
def isDue (tick e : Int) (r : Rw) : Bool := decide (r.b = e) && decide (r.t ≤ tick)
/-- the row that a datum is -/
def tOfD (d : D) : Int := intOf ((itemsD d).getD 0 .non)
def bOfD (d : D) : Int := intOf ((itemsD ((itemsD d).getD 1 .non)).getD 1 .non)
theorem filt_rw (q : D → Bool) (p : Rw → Bool) (rs : List Rw) (h : ∀ r ∈ rs, q (rwD r) = p r) : ((rs.map rwD).filter q).map (fun d => d) = (rs.filter p).map rwD := by
  rw [List.map_id', List.filter_map]
  congr 1
  exact List.filter_congr fun r hr => h r hr
def outR (r : Rw) : D := .tup [.int r.a, iD r.data]
def outD (d : D) : D := .tup [(itemsD ((itemsD d).getD 1 .non)).getD 0 .non, (itemsD d).getD 4 .non]
section
variable {P : Program} {w : World} {K : PySem.W.Frag} {mg : Str → Option Value} {base : Heap} {C : Addr}
theorem units64 {k : Nat} {A : Around} (r : Room k A) : A.units + 64 < cLine := by have := r.un; omega
def S_larr (C : Addr) : SpD := fun ds M Q => ∃ (a : Addr) (own : List Addr) (sd cd : DT) (uw : List Rw) (tick e : Int), ds = [.ptr a, .int tick, .int e] ∧ LineAt M C a own sd cd uw ∧ uw.length ≤ 900 ∧ ∀ M' own', LineAt M' C a own' sd cd (uw.filter fun r => !isDue tick e r) → Ch M M' own own' → Q (.lst ((srtR (uw.filter (isDue tick e))).map outR)) M'
theorem d_larr (F : Dm K C "arrived" "Line.arrived" m_L_arrived ["self", "tick", "end"]) (T : HCf K C lF) (B : Blt mg) : CalM P w K mg base 1 C "arrived" 3 (S_larr C) := by
  refine dfm F sm_L_arrived rfl fun f cdv A outer s H E ds M Q hr hl hs => ?_
  obtain ⟨a, own, sd, cd, uw, tick, e, rfl, hL, hz, q⟩ := hs
  obtain ⟨ps, pc, pu, rfl, h1, h2, h3, h4, h5⟩ := hL.ex
  have nd := sm_L_arrived.nd
  have lf := List.length_filter_le (isDue tick e) uw
  have hzf : (uw.map rwD).length < sizeLine := lt1000 (by rw [List.length_map]; omega)
  refine wss_cons (ws_set 3 nd (EE.to (d := .lst ((srtR (uw.filter (isDue tick e))).map rwD)) (ee_cb (cr_sortD (units64 hr)) B.sorted bi_sorted (ea_cons (EE.is (ee_lc1if 4 (ds := uw.map rwD) (fun d => decide (bOfD d = e) && decide (tOfD d ≤ tick)) (fun d => d) rfl nd (wi_lst (we_fld (EE.to (ee_v 0 rfl) ⟨a, C, _, .ptr pu, rfl, h1, T.cls, T.na _ (by decide), rfl, uw.map rwD, .inr ⟨pu, rfl, h5⟩, rfl, rfl, .inr ⟨pu, rfl, h5⟩⟩))) hzf (fun j d hd => ?_) fun j d hd _ s H C cl fp => ee_v 4 rfl) (congrArg D.lst (filt_rw _ (isDue tick e) uw fun r _ => rfl))) ea_nil) (cd_sortD (.inl rfl) (plA_rw _) (all_alike _) (sortable_rw _) (fun b hb => ?_) ⟨by rw [srtD_rw], rfl⟩)) ?_))
  · obtain ⟨r, _, rfl⟩ := at_map hd
    exact fun s H C cl fp => ww_pt (ew_and (et_eqI (ee_ix ix_tup (ee_ix ix_tup (ee_v 4 rfl) ee_int (od_ixT (d := iD [r.a, r.b]) rfl ⟨rfl, rfl⟩)) ee_int (od_ixT (d := .int r.b) rfl ⟨rfl, rfl⟩)) (ee_v 2 rfl)) fun _ => ww_and1 (et_le (ee_ix ix_tup (ee_v 4 rfl) ee_int (od_ixT (d := .int r.t) rfl ⟨rfl, rfl⟩)) (ee_v 1 rfl)))
  · obtain ⟨r, _, rfl⟩ := List.mem_map.mp hb
    rw [toPy_rw]
    exact Nat.le_trans (dep_rw r) (by decide)
  refine wss_cons (ws_fld (we_lcM1if 4 (ds := uw.map rwD) (fun d => !(((srtR (uw.filter (isDue tick e))).map pyRw).any fun z => PyData.eqv z (toPy d))) (fun d => d) rfl nd (wi_lst (we_fld (EE.to (ee_v 0 rfl) ⟨a, C, _, .ptr pu, rfl, h1, T.cls, T.na _ (by decide), rfl, uw.map rwD, .inr ⟨pu, rfl, h5⟩, rfl, rfl, .inr ⟨pu, rfl, h5⟩⟩))) hzf (fun j d hd => ?_) (fun j d hd _ s H C cl fp => ee_v 4 rfl) fun pv hpv => ?_))
  · obtain ⟨r, _, rfl⟩ := at_map hd
    rw [toPy_rw]
    exact fun s H C cl fp => et_cmp (op_notInD (units65 hr)) (ee_v 4 rfl) (ee_v 3 rfl) (od_nin (pyd_rw r) (pyd_rws _) (sh_rw r) (sh_rws _) ⟨_, rfl, rfl, rfl⟩)
  have nva : pv ≠ a := fun z => by rw [z, h1] at hpv; cases hpv
  have nvs : pv ≠ ps := fun z => by rw [z, h2] at hpv; cases hpv
  have nvc : pv ≠ pc := fun z => by rw [z, h3] at hpv; cases hpv
  have nsa : ps ≠ a := fun z => by rw [z, h1] at h2; cases h2
  have nca : pc ≠ a := fun z => by rw [z, h1] at h3; cases h3
  refine EE.to (ee_v 0 rfl) ⟨a, C, LF ps pc pu, rfl, by rw [updM_ne nva.symm]; exact h1, T.cls, T.na _ (by decide), (show 3 < 1000 by decide), ?_⟩
  have eq : ((uw.map rwD).filter fun d => !(((srtR (uw.filter (isDue tick e))).map pyRw).any fun z => PyData.eqv z (toPy d))).map (fun d => d) = (uw.filter fun r => !isDue tick e r).map rwD := filt_rw _ _ uw fun r hr => by
    rw [toPy_rw, any_rw]
    congr 1
    rw [Bool.eq_iff_iff, decide_eq_true_iff, mem_srtR, List.mem_filter]
    exact ⟨fun h => h.2, fun h => ⟨hr, h⟩⟩
  rw [eq]
  have fin : LineAt (updM (updM M pv (some (.lst ((uw.filter fun r => !isDue tick e r).map rwD)))) a (some (.ins C (LF ps pc pv)))) C a [a, ps, pc, pv] sd cd (uw.filter fun r => !isDue tick e r) := ⟨ps, pc, pv, rfl, updM_same, by rw [updM_ne nsa, updM_ne nvs.symm]; exact h2, by rw [updM_ne nca, updM_ne nvc.symm]; exact h3, h4, by rw [updM_ne nva, updM_same]⟩
  have ch : Ch M (updM (updM M pv (some (.lst ((uw.filter fun r => !isDue tick e r).map rwD)))) a (some (.ins C (LF ps pc pv)))) [a, ps, pc, pu] [a, ps, pc, pv] := ((Ch.new hpv).trans (Ch.upd (by simp))).less fun x hx => by
    simp only [List.mem_cons, List.not_mem_nil, or_false] at hx ⊢
    rcases hx with h | h | h | h <;> simp [h]
  refine wss_one (ws_ret (EE.to (EE.is (ee_lc1 4 (ds := (srtR (uw.filter (isDue tick e))).map rwD) outD rfl nd (wi_lst (EE.to (ee_v 3 rfl) ⟨_, .inl rfl, rfl, rfl, .inl rfl⟩)) (lt1000 (by rw [List.length_map, srtR_len]; omega)) fun j d hd => ?_) ?_) (q _ _ fin ch)))
  · obtain ⟨r, _, rfl⟩ := at_map hd
    exact fun s H C cl fp => ee_tup (ea_cons (ee_ix ix_tup (ee_ix ix_tup (ee_v 4 rfl) ee_int (od_ixT (d := iD [r.a, r.b]) rfl ⟨rfl, rfl⟩)) ee_int (od_ixT (d := .int r.a) rfl ⟨rfl, rfl⟩)) (ea_cons (ee_ix ix_tup (ee_v 4 rfl) ee_int (od_ixT (d := iD r.data) rfl ⟨rfl, rfl⟩)) ea_nil))
  · rw [List.map_map]
    rfl
def S_lund (C : Addr) : SpD := fun ds M Q => ∃ (a : Addr) (own : List Addr) (sd cd : DT) (uw : List Rw) (e : Int), ds = [.ptr a, .int e] ∧ LineAt M C a own sd cd uw ∧ uw.length ≤ 900 ∧ Q (.int ((uw.filter fun r => decide (r.b = e)).length : Int)) M
theorem d_lund (F : Dm K C "under_way" "Line.under_way" m_L_under_way ["self", "end"]) (T : HCf K C lF) (B : Blt mg) : CalM P w K mg base 1 C "under_way" 2 (S_lund C) := by
  refine dfm F sm_L_under_way rfl fun f cdv A outer s H E ds M Q hr hl hs => ?_
  obtain ⟨a, own, sd, cd, uw, e, rfl, hL, hz, q⟩ := hs
  obtain ⟨ps, pc, pu, rfl, h1, h2, h3, h4, h5⟩ := hL.ex
  have nd := sm_L_under_way.nd
  refine wss_one (ws_ret (EE.to (EE.is (ee_cb call_len B.len bi_len (ea_cons (EE.is (ee_lc1if 2 (ds := uw.map rwD) (fun d => decide (bOfD d = e)) (fun d => d) rfl nd (wi_lst (we_fld (EE.to (ee_v 0 rfl) ⟨a, C, _, .ptr pu, rfl, h1, T.cls, T.na _ (by decide), rfl, uw.map rwD, .inr ⟨pu, rfl, h5⟩, rfl, rfl, .inr ⟨pu, rfl, h5⟩⟩))) (lt1000 (by rw [List.length_map]; omega)) (fun j d hd => ?_) fun j d hd _ s H C cl fp => ee_v 2 rfl) (congrArg D.lst (filt_rw _ (fun r => decide (r.b = e)) uw fun r _ => rfl))) ea_nil) (cd_lenL (.inl rfl) ⟨rfl, rfl⟩)) (by rw [List.length_map])) q))
  obtain ⟨r, _, rfl⟩ := at_map hd
  exact fun s H C cl fp => et_eqI (ee_ix ix_tup (ee_ix ix_tup (ee_v 2 rfl) ee_int (od_ixT (d := iD [r.a, r.b]) rfl ⟨rfl, rfl⟩)) ee_int (od_ixT (d := .int r.b) rfl ⟨rfl, rfl⟩)) (ee_v 1 rfl)
end
end K42
set_option Elab.async false
set_option linter.all false
set_option maxRecDepth 100000
set_option maxHeartbeats 4000000
namespace K42
open PySem L2 PyProof.Rows DL
/-! ### send -/
def newR (tick a b : Int) (n : Nat) (data : List Int) (f : Ft) : List Rw := f.mapIdx fun c cp => ⟨tick + cp.1, a, b, n, c, hurtF data cp.2⟩
theorem newR_len (tick a b : Int) (n : Nat) (data : List Int) (f : Ft) : (newR tick a b n data f).length = f.length := by
  unfold newR
  rw [List.length_mapIdx]
theorem newR_at {tick a b : Int} {n : Nat} {data : List Int} {f : Ft} {i : Nat} {cp : Cp} (h : f[i]? = some cp) : (newR tick a b n data f)[i]? = some ⟨tick + cp.1, a, b, n, i, hurtF data cp.2⟩ := by
  unfold newR
  rw [List.getElem?_mapIdx, h]
  rfl
theorem newR_mem {tick a b : Int} {n : Nat} {data : List Int} {f : Ft} {r : Rw} (h : r ∈ newR tick a b n data f) : ∃ (i : Nat) (cp : Cp), f[i]? = some cp ∧ r = ⟨tick + cp.1, a, b, n, i, hurtF data cp.2⟩ := by
  obtain ⟨i, hi⟩ := List.mem_iff_getElem?.mp h
  have hl := (List.getElem?_eq_some_iff.mp hi).1
  rw [newR_len] at hl
  have e := newR_at (tick := tick) (a := a) (b := b) (n := n) (data := data) (List.getElem?_eq_getElem hl)
  rw [e] at hi
  exact ⟨i, _, List.getElem?_eq_getElem hl, (Option.some.inj hi).symm⟩
section
variable {P : Program} {w : World} {K : PySem.W.Frag} {mg : Str → Option Value} {base : Heap} {C : Addr}
def S_lsend (C : Addr) : SpD := fun ds M Q => ∃ (a : Addr) (own : List Addr) (sd cd : DT) (uw : List Rw) (tick la lb : Int) (data : List Int) (sc : Sc), ds = [.ptr a, .int tick, iD [la, lb], iD data] ∧ LineAt M C a own sd cd uw ∧ CdOk cd ∧ sdGet sd [la, lb] = scD sc ∧ ScG sc ∧ cd.length ≤ 900 ∧ uw.length ≤ 900 ∧ data.length ≤ 900 ∧
  ∀ M', LineAt M' C a own sd (pt cd [la, lb] (.int ((cntOf cd [la, lb] + 1 : Nat) : Int))) (uw ++ newR tick la lb (cntOf cd [la, lb]) data (fateAt sc (cntOf cd [la, lb]))) → Ch M M' own own → Q (ftD (fateAt sc (cntOf cd [la, lb]))) M'
theorem d_lsend (F : Dm K C "send" "Line.send" m_L_send ["self", "tick", "link", "data"]) (T : HCf K C lF) (B : Blt mg) (C1 : CalM P w K mg base 1 C "count" 2 (S_lcnt C)) (C2 : CalM P w K mg base 1 C "script" 2 (S_lscr C)) (C3 : Cal P w K mg base 1 "fate_of" 2 S_fateof) (C4 : Cal P w K mg base 1 "hurt_data" 2 S_hurt) : CalM P w K mg base 2 C "send" 4 (S_lsend C) := by
  refine dfm F sm_L_send rfl fun f cdv A outer s H E ds M Q hr hl hs => ?_
  obtain ⟨a, own, sd, cd, uw, tick, la, lb, data, sc, rfl, hL, hcd, hsd, hsc, z1, z2, z3, q⟩ := hs
  obtain ⟨ps, pc, pu, rfl, h1, h2, h3, h4, h5⟩ := id hL.ex
  have nd := sm_L_send.nd
  have hok := hsc.ok
  have hf3 := hsc.ft _ (fateAt_mem hsc.pos (cntOf cd [la, lb]))
  refine wss_cons (ws_set 4 nd (we_meth T.cls C1 hr (EE.to (ee_v 0 rfl) ⟨a, _, rfl, h1, rfl, EA.to (ea_cons (ee_v 2 rfl) ea_nil) ⟨rfl, a, _, sd, cd, uw, [la, lb], rfl, hL, hcd, ?_⟩⟩)))
  refine wss_cons (ws_set 5 nd (we_call C3 hr (wa_cons (we_meth T.cls C2 hr (EE.to (ee_v 0 rfl) ⟨a, _, rfl, h1, rfl, EA.to (ea_cons (ee_v 2 rfl) ea_nil) ⟨rfl, a, _, sd, cd, uw, [la, lb], rfl, hL, wa_cons (EE.to (ee_v 4 rfl) (wa_nil ⟨rfl, sc, cntOf cd [la, lb], by rw [hsd], hsc.pos, ?_⟩))⟩⟩)))))
  generalize hn : cntOf cd [la, lb] = n at q hf3 ⊢
  generalize hft : fateAt sc n = ft at q hf3 ⊢
  have nua : pu ≠ a := fun z => by rw [z, h1] at h5; cases h5
  have nus : pu ≠ ps := fun z => by rw [z, h2] at h5; cases h5
  have nuc : pu ≠ pc := fun z => by rw [z, h3] at h5; cases h5
  have nsa : ps ≠ a := fun z => by rw [z, h1] at h2; cases h2
  have nca : pc ≠ a := fun z => by rw [z, h1] at h3; cases h3
  let Mi : Nat → Mem := fun i => updM M pu (some (.lst ((uw ++ (newR tick la lb n data ft).take i).map rwD)))
  have hMu : ∀ i, Mi i pu = some (.lst ((uw ++ (newR tick la lb n data ft).take i).map rwD)) := fun i => updM_same
  have hMa : ∀ i, Mi i a = some (.ins C (LF ps pc pu)) := fun i => by show updM M pu _ a = _; rw [updM_ne nua.symm]; exact h1
  have hM0 : Mi 0 = M := by
    show updM M pu (some (.lst ((uw ++ []).map rwD))) = M
    rw [List.append_nil]
    exact updM_id h5
  refine wss_cons (ws_for PassesOwn.never rfl (Qi := fun es C' M0 => es = enumD (ft.map cpD) ∧ M0 = M ∧ ∀ M1, C' M1) (wi_enumT B.enumerate (EA.to (ea_cons (ee_v 5 (d := ftD ft) rfl) ea_nil) ⟨_, rfl, rfl, rfl, fun _ => trivial⟩)) fun es C' M0 ⟨e1, e2, hC⟩ => ?_)
  subst e1; subst e2
  have el : (enumD (ft.map cpD)).length = ft.length := by unfold enumD; rw [List.length_mapIdx, List.length_map]
  refine ⟨fun i sg1 M1 => Fg [some (.ptr a), some (.int tick), some (iD [la, lb]), some (iD data), some (.int (n : Int)), some (ftD ft), none, none, none] sg1 ∧ M1 = Mi i, ⟨⟨rfl, rfl, rfl, rfl, rfl, rfl, trivial⟩, hM0.symm⟩, fun i sg1 M1 _ => hC _, fun i d sg1 M1 he ⟨hg, hM⟩ => ?_, fun sg1 M1 ⟨hg, hM⟩ => wss_fg hg ?_⟩
  · obtain ⟨c0, hc0, rfl⟩ := enumD_at he
    obtain ⟨cp, hcp, rfl⟩ := at_map hc0
    subst hM
    have hi : i < ft.length := (List.getElem?_eq_some_iff.mp hcp).1
    refine ⟨_, _, wg_tup rfl (wgs_cons (wg_name 6 nd) (wgs_cons (wg_tup (ds := [.int cp.1, hD cp.2]) rfl (wgs_cons (wg_name 7 nd) (wgs_cons (wg_name 8 nd) wgs_nil))) wgs_nil)), wss_fg (fg_set (fg_set (fg_set hg 6 _) 7 _) 8 _) ?_⟩
    refine wss_one (ws_expr (we_bm PySem.F.plainAttrs_list PySem.F.slot_list_append PySem.F.type_list_append mt_append (we_fld (EE.to (ee_v 0 rfl) ⟨a, C, _, .ptr pu, rfl, hMa i, T.cls, T.na _ (by decide), rfl, ty_lst (.inr ⟨pu, rfl, hMu i⟩), EA.to (ds := [rwD ⟨tick + cp.1, la, lb, n, i, hurtF data cp.2⟩]) (ea_cons (ee_tup (ea_cons (ee_add (ee_v 1 rfl) (ee_v 7 rfl)) (ea_cons (ee_v 2 rfl) (ea_cons (ee_v 4 rfl) (ea_cons (ee_v 6 rfl) (ea_cons (we_call C4 hr (EA.to (ea_cons (ee_v 3 rfl) (ea_cons (ee_v 8 rfl) ea_nil)) ⟨rfl, data, cp.2, rfl, z3, rfl, rfl⟩)) ea_nil)))))) ea_nil) (md_append (hMu i) (lt1000 (by rw [List.length_map, List.length_append, List.length_take, newR_len]; omega)) ⟨⟨rfl, rfl, rfl, rfl, rfl, rfl, trivial⟩, ?_⟩)⟩))))
    show updM (updM M0 pu _) pu _ = updM M0 pu _
    rw [updM_upd, List.take_add_one, newR_at hcp, ← List.append_assoc, List.map_append, List.map_append, List.map_append]
    rfl
  · rw [el] at hM
    have tk : (newR tick la lb n data ft).take ft.length = newR tick la lb n data ft := List.take_of_length_le (by rw [newR_len]; exact Nat.le_refl _)
    subst hM
    have hc' : Mi ft.length pc = some (.dit cd) := by show updM M0 pu _ pc = _; rw [updM_ne nuc.symm]; exact h3
    refine wss_cons (ws_dput (units1 hr) (EE.to (ee_add (ee_v 4 rfl) ee_int) (we_fld (EE.to (ee_v 0 rfl) ⟨a, C, _, .ptr pc, rfl, hMa _, T.cls, T.na _ (by decide), rfl, EE.to (ee_v 2 rfl) ⟨pc, cd, [la, lb], rfl, rfl, hc', lt1000 (by omega), ?_⟩⟩))))
    refine wss_one (ws_ret (EE.to (ee_v 5 rfl) (q _ ⟨ps, pc, pu, rfl, ?_, ?_, ?_, h4, ?_⟩ ?_)))
    · rw [updM_ne nca.symm]; exact hMa _
    · rw [updM_ne h4]
      show updM M0 pu _ ps = _
      rw [updM_ne nus.symm]; exact h2
    · rw [updM_same, show ((n : Int) + 1) = ((n + 1 : Nat) : Int) by omega]
    · rw [updM_ne nuc]
      show updM M0 pu _ pu = _
      rw [updM_same, tk]
    · exact (Ch.upd (by simp)).trans (Ch.upd (by simp))
end
end K42
set_option Elab.async false
set_option linter.all false
set_option maxRecDepth 100000
set_option maxHeartbeats 4000000
namespace K42
open PySem L2 PyProof.Rows DL
/-! ### Giver -/
abbrev gF : List Str := ["_waiting", "_done"]
/-- the giver at a: what waits, how many are done -/
structure GivAt (M : Mem) (C a : Addr) (own : List Addr) (ws : List D) (dn : Nat) : Prop where
  ex : ∃ x, M a = some (.ins C [("_waiting", x), ("_done", .int (dn : Int))]) ∧ ((x = .lst ws ∧ own = [a]) ∨ ∃ p, x = .ptr p ∧ M p = some (.lst ws) ∧ own = [a, p])
theorem GivAt.ch {M M' : Mem} {C a : Addr} {own o o' : List Addr} {ws : List D} {dn : Nat} (h : GivAt M C a own ws dn) (c : Ch M M' o o') (hd : ∀ x ∈ own, x ∉ o) : GivAt M' C a own ws dn ∧ ∀ x ∈ own, x ∉ o' := by
  obtain ⟨x, h1, ⟨e, rfl⟩ | ⟨p, e, h2, rfl⟩⟩ := h.ex
  · have k1 := c.at h1 (hd a (by simp))
    refine ⟨⟨x, k1.1, .inl ⟨e, rfl⟩⟩, fun y hy => ?_⟩
    rw [List.mem_singleton.mp hy]
    exact k1.2
  · have k1 := c.at h1 (hd a (by simp))
    have k2 := c.at h2 (hd p (by simp))
    refine ⟨⟨x, k1.1, .inr ⟨p, e, k2.1, rfl⟩⟩, fun y hy => ?_⟩
    simp only [List.mem_cons, List.not_mem_nil, or_false] at hy
    rcases hy with rfl | rfl
    · exact k1.2
    · exact k2.2
theorem GivAt.there {M : Mem} {C a : Addr} {own : List Addr} {ws : List D} {dn : Nat} (h : GivAt M C a own ws dn) : ∀ x ∈ own, M x ≠ none := by
  obtain ⟨x, h1, ⟨e, rfl⟩ | ⟨p, e, h2, rfl⟩⟩ := h.ex
  · intro y hy
    rw [List.mem_singleton.mp hy, h1]
    exact fun z => nomatch z
  · intro y hy
    simp only [List.mem_cons, List.not_mem_nil, or_false] at hy
    rcases hy with rfl | rfl
    · rw [h1]; exact fun z => nomatch z
    · rw [h2]; exact fun z => nomatch z
def outG (ws : List D) (dn : Nat) : List D := (ws.take 16).mapIdx fun k d => .tup [.int ((dn + k : Nat) : Int), d]
def comeI (n dn : Int) (len : Int) : Int := max 0 (min (n - dn) len)
section
variable {P : Program} {w : World} {K : PySem.W.Frag} {mg : Str → Option Value} {base : Heap} {C : Addr}
def S_ginit (C : Addr) : SpD := fun ds M Q => ∃ a : Addr, ds = [.ptr a] ∧ M a = some (.ins C []) ∧ ∀ M' own, GivAt M' C a own [] 0 → (∃ p, own = [a, p]) → Ch M M' [a] own → Q .non M'
theorem d_ginit (F : Di K mg "Giver" C "Giver.__init__" m_G_init ["self"]) (T : HCf K C gF) : CalI P w K mg base 1 "Giver" C 1 (S_ginit C) := by
  refine dfi F sm_G_init rfl fun f cdv A outer s H E ds M Q hr hl hs => ?_
  obtain ⟨a, rfl, hm, q⟩ := hs
  have nd := sm_G_init.nd
  refine wss_one (ws_asgm (we_tup (wa_cons (we_lstM (wa_nil ⟨Nat.zero_le _, fun p hp => wa_cons (EE.to ee_int (wa_nil ⟨Nat.le_of_lt (lt1000 (show 2 < 1000 by decide)), ?_⟩))⟩)))))
  have na : p ≠ a := fun z => by rw [z, hm] at hp; cases hp
  refine wgm_tup rfl (wgms_cons (wgm_fld (EE.to (ee_v 0 rfl) ⟨a, C, [], rfl, by rw [updM_ne na.symm]; exact hm, T.cls, T.na _ (by decide), (show 0 < 1000 by decide), ?_⟩)))
  refine wgms_cons (wgm_fld (EE.to (ee_v 0 rfl) ⟨a, C, [("_waiting", .ptr p)], rfl, updM_same, T.cls, T.na _ (by decide), (show 1 < 1000 by decide), wgms_nil ?_⟩))
  rw [updM_upd]
  refine q _ [a, p] ⟨.ptr p, updM_same, .inr ⟨p, rfl, by rw [updM_ne na, updM_same], rfl⟩⟩ ⟨p, rfl⟩ ?_
  refine ((Ch.new hp).trans (Ch.upd (by simp))).less fun x hx => ?_
  simp only [List.mem_cons, List.not_mem_nil, or_false] at hx ⊢
  rcases hx with h | h <;> simp [h]
/-- put, at a giver that has heard of none -/
def S_gput (C : Addr) : SpD := fun ds M Q => ∃ (a p : Addr) (ws : List D) (dn : Nat) (d : D), ds = [.ptr a, d] ∧ GivAt M C a [a, p] ws dn ∧ ws.length ≤ 900 ∧ ∀ M', GivAt M' C a [a, p] (ws ++ [d]) dn → Ch M M' [a, p] [a, p] → Q (.int ((dn + ws.length : Nat) : Int)) M'
theorem d_gput (F : Dm K C "put" "Giver.put" m_G_put ["self", "data"]) (T : HCf K C gF) (B : Blt mg) : CalM P w K mg base 1 C "put" 2 (S_gput C) := by
  refine dfm F sm_G_put rfl fun f cdv A outer s H E ds M Q hr hl hs => ?_
  obtain ⟨a, p, ws, dn, d, rfl, hG, hz, q⟩ := hs
  have nd := sm_G_put.nd
  obtain ⟨x, h1, ⟨e, e2⟩ | ⟨p', rfl, h2, e2⟩⟩ := hG.ex
  · cases e2
  have e3 : p = p' := by
    have := congrArg (fun l : List Addr => l.getD 1 0) e2
    exact this
  subst e3
  have na : p ≠ a := fun z => by rw [z, h1] at h2; cases h2
  refine wss_cons (ws_expr (we_bm PySem.F.plainAttrs_list PySem.F.slot_list_append PySem.F.type_list_append mt_append (we_fld (EE.to (ee_v 0 rfl) ⟨a, C, _, .ptr p, rfl, h1, T.cls, T.na _ (by decide), rfl, ty_lst (.inr ⟨p, rfl, h2⟩), EA.to (ea_cons (ee_v 1 rfl) ea_nil) (md_append h2 (lt1000 (by omega)) ?_)⟩))))
  have h1' : (updM M p (some (.lst (ws ++ [d])))) a = some (.ins C [("_waiting", .ptr p), ("_done", .int (dn : Int))]) := by rw [updM_ne na.symm]; exact h1
  have fl : ∀ {f' : Str} {d' : D} {p1 p2 : Pos} (hf : f' ∈ gF), List.lookup f' [("_waiting", D.ptr p), ("_done", D.int (dn : Int))] = some d' → EE (cxOf CX0 P w K mg base ["self", "data"] "Giver.put" (defScope m_G_put) f cdv A outer s H E).nox (.Attribute (.Name "self" p1) f' p2) [some (.ptr a), some d] (updM M p (some (.lst (ws ++ [d])))) d' := fun hf hl => we_fld (EE.to (ee_v 0 rfl) ⟨a, C, _, _, rfl, h1', T.cls, T.na _ hf, hl, rfl, rfl⟩)
  refine wss_one (ws_ret (EE.to (EE.is (ee_sub (ee_add (fl (d' := .int (dn : Int)) (by decide) rfl) (ee_cb call_len B.len bi_len (ea_cons (fl (d' := .ptr p) (by decide) rfl) ea_nil) (cd_lenL (.inr ⟨p, rfl, updM_same⟩) ⟨rfl, rfl⟩))) ee_int) (congrArg D.int ?_)) (q _ ⟨.ptr p, h1', .inr ⟨p, rfl, updM_same, rfl⟩⟩ (Ch.upd (by simp)))))
  rw [List.length_append]
  show (dn : Int) + ((ws.length + 1 : Nat) : Int) - 1 = _
  omega
def S_gwait (C : Addr) : SpD := fun ds M Q => ∃ (a : Addr) (own : List Addr) (ws : List D) (dn : Nat), ds = [.ptr a] ∧ GivAt M C a own ws dn ∧ Q (.int (ws.length : Int)) M
theorem giv_ls {M : Mem} {C a : Addr} {own : List Addr} {ws : List D} {dn : Nat} (h : GivAt M C a own ws dn) : ∃ x, M a = some (.ins C [("_waiting", x), ("_done", .int (dn : Int))]) ∧ LsD M x ws := by
  obtain ⟨x, h1, ⟨e, _⟩ | ⟨p, e, h2, _⟩⟩ := h.ex
  · exact ⟨x, h1, .inl e⟩
  · exact ⟨x, h1, .inr ⟨p, e, h2⟩⟩
theorem d_gwait (F : Dm K C "waiting" "Giver.waiting" m_G_waiting ["self"]) (T : HCf K C gF) (B : Blt mg) : CalM P w K mg base 1 C "waiting" 1 (S_gwait C) := by
  refine dfm F sm_G_waiting rfl fun f cdv A outer s H E ds M Q hr hl hs => ?_
  obtain ⟨a, own, ws, dn, rfl, hG, q⟩ := hs
  obtain ⟨x, h1, l⟩ := giv_ls hG
  exact wss_one (ws_ret (we_cb call_len B.len bi_len (wa_cons (we_fld (EE.to (ee_v 0 rfl) ⟨a, C, _, x, rfl, h1, T.cls, T.na _ (by decide), rfl, wa_nil (cd_lenL l q)⟩)))))
def S_gout (C : Addr) : SpD := fun ds M Q => ∃ (a : Addr) (own : List Addr) (ws : List D) (dn : Nat), ds = [.ptr a] ∧ GivAt M C a own ws dn ∧ Q (.tup (outG ws dn)) M
theorem d_gout (F : Dm K C "out" "Giver.out" m_G_out ["self"]) (T : HCf K C gF) (B : Blt mg) (Cx : Cc mg) : CalM P w K mg base 1 C "out" 1 (S_gout C) := by
  refine dfm F sm_G_out rfl fun f cdv A outer s H E ds M Q hr hl hs => ?_
  obtain ⟨a, own, ws, dn, rfl, hG, q⟩ := hs
  obtain ⟨x, h1, l⟩ := giv_ls hG
  obtain ⟨t, ho⟩ := Cx.open_
  have nd := sm_G_out.nd
  have c16 : cutD ws none (some 16) = ws.take 16 := cut_toN ws 16
  refine wss_cons (ws_set 1 nd (EE.to (d := .lst (ws.take 16)) (EE.is (ee_sl sl_list (we_fld (EE.to (ee_v 0 rfl) ⟨a, C, _, x, rfl, h1, T.cls, T.na _ (by decide), rfl, rfl, rfl⟩)) eo_none (eo_some (ee_gi ho)) (sd_lst l ⟨rfl, rfl⟩)) (congrArg D.lst c16)) ?_))
  have lt : (ws.take 16).length ≤ 16 := by rw [List.length_take]; omega
  have le : (enumD (ws.take 16)).length = (ws.take 16).length := by unfold enumD; rw [List.length_mapIdx]
  refine wss_one (ws_ret (EE.to (EE.is (ee_ct call_tuple_of B.tuple bi_tuple (ea_cons (ee_lc2 2 3 (ds := enumD (ws.take 16)) (fun k d => .tup [.int ((dn : Int) + intOf k), d]) rfl nd (wi_enum B.enumerate (EA.to (ea_cons (ee_v 1 rfl) ea_nil) ⟨_, _, rfl, .inl rfl, rfl, rfl, .inl rfl⟩)) (lt1000 (by omega)) fun i d hd => ?_) ea_nil) (cd_tupL (.inl rfl) ⟨rfl, rfl⟩)) (congrArg D.tup ?_)) q))
  · obtain ⟨c, hc, rfl⟩ := enumD_at hd
    exact ⟨_, _, rfl, fun s H C' cl fp => ee_tup (ea_cons (ee_add (we_fld (EE.to (ee_v 0 rfl) ⟨a, C, _, .int (dn : Int), rfl, h1, T.cls, T.na _ (by decide), rfl, rfl, rfl⟩)) (ee_v 2 rfl)) (ea_cons (ee_v 3 rfl) ea_nil))⟩
  · unfold enumD outG
    rw [mapIdx_map]
    refine congrArg (fun F => List.mapIdx F (ws.take 16)) (funext fun k => funext fun d => ?_)
    show D.tup [.int ((dn : Int) + (k : Int)), d] = D.tup [.int ((dn + k : Nat) : Int), d]
    rw [Int.natCast_add]
def S_ghear (C : Addr) : SpD := fun ds M Q => ∃ (a : Addr) (own : List Addr) (ws : List D) (dn : Nat) (n : Int), ds = [.ptr a, .int n] ∧ GivAt M C a own ws dn ∧ ∀ M' own', GivAt M' C a own' (ws.drop (comeI n dn ws.length).toNat) (dn + (comeI n dn ws.length).toNat) → Ch M M' own own' → Q .non M'
theorem d_ghear (F : Dm K C "hear" "Giver.hear" m_G_hear ["self", "number"]) (T : HCf K C gF) (B : Blt mg) : CalM P w K mg base 1 C "hear" 2 (S_ghear C) := by
  refine dfm F sm_G_hear rfl fun f cdv A outer s H E ds M Q hr hl hs => ?_
  obtain ⟨a, own, ws, dn, n, rfl, hG, q⟩ := hs
  obtain ⟨x, h1, l⟩ := giv_ls hG
  have nd := sm_G_hear.nd
  have ha : a ∈ own := by
    obtain ⟨_, _, ⟨_, e⟩ | ⟨_, _, _, e⟩⟩ := hG.ex <;> (rw [e]; exact List.mem_cons_self)
  have c0 : 0 ≤ comeI n dn ws.length := by unfold comeI; omega
  have fl : ∀ {f' : Str} {d' : D} {p1 p2 : Pos} {sg : Sg} (hf : f' ∈ gF), List.lookup f' [("_waiting", x), ("_done", D.int (dn : Int))] = some d' → sg[0]? = some (some (.ptr a)) → EE (cxOf CX0 P w K mg base ["self", "number", "come"] "Giver.hear" (defScope m_G_hear) f cdv A outer s H E).nox (.Attribute (.Name "self" p1) f' p2) sg M d' := fun hf hl hs => we_fld (EE.to (ee_v 0 hs) ⟨a, C, _, _, rfl, h1, T.cls, T.na _ hf, hl, rfl, rfl⟩)
  refine wss_cons (ws_set 2 nd (EE.to (d := .int (comeI n dn ws.length)) (EE.is (ee_cb (call_max2 rfl) B.max bi_max (ea_cons ee_int (ea_cons (ee_cb (call_min2 rfl) B.min bi_min (ea_cons (ee_sub (ee_v 1 rfl) (fl (d' := .int (dn : Int)) (by decide) rfl rfl)) (ea_cons (ee_cb call_len B.len bi_len (ea_cons (fl (d' := x) (by decide) rfl rfl) ea_nil) (cd_lenL l ⟨rfl, rfl⟩)) ea_nil)) (cd_min2 ⟨rfl, rfl⟩)) ea_nil)) (cd_max2 ⟨rfl, rfl⟩)) (congrArg D.int ?_)) ?_))
  · unfold comeI
    by_cases c1 : (ws.length : Int) < n - (dn : Int)
    · rw [if_pos c1]
      by_cases c2 : (ws.length : Int) > 0
      · rw [if_pos c2]; omega
      · rw [if_neg c2]; omega
    · rw [if_neg c1]
      by_cases c2 : n - (dn : Int) > 0
      · rw [if_pos c2]; omega
      · rw [if_neg c2]; omega
  generalize hc : comeI n dn ws.length = c at q c0 ⊢
  obtain ⟨j, rfl⟩ : ∃ j : Nat, c = (j : Int) := ⟨c.toNat, by omega⟩
  rw [Int.toNat_natCast] at q
  have cj : cutD ws (some (j : Int)) none = ws.drop j := cut_fromN ws j
  refine wss_one (ws_asgm (EE.to (ee_tup (ea_cons (EE.is (ee_sl sl_list (fl (d' := x) (by decide) rfl rfl) (eo_some (ee_v 2 rfl)) eo_none (sd_lst l ⟨rfl, rfl⟩)) (congrArg D.lst cj)) (ea_cons (ee_add (fl (d' := .int (dn : Int)) (by decide) rfl rfl) (ee_v 2 rfl)) ea_nil))) ?_))
  refine wgm_tup rfl (wgms_cons (wgm_fld (EE.to (ee_v 0 rfl) ⟨a, C, [("_waiting", x), ("_done", .int (dn : Int))], rfl, h1, T.cls, T.na _ (by decide), (show 2 < 1000 by decide), ?_⟩)))
  refine wgms_cons (wgm_fld (EE.to (ee_v 0 rfl) ⟨a, C, [("_waiting", .lst (ws.drop j)), ("_done", .int (dn : Int))], rfl, updM_same, T.cls, T.na _ (by decide), (show 2 < 1000 by decide), wgms_nil ?_⟩))
  rw [updM_upd]
  exact q _ [a] ⟨.lst (ws.drop j), by rw [updM_same, Int.natCast_add]; rfl, .inl ⟨rfl, rfl⟩⟩ ((Ch.upd ha).less fun x hx => by rw [List.mem_singleton.mp hx]; exact ha)
end
end K42
set_option Elab.async false
set_option linter.all false
set_option maxRecDepth 100000
set_option maxHeartbeats 4000000
namespace K42
open PySem L2 PyProof.Rows DL
/-! ### Taker -/
abbrev tF : List Str := ["_next", "_kept"]
def kvN (g : Nat → D) (kd : List Nat) : KD := kd.map fun (k : Nat) => (Sum.inl (k : Int), g k)
structure TakAt (M : Mem) (C a : Addr) (own : List Addr) (g : Nat → D) (nx : Nat) (kd : List Nat) : Prop where
  ex : ∃ p, own = [a, p] ∧ M a = some (.ins C [("_next", .int (nx : Int)), ("_kept", .ptr p)]) ∧ M p = some (.dic (kvN g kd))
  nd : kd.Nodup
  up : ∀ k ∈ kd, nx < k
theorem TakAt.ch {M M' : Mem} {C a : Addr} {own o o' : List Addr} {g : Nat → D} {nx : Nat} {kd : List Nat} (h : TakAt M C a own g nx kd) (c : Ch M M' o o') (hd : ∀ x ∈ own, x ∉ o) : TakAt M' C a own g nx kd ∧ ∀ x ∈ own, x ∉ o' := by
  obtain ⟨p, rfl, h1, h2⟩ := h.ex
  have k1 := c.at h1 (hd a (by simp))
  have k2 := c.at h2 (hd p (by simp))
  refine ⟨⟨⟨p, rfl, k1.1, k2.1⟩, h.nd, h.up⟩, fun y hy => ?_⟩
  simp only [List.mem_cons, List.not_mem_nil, or_false] at hy
  rcases hy with rfl | rfl
  · exact k1.2
  · exact k2.2
theorem TakAt.there {M : Mem} {C a : Addr} {own : List Addr} {g : Nat → D} {nx : Nat} {kd : List Nat} (h : TakAt M C a own g nx kd) : ∀ x ∈ own, M x ≠ none := by
  obtain ⟨p, rfl, h1, h2⟩ := h.ex
  intro y hy
  simp only [List.mem_cons, List.not_mem_nil, or_false] at hy
  rcases hy with rfl | rfl
  · rw [h1]; exact fun z => nomatch z
  · rw [h2]; exact fun z => nomatch z
theorem key_in (n m : Nat) : ((Sum.inl (n : Int) : Key) = Sum.inl (m : Int)) ↔ n = m := by
  constructor
  · intro h
    have := Sum.inl.inj h
    omega
  · intro h; rw [h]
theorem gk_N (g : Nat → D) (n : Nat) : ∀ kd : List Nat, gk (kvN g kd) (.inl (n : Int)) = if n ∈ kd then some (g n) else none
  | [] => rfl
  | k :: kd => by
    have ih := gk_N g n kd
    unfold gk kvN at ih ⊢
    rw [List.map_cons]
    by_cases e : k = n
    · subst e
      rw [List.find?_cons_of_pos (by exact decide_eq_true rfl), if_pos List.mem_cons_self]
      rfl
    · rw [List.find?_cons_of_neg (by rw [decide_eq_false (fun z => e ((key_in k n).mp z))]; exact Bool.false_ne_true), ih]
      by_cases m : n ∈ kd
      · rw [if_pos m, if_pos (List.mem_cons_of_mem _ m)]
      · rw [if_neg m, if_neg (fun z => (List.mem_cons.mp z).elim (fun z => e z.symm) m)]
theorem any_N (g : Nat → D) (n : Nat) (kd : List Nat) : ((kvN g kd).any fun p => decide (p.1 = (.inl (n : Int) : Key))) = decide (n ∈ kd) := by
  unfold kvN
  rw [List.any_map, Bool.eq_iff_iff, List.any_eq_true, decide_eq_true_iff]
  constructor
  · rintro ⟨k, hk, e⟩
    have := (key_in k n).mp (of_decide_eq_true e)
    rw [← this]; exact hk
  · intro h
    exact ⟨n, h, decide_eq_true rfl⟩
theorem pk_N (g : Nat → D) (n : Nat) (kd : List Nat) : pk (kvN g kd) (.inl (n : Int)) (g n) = kvN g (if n ∈ kd then kd else kd ++ [n]) := by
  unfold pk
  rw [any_N]
  by_cases m : n ∈ kd
  · rw [if_pos (decide_eq_true m), if_pos m]
    unfold kvN
    rw [List.map_map]
    refine List.map_congr_left fun k _ => ?_
    show (if (Sum.inl (k : Int) : Key) = Sum.inl (n : Int) then _ else _) = _
    by_cases e : k = n
    · rw [if_pos ((key_in k n).mpr e), e]
    · rw [if_neg fun z => e ((key_in k n).mp z)]
  · rw [if_neg (by rw [decide_eq_false m]; exact Bool.false_ne_true), if_neg m]
    unfold kvN
    rw [List.map_append]
    rfl
theorem dk_N (g : Nat → D) (n : Nat) (kd : List Nat) : dk (kvN g kd) (.inl (n : Int)) = kvN g (kd.filter fun k => !decide (k = n)) := by
  unfold dk kvN
  rw [List.filter_map]
  congr 1
  refine List.filter_congr fun k _ => ?_
  show (!decide ((Sum.inl (k : Int) : Key) = Sum.inl (n : Int))) = !decide (k = n)
  congr 1
  rw [Bool.eq_iff_iff, decide_eq_true_iff, decide_eq_true_iff]
  exact key_in k n
/-- what hearing n makes of it -/
structure Heard (nx : Nat) (kd : List Nat) (n nx' : Nat) (kd' : List Nat) : Prop where
  le : nx ≤ nx'
  nd : kd'.Nodup
  up : ∀ k ∈ kd', nx' < k
  mem : ∀ k, k ∈ kd' ↔ (k ∈ kd ∨ (k = n ∧ nx ≤ n)) ∧ nx' ≤ k
  gone : ∀ k, nx ≤ k → k < nx' → k ∈ kd ∨ k = n
def rowsG (g : Nat → D) (nx nx' : Nat) : List D := (List.range' nx (nx' - nx)).map g
section
variable {P : Program} {w : World} {K : PySem.W.Frag} {mg : Str → Option Value} {base : Heap} {C : Addr}
def S_tinit (C : Addr) : SpD := fun ds M Q => ∃ a : Addr, ds = [.ptr a] ∧ M a = some (.ins C []) ∧ ∀ M' own, (∀ g, TakAt M' C a own g 0 []) → Ch M M' [a] own → Q .non M'
theorem d_tinit (F : Di K mg "Taker" C "Taker.__init__" m_T_init ["self"]) (T : HCf K C tF) : CalI P w K mg base 1 "Taker" C 1 (S_tinit C) := by
  refine dfi F sm_T_init rfl fun f cdv A outer s H E ds M Q hr hl hs => ?_
  obtain ⟨a, rfl, hm, q⟩ := hs
  refine wss_one (ws_asgm (we_tup (wa_cons (EE.to ee_int (wa_cons (we_knew fun p hp => wa_nil ⟨Nat.le_of_lt (lt1000 (show 2 < 1000 by decide)), ?_⟩))))))
  have na : p ≠ a := fun z => by rw [z, hm] at hp; cases hp
  refine wgm_tup rfl (wgms_cons (wgm_fld (EE.to (ee_v 0 rfl) ⟨a, C, [], rfl, by rw [updM_ne na.symm]; exact hm, T.cls, T.na _ (by decide), (show 0 < 1000 by decide), ?_⟩)))
  refine wgms_cons (wgm_fld (EE.to (ee_v 0 rfl) ⟨a, C, [("_next", .int 0)], rfl, updM_same, T.cls, T.na _ (by decide), (show 1 < 1000 by decide), wgms_nil ?_⟩))
  rw [updM_upd]
  refine q _ [a, p] (fun g => ⟨⟨p, rfl, updM_same, by rw [updM_ne na, updM_same]; rfl⟩, List.nodup_nil, fun k h => nomatch h⟩) ?_
  refine ((Ch.new hp).trans (Ch.upd (by simp))).less fun x hx => ?_
  simp only [List.mem_cons, List.not_mem_nil, or_false] at hx ⊢
  rcases hx with h | h <;> simp [h]
def S_tnext (C : Addr) : SpD := fun ds M Q => ∃ (a : Addr) (own : List Addr) (g : Nat → D) (nx : Nat) (kd : List Nat), ds = [.ptr a] ∧ TakAt M C a own g nx kd ∧ Q (.int (nx : Int)) M
theorem d_tnext (F : Dm K C "next_number" "Taker.next_number" m_T_next_number ["self"]) (T : HCf K C tF) : CalM P w K mg base 1 C "next_number" 1 (S_tnext C) := by
  refine dfm F sm_T_next_number rfl fun f cdv A outer s H E ds M Q hr hl hs => ?_
  obtain ⟨a, own, g, nx, kd, rfl, hT, q⟩ := hs
  obtain ⟨p, _, h1, _⟩ := hT.ex
  exact wss_one (ws_ret (we_fld (EE.to (ee_v 0 rfl) ⟨a, C, _, .int (nx : Int), rfl, h1, T.cls, T.na _ (by decide), rfl, q⟩)))
def S_thear (C : Addr) : SpD := fun ds M Q => ∃ (a : Addr) (own : List Addr) (g : Nat → D) (nx : Nat) (kd : List Nat) (n : Nat), ds = [.ptr a, .int (n : Int), g n] ∧ TakAt M C a own g nx kd ∧ kd.length ≤ 900 ∧ ∀ M' nx' kd' x, TakAt M' C a own g nx' kd' → Heard nx kd n nx' kd' → Ch M M' own own → LsD M' x (rowsG g nx nx') → (∀ y, x = .ptr y → M y = none ∧ y ∉ own) → Q x M'
theorem rowsG_snoc (g : Nat → D) {nx nx' : Nat} (h : nx ≤ nx') : rowsG g nx nx' ++ [g nx'] = rowsG g nx (nx' + 1) := by
  unfold rowsG
  rw [show nx' + 1 - nx = (nx' - nx) + 1 by omega, List.range'_concat, List.map_append, show nx + 1 * (nx' - nx) = nx' by omega]
  rfl
theorem d_thear (F : Dm K C "hear" "Taker.hear" m_T_hear ["self", "number", "data"]) (T : HCf K C tF) : CalM P w K mg base 1 C "hear" 3 (S_thear C) := by
  refine dfm F sm_T_hear rfl fun f cdv A outer s H E ds M Q hr hl hs => ?_
  obtain ⟨a, own, g, nx, kd, n, rfl, hT, hz, q⟩ := hs
  obtain ⟨p, rfl, h1, h2⟩ := id hT.ex
  have nd := sm_T_hear.nd
  have npa : p ≠ a := fun z => by rw [z, h1] at h2; cases h2
  have hu := units1 hr
  -- behind the if
  let kd1 : List Nat := if nx ≤ n then (if n ∈ kd then kd else kd ++ [n]) else kd
  have kd1_mem : ∀ k, k ∈ kd1 ↔ k ∈ kd ∨ (k = n ∧ nx ≤ n) := fun k => by
    show k ∈ (if nx ≤ n then (if n ∈ kd then kd else kd ++ [n]) else kd) ↔ _
    by_cases c : nx ≤ n
    · rw [if_pos c]
      by_cases m : n ∈ kd
      · rw [if_pos m]
        exact ⟨.inl, fun h => h.elim id fun z => by rw [z.1]; exact m⟩
      · rw [if_neg m, List.mem_append, List.mem_singleton]
        exact ⟨fun h => h.imp id fun z => ⟨z, c⟩, fun h => h.imp id fun z => z.1⟩
    · rw [if_neg c]
      exact ⟨.inl, fun h => h.elim id fun z => absurd z.2 c⟩
  have kd1_nd : kd1.Nodup := by
    show (if nx ≤ n then (if n ∈ kd then kd else kd ++ [n]) else kd).Nodup
    split
    · split
      · exact hT.nd
      · rename_i m
        rw [List.nodup_append]
        exact ⟨hT.nd, List.nodup_cons.mpr ⟨List.not_mem_nil, List.nodup_nil⟩, fun x hx y hy => by rw [List.mem_singleton.mp hy]; intro z; rw [z] at hx; exact m hx⟩
    · exact hT.nd
  have kd1_len : kd1.length ≤ 901 := by
    show (if nx ≤ n then (if n ∈ kd then kd else kd ++ [n]) else kd).length ≤ _
    split
    · split
      · omega
      · rw [List.length_append]; show _ + 1 ≤ _; omega
    · omega
  have rest : ∀ M1 : Mem, M1 a = some (.ins C [("_next", .int (nx : Int)), ("_kept", .ptr p)]) → M1 p = some (.dic (kvN g kd1)) → Ch M M1 [a, p] [a, p] → WSs (cxOf CX0 P w K mg base ["self", "number", "data", "found"] "Taker.hear" (defScope m_T_hear) f cdv A outer s H E).nox ((defBody m_T_hear).drop 1) [some (.ptr a), some (.int (n : Int)), some (g n), none] M1 { nx := fun _ M' => Q .non M', rt := Q } := fun M1 g1 g2 c1 => by
    refine wss_cons (ws_set 3 nd (we_lstM (wa_nil ⟨Nat.zero_le _, fun r hr => ?_⟩)))
    have nra : r ≠ a := fun z => by rw [z, g1] at hr; cases hr
    have nrp : r ≠ p := fun z => by rw [z, g2] at hr; cases hr
    have hrM : M r = none := by
      cases e : M r with
      | none => rfl
      | some u =>
        have := (c1.at e (by simp [nra, nrp])).1
        rw [this] at hr; cases hr
    refine wss_cons (ws_while PassesOwn.never (fun m sg1 M2 => ∃ (nx' : Nat) (kd' : List Nat), m = kd'.length ∧ sg1 = [some (.ptr a), some (.int (n : Int)), some (g n), some (.ptr r)] ∧ nx ≤ nx' ∧ kd'.Nodup ∧ kd'.length ≤ 901 ∧ (∀ k, k ∈ kd' ↔ k ∈ kd1 ∧ nx' ≤ k) ∧ (∀ k, nx ≤ k → k < nx' → k ∈ kd1) ∧ nx' - nx + kd'.length ≤ 901 ∧ M2 a = some (.ins C [("_next", .int (nx' : Int)), ("_kept", .ptr p)]) ∧ M2 p = some (.dic (kvN g kd')) ∧ M2 r = some (.lst (rowsG g nx nx')) ∧ Ch M M2 [a, p] [a, p]) ⟨kd1.length, nx, kd1, rfl, rfl, Nat.le_refl _, kd1_nd, kd1_len, fun k => ⟨fun h => ⟨h, ?_⟩, fun h => h.1⟩, fun k a1 a2 => absurd a2 (by omega), by omega, by rw [updM_ne nra.symm]; exact g1, by rw [updM_ne nrp.symm]; exact g2, by rw [updM_same]; unfold rowsG; rw [Nat.sub_self]; rfl, ?_⟩ fun m sg1 M2 ⟨nx', kd', em, es, l1, l2, l3, l4, l5, l6, b1, b2, b3, b4⟩ => ?_)
    · rcases (kd1_mem k).mp h with h | h
      · exact Nat.le_of_lt (hT.up k h)
      · rw [h.1]; exact h.2
    · exact (c1.trans (Ch.new hr)).less fun x hx => List.mem_cons_of_mem _ hx
    subst es
    have nx_f : ∀ {p1 p2 : Pos}, EE (cxOf CX0 P w K mg base ["self", "number", "data", "found"] "Taker.hear" (defScope m_T_hear) f cdv A outer s H E).nox (.Attribute (.Name "self" p1) "_next" p2) [some (.ptr a), some (.int (n : Int)), some (g n), some (.ptr r)] M2 (.int (nx' : Int)) := fun {_ _} => we_fld (EE.to (ee_v 0 rfl) ⟨a, C, _, _, rfl, b1, T.cls, T.na _ (by decide), rfl, rfl, rfl⟩)
    refine wt_kin hu (EE.to nx_f (we_fld (EE.to (ee_v 0 rfl) ⟨a, C, _, .ptr p, rfl, b1, T.cls, T.na _ (by decide), rfl, p, _, .inl (nx' : Int), rfl, rfl, .inl b2, ?_, ?_⟩)))
    · intro hin
      rw [gk_N] at hin
      have hmem : nx' ∈ kd' := by
        by_cases c : nx' ∈ kd'
        · exact c
        · rw [if_neg c] at hin; cases hin
      refine wss_cons (ws_expr (we_bm PySem.F.plainAttrs_list PySem.F.slot_list_append PySem.F.type_list_append mt_append (EE.to (ee_v 3 rfl) ⟨ty_lst (.inr ⟨r, rfl, b3⟩), wa_cons (we_kpop (we_fld (EE.to (ee_v 0 rfl) ⟨a, C, _, .ptr p, rfl, b1, T.cls, T.na _ (by decide), rfl, p, _, rfl, b2, EE.to nx_f ⟨_, .inl (nx' : Int), g nx', rfl, b2, by rw [gk_N, if_pos hmem], wa_nil (md_append (by rw [updM_ne nrp]; exact b3) (lt1000 (by unfold rowsG; rw [List.length_map, List.length_range']; omega)) ?_)⟩⟩)) ⟨rfl, rfl, rfl, rfl⟩)⟩)))
      rw [rowsG_snoc g l1, dk_N]
      refine wss_one (ws_fldadd (EE.to (ee_v 0 rfl) ⟨a, C, [("_next", .int (nx' : Int)), ("_kept", .ptr p)], (nx' : Int), rfl, by rw [updM_ne nra.symm, updM_ne npa.symm]; exact b1, T.cls, T.na _ (by decide), rfl, EE.to ee_int ⟨1, [("_next", .int (nx' : Int)), ("_kept", .ptr p)], rfl, by rw [updM_ne nra.symm, updM_ne npa.symm]; exact b1, (show 2 < 1000 by decide), (kd'.filter fun k => !decide (k = nx')).length, ?_, nx' + 1, _, rfl, rfl, by omega, l2.filter _, ?_, fun k => ?_, fun k a1 a2 => ?_, ?_, ?_, ?_, ?_, ?_⟩⟩))
      · rw [em]
        have : (kd'.filter fun k => !decide (k = nx')).length < kd'.length := by
          have h3 := List.length_filter_lt_length_iff_exists (p := fun k => !decide (k = nx')) (l := kd')
          exact h3.mpr ⟨nx', hmem, by simp⟩
        exact this
      · exact Nat.le_trans (List.length_filter_le _ _) l3
      · rw [List.mem_filter, l4 k]
        constructor
        · rintro ⟨⟨x1, x2⟩, x3⟩
          refine ⟨x1, ?_⟩
          have : k ≠ nx' := fun z => by rw [z] at x3; simp at x3
          omega
        · rintro ⟨x1, x2⟩
          exact ⟨⟨x1, by omega⟩, by rw [decide_eq_false (by omega)]; rfl⟩
      · by_cases c : k < nx'
        · exact l5 k a1 c
        · rw [show k = nx' by omega]
          exact ((l4 nx').mp hmem).1
      · have h3 := List.length_filter_lt_length_iff_exists (p := fun k => !decide (k = nx')) (l := kd')
        have := h3.mpr ⟨nx', hmem, by simp⟩
        omega
      · rw [updM_same, Int.natCast_add]; rfl
      · rw [updM_ne npa, updM_ne nrp.symm, updM_same]
      · rw [updM_ne nra, updM_same]
      · refine ⟨fun x hx hx2 => ?_, fun x h => .inl h⟩
        rw [updM_ne (fun z => hx2 (by rw [z]; simp)), updM_ne (fun z => hx (by rw [z]; exact hrM)), updM_ne (fun z => hx2 (by rw [z]; simp))]
        exact b4.same x hx hx2
    · intro hin
      rw [gk_N] at hin
      have hno : nx' ∉ kd' := fun c => by rw [if_pos c] at hin; cases hin
      refine wss_one (ws_ret (EE.to (ee_v 3 rfl) (q _ nx' kd' (.ptr r) ⟨⟨p, rfl, b1, b2⟩, l2, fun k hk => ?_⟩ ⟨l1, l2, fun k hk => ?_, fun k => ?_, fun k a1 a2 => ?_⟩ b4 (.inr ⟨r, rfl, b3⟩) fun y hy => ?_)))
      · have := ((l4 k).mp hk).2
        have : k ≠ nx' := fun z => hno (by rw [← z]; exact hk)
        omega
      · have := ((l4 k).mp hk).2
        have : k ≠ nx' := fun z => hno (by rw [← z]; exact hk)
        omega
      · rw [l4 k, kd1_mem k]
      · exact ((kd1_mem k).mp (l5 k a1 a2)).imp id fun z => z.1
      · cases hy
        exact ⟨hrM, by simp [nra, nrp]⟩
  refine wss_cons (ws_ifE (k := decide ((nx : Int) ≤ (n : Int))) (et_ge (ee_v 1 rfl) (we_fld (EE.to (ee_v 0 rfl) ⟨a, C, _, .int (nx : Int), rfl, h1, T.cls, T.na _ (by decide), rfl, rfl, rfl⟩))) (fun e => ?_) fun e => wss_nil ?_)
  · have e := of_decide_eq_true e
    have ek : kd1 = if n ∈ kd then kd else kd ++ [n] := if_pos (by omega)
    refine wss_one (ws_kput hu (we_kget2 hu (we_fld (EE.to (ee_v 0 rfl) ⟨a, C, _, .ptr p, rfl, h1, T.cls, T.na _ (by decide), rfl, p, _, rfl, h2, EE.to (ee_v 1 rfl) (EE.to (ee_v 2 rfl) ⟨_, .inl (n : Int), rfl, h2, ?_⟩)⟩)) ⟨rfl, rfl, rfl, rfl⟩))
    have eg : (gk (kvN g kd) (.inl (n : Int))).getD (g n) = g n := by
      rw [gk_N]
      split <;> rfl
    rw [eg]
    refine we_fld (EE.to (ee_v 0 rfl) ⟨a, C, _, .ptr p, rfl, h1, T.cls, T.na _ (by decide), rfl, EE.to (ee_v 1 rfl) ⟨p, _, .inl (n : Int), rfl, rfl, h2, lt1000 (by unfold kvN; rw [List.length_map]; omega), ?_⟩⟩)
    rw [pk_N, ← ek]
    exact rest _ (by rw [updM_ne npa.symm]; exact h1) updM_same (Ch.upd (by simp))
  · have e := of_decide_eq_false e
    have ek : kd1 = kd := if_neg (by omega)
    exact rest M h1 (by rw [ek]; exact h2) (Ch.refl _ _)
/-- what lacks below the greatest that is kept -/
def lackN (nx : Nat) (kd : List Nat) (m : Int) : List Nat := ((List.range (m - (nx : Int)).toNat).map fun i => nx + i).filter fun k => !decide (k ∈ kd)
def S_tlack (C : Addr) : SpD := fun ds M Q => ∃ (a : Addr) (own : List Addr) (g : Nat → D) (nx : Nat) (kd : List Nat), ds = [.ptr a] ∧ TakAt M C a own g nx kd ∧ kd.length ≤ 900 ∧ nx ≤ 900 ∧ (∀ k ∈ kd, k ≤ 900) ∧ ∀ m : Int, (m = (nx : Int) - 1 ∨ ∃ k ∈ kd, m = (k : Int)) → (nx : Int) - 1 ≤ m → (∀ k ∈ kd, (k : Int) ≤ m) → Q (.tup ((lackN nx kd m).map fun (k : Nat) => .int (k : Int))) M
theorem d_tlack (F : Dm K C "lacking" "Taker.lacking" m_T_lacking ["self"]) (T : HCf K C tF) (B : Blt mg) : CalM P w K mg base 1 C "lacking" 1 (S_tlack C) := by
  refine dfm F sm_T_lacking rfl fun f cdv A outer s H E ds M Q hr hl hs => ?_
  obtain ⟨a, own, g, nx, kd, rfl, hT, z1, z2, z3, q⟩ := hs
  obtain ⟨p, _, h1, h2⟩ := hT.ex
  have nd := sm_T_lacking.nd
  have hu := units1 hr
  have nx_f : ∀ {p1 p2 : Pos} {sg : Sg}, sg[0]? = some (some (.ptr a)) → EE (cxOf CX0 P w K mg base ["self", "most", "number"] "Taker.lacking" (defScope m_T_lacking) f cdv A outer s H E).nox (.Attribute (.Name "self" p1) "_next" p2) sg M (.int (nx : Int)) := fun {_ _ _} hs => we_fld (EE.to (ee_v 0 hs) ⟨a, C, _, _, rfl, h1, T.cls, T.na _ (by decide), rfl, rfl, rfl⟩)
  have ek : ((kvN g kd).map fun p => kD p.1) = kd.map fun (k : Nat) => D.int (k : Int) := by
    unfold kvN
    rw [List.map_map]
    rfl
  have el : [D.int ((nx : Int) - 1)] ++ kd.map (fun (k : Nat) => D.int (k : Int)) = (((nx : Int) - 1) :: kd.map fun (k : Nat) => (k : Int)).map D.int := by
    rw [List.map_cons, List.map_map]
    rfl
  refine wss_cons (ws_set 1 nd (we_cb (cr_max rfl) B.max bi_max (EA.to (ea_cons (EE.is (ee_op op_cat (ee_lst (ea_cons (ee_sub (nx_f rfl) ee_int) ea_nil)) (ee_ct (call_list_dK rfl) B.list bi_list (ea_cons (we_fld (EE.to (ee_v 0 rfl) ⟨a, C, _, .ptr p, rfl, h1, T.cls, T.na _ (by decide), rfl, rfl, rfl⟩)) ea_nil) (cd_listD h2 ⟨rfl, rfl⟩)) (od_cat (.inl rfl) (.inl rfl) (by rw [ek, List.length_map]; exact Nat.le_of_lt (lt1000 (show 1 + _ < _ by omega))) ⟨rfl, rfl⟩)) (congrArg D.lst (by rw [ek]; exact el))) ea_nil) (cd_max (ns := ((nx : Int) - 1) :: kd.map fun (k : Nat) => (k : Int)) (.inl rfl) (Nat.succ_pos _) fun m m1 m2 => ?_))))
  have m0 : (nx : Int) - 1 ≤ m := m2 _ List.mem_cons_self
  have m3 : ∀ k ∈ kd, (k : Int) ≤ m := fun k hk => m2 _ (List.mem_cons_of_mem _ (List.mem_map.mpr ⟨k, hk, rfl⟩))
  have m4 : m = (nx : Int) - 1 ∨ ∃ k ∈ kd, m = (k : Int) := by
    rcases List.mem_cons.mp m1 with h | h
    · exact .inl h
    · obtain ⟨k, hk, e⟩ := List.mem_map.mp h
      exact .inr ⟨k, hk, e.symm⟩
  have m5 : m ≤ 900 := by
    rcases m4 with h | ⟨k, hk, h⟩
    · omega
    · have := z3 k hk; omega
  refine wss_one (ws_ret (EE.to (EE.is (ee_ct call_tuple_of B.tuple bi_tuple (ea_cons (ee_lc1if 2 (ds := rngD (nx : Int) (m - (nx : Int)).toNat) (fun d => !decide ((intOf d).toNat ∈ kd)) (fun d => d) rfl nd (wi_rng2 B.range (EA.to (ea_cons (nx_f rfl) (ea_cons (ee_v 1 rfl) ea_nil)) ⟨(nx : Int), m, rfl, ⟨by omega, by omega, by omega, by omega⟩, rfl, rfl, trivial⟩)) (lt1000 (by rw [rngD_len]; omega)) (fun j d hd => ?_) fun j d hd _ s H C' cl fp => ee_v 2 rfl) ea_nil) (cd_tupL (.inl rfl) ⟨rfl, rfl⟩)) (congrArg D.tup ?_)) (q m m4 m0 m3)))
  · obtain ⟨hj, rfl⟩ := rngD_at hd
    rw [show (nx : Int) + (j : Int) = ((nx + j : Nat) : Int) by omega, show (intOf (.int ((nx + j : Nat) : Int))).toNat = nx + j from Int.toNat_natCast _]
    refine fun s H C' cl fp => wt_knin hu (EE.to (ee_v 2 rfl) (we_fld (EE.to (ee_v 0 rfl) ⟨a, C, _, .ptr p, rfl, h1, T.cls, T.na _ (by decide), rfl, p, _, .inl ((nx + j : Nat) : Int), rfl, rfl, .inl h2, ?_, rfl⟩)))
    rw [gk_N]
    by_cases c : nx + j ∈ kd
    · rw [if_pos c, decide_eq_true c]; rfl
    · rw [if_neg c, decide_eq_false c]; rfl
  · unfold rngD lackN
    rw [List.map_id', List.filter_map, List.filter_map, List.map_map]
    have e : ((fun d => !decide ((intOf d).toNat ∈ kd)) ∘ fun (k : Nat) => D.int ((nx : Int) + (k : Int))) = ((fun k => !decide (k ∈ kd)) ∘ fun i => nx + i) := funext fun k => by
      show (!decide (((nx : Int) + (k : Int)).toNat ∈ kd)) = !decide (nx + k ∈ kd)
      rw [show ((nx : Int) + (k : Int)).toNat = nx + k by omega]
    rw [e]
    refine List.map_congr_left fun k _ => ?_
    show D.int ((nx : Int) + (k : Int)) = D.int ((nx + k : Nat) : Int)
    rw [Int.natCast_add]
end
end K42
set_option Elab.async false
set_option linter.all false
set_option maxRecDepth 100000
set_option maxHeartbeats 4000000
namespace DL
open PySem L2 PyProof.Rows
/-- str(i) -/
theorem cd_strI {K : PySem.W.Frag} {i : Int} {M : Mem} {Q : D → Mem → Prop} (h : i.natAbs.log2 < 1920) (q : Q (.str (toString i)) M) : ClD K (fun xs H Q => ∃ i, xs = [V.int i] ∧ i.natAbs.log2 < 1920 ∧ Q (.str (toString i)) H) [.int i] M Q := fun G H vs R w r k => by
  obtain ⟨v, rfl, rv⟩ := r.one
  cases rv
  exact ⟨i, rfl, h, k _ _ (PV.here w (.str _) q)⟩
end DL
namespace K42
open PySem L2 PyProof.Rows DL
/-! ### _law_bent: of ints and tuples -/
def bp (L : Nat) : Nat → D → Bool
  | 0, _ => false
  | n + 1, .tup ds => decide (ds.length ≤ L) && ds.all (bp L n)
  | _ + 1, .int i => decide (0 ≤ i) && decide (i ≤ 999999)
  | _ + 1, .non => true
  | _ + 1, _ => false
theorem bp_wf {L : Nat} : ∀ {n : Nat} {d : D}, bp L n d = true → wf L n d = true
  | 0, _, h => by cases h
  | n + 1, .tup ds, h => by
    have q := Bool.and_eq_true_iff.mp h
    exact tup_wf (of_decide_eq_true q.1) fun d hd => bp_wf (List.all_eq_true.mp q.2 d hd)
  | n + 1, .int i, h => rfl
  | n + 1, .non, h => rfl
  | n + 1, .bl _, h => by cases h
  | n + 1, .str _, h => by cases h
  | n + 1, .lst _, h => by cases h
  | n + 1, .ptr _, h => by cases h
  | n + 1, .scr _, h => by cases h
section
variable {P : Program} {w : World} {K : PySem.W.Frag} {mg : Str → Option Value} {base : Heap}
def S_bent (L n : Nat) : SpD := fun ds M Q => ∃ (p c : Addr) (v : D), ds = [.ptr p, v] ∧ Bx M p c ∧ bp L n v = true ∧ ∀ d M', wf (L + 1) (n + 3) d = true → Bx M' p c → Els M M' p c → Q d M'
theorem d_bent_step {L n : Nat} (hL : 2 ≤ L) (hL2 : L ≤ 800) (F : Df K mg "_law_bent" s_law_bent ["box", "value"]) (B : Blt mg) (C1 : Cal P w K mg base 2 "_law_draw" 2 S_draw) (C2 : Cal P w K mg base (n + 2) "_law_bent" 2 (S_bent L n)) : Cal P w K mg base (n + 3) "_law_bent" 2 (S_bent L (n + 1)) := by
  refine dfn' F sc_law_bent rfl fun f cdv A outer s H E ds M Q hr hl hs => ?_
  obtain ⟨p, c, v, rfl, hB, hv, q⟩ := hs
  have nd := sc_law_bent.nd
  have hr2 : Room 2 (A.deeper (envOfC "_law_bent" (defScope s_law_bent) s.heap.objs.size f cdv)) := hr.mono (by omega)
  have lv : ∀ M, LkD M v := fun M => pl_lk M (wf_pl (bp_wf hv))
  -- one of eight
  have fin : ∀ (o : Option D) (M1 : Mem) (r : Nat) (rs : List D) (e : Expr) (p1 p2 : Pos), Bx M1 p c → Els M M1 p c → r < 8 → rs.length = 8 → (∀ d ∈ rs, wf (L + 1) (n + 1 + 3) d = true) → EE (cxOf CX0 P w K mg base ["box", "value", "at", "pick"] "_law_bent" (defScope s_law_bent) f cdv A outer s H E).nox e [some (.ptr p), some v, o, some (.int (r : Int))] M1 (.lst rs) → WE (cxOf CX0 P w K mg base ["box", "value", "at", "pick"] "_law_bent" (defScope s_law_bent) f cdv A outer s H E).nox (.Subscript e (.Name "pick" p1) p2) [some (.ptr p), some v, o, some (.int (r : Int))] M1 Q := fun o M1 r rs e p1 p2 h1 hE1 hr8 hz hw he => by
    have hlt : r < rs.length := by omega
    exact ee_ix ix_list he (ee_v 3 rfl) (od_ixL (.inl rfl) (atI_nat (List.getElem?_eq_getElem hlt)) (q _ _ (hw _ (List.getElem_mem hlt)) h1 hE1))
  -- behind the first if
  have rest : ∀ (o : Option D) (M1 : Mem), Bx M1 p c → Els M M1 p c → WSs (cxOf CX0 P w K mg base ["box", "value", "at", "pick"] "_law_bent" (defScope s_law_bent) f cdv A outer s H E).nox ((defBody s_law_bent).drop 1) [some (.ptr p), some v, o, none] M1 { nx := fun _ M' => Q .non M', rt := Q } := fun o M0 h0 hE0 => by
    refine wss_cons (ws_set 3 nd (we_call C1 hr2 (EA.to (ea_cons (ee_v 0 rfl) (ea_cons ee_int ea_nil)) ⟨rfl, p, c, 8, rfl, h0, by decide, by decide, fun r M1 r0 r1 h1 hE => ?_⟩)))
    obtain ⟨r, rfl⟩ : ∃ j : Nat, r = (j : Int) := ⟨r.toNat, by omega⟩
    have hE1 := hE0.trans hE
    have r8 : r < 8 := by omega
    refine wss_cons (ws_ifE (et_val (ee_isT B.isinstance B.tuple (ee_v 1 rfl) (lv _))) (fun h => ?_) fun j1 => wss_nil ?_)
    · obtain ⟨ds, rfl⟩ := isT_of h
      obtain ⟨hz, hw⟩ := wf_tup (bp_wf hv)
      have c1 := cut_len ds none (some 1)
      have c1' : (DL.cutD ds none (some 1)).length ≤ 1 := by
        rw [show (1 : Int) = ((1 : Nat) : Int) from rfl, cut_toN, List.length_take]
        omega
      have up : ∀ x ∈ ds, wf (L + 1) (n + 3) x = true := fun x hx => wf_mono (by omega) (by omega) (hw x hx)
      have up2 : ∀ x ∈ ds, wf (L + 1) (n + 2) x = true := fun x hx => wf_mono (by omega) (by omega) (hw x hx)
      refine wss_one (ws_ret (fin _ _ r _ _ _ _ h1 hE1 r8 ?_ ?_ (ee_lst (ea_cons (ee_op op_catA (ee_v 1 rfl) (ee_sl sl_tupA (ee_v 1 rfl) eo_none (eo_some ee_int) (sd_tup ⟨rfl, rfl⟩)) (od_catT (Nat.le_trans (show _ ≤ 2000 by omega) (by decide)) ⟨rfl, rfl⟩)) (ea_cons (ee_sl sl_tupA (ee_v 1 rfl) (eo_some ee_int) eo_none (sd_tup ⟨rfl, rfl⟩)) (ea_cons (we_revT (EE.to (ee_v 1 rfl) ⟨ds, rfl, rfl, rfl⟩)) (ea_cons (ee_op op_catA (ee_v 1 rfl) (ee_tup (ea_cons ee_int ea_nil)) (od_catT (Nat.le_trans (show _ + 1 ≤ 2000 by omega) (by decide)) ⟨rfl, rfl⟩)) (ea_cons (ee_tup (ea_cons (ee_v 1 rfl) ea_nil)) (ea_cons (ee_sl sl_tupA (ee_v 1 rfl) eo_none (eo_some (ee_neg ee_int)) (sd_tup ⟨rfl, rfl⟩)) (ea_cons ee_non (ea_cons (ee_op op_catA (ee_v 1 rfl) (ee_tup (ea_cons (ee_tup (ea_cons ee_int (ea_cons ee_int ea_nil))) ea_nil)) (od_catT (Nat.le_trans (show _ + 1 ≤ 2000 by omega) (by decide)) ⟨rfl, rfl⟩)) ea_nil)))))))))))
      · rfl
      · intro d hd
        simp only [List.mem_cons, List.not_mem_nil, or_false] at hd
        rcases hd with rfl | rfl | rfl | rfl | rfl | rfl | rfl | rfl
        · refine tup_wf (by rw [List.length_append]; omega) fun x hx => ?_
          rcases List.mem_append.mp hx with hx | hx
          · exact up x hx
          · exact up x (cut_sub hx)
        · exact tup_wf (by have := cut_len ds (some 1) none; omega) fun x hx => up x (cut_sub hx)
        · exact tup_wf (by rw [List.length_reverse]; omega) fun x hx => up x (List.mem_reverse.mp hx)
        · refine tup_wf (by rw [List.length_append]; show _ + 1 ≤ _; omega) fun x hx => ?_
          rcases List.mem_append.mp hx with hx | hx
          · exact up x hx
          · rw [List.mem_singleton.mp hx]; rfl
        · refine tup_wf (by show 1 ≤ L + 1; omega) fun x hx => ?_
          rw [List.mem_singleton.mp hx]
          exact tup_wf (by omega) up2
        · exact tup_wf (by have := cut_len ds none (some (-1)); omega) fun x hx => up x (cut_sub hx)
        · rfl
        · refine tup_wf (by rw [List.length_append]; show _ + 1 ≤ _; omega) fun x hx => ?_
          rcases List.mem_append.mp hx with hx | hx
          · exact up x hx
          · rw [List.mem_singleton.mp hx]
            refine tup_wf (by show 2 ≤ L + 1; omega) fun y hy => ?_
            simp only [List.mem_cons, List.not_mem_nil, or_false] at hy
            rcases hy with rfl | rfl <;> rfl
    · have hi : v = .non ∨ ∃ i, v = .int i := by cases v <;> first | exact .inl rfl | exact .inr ⟨_, rfl⟩ | exact absurd (show false = true from hv) Bool.false_ne_true | exact absurd (show false = true from j1.symm) Bool.false_ne_true
      rcases hi with rfl | ⟨i, rfl⟩
      · refine wss_cons (ws_ifE (k := false) (ET.is (ww_pt (ew_and (q := false) (et_val (ee_isI B.isinstance B.int (ee_v 1 rfl) (lv _))) fun h => absurd h Bool.false_ne_true)) (by rfl)) (fun h => Bool.noConfusion h) fun _ => wss_nil ?_)
        refine wss_cons (ws_ifE (k := false) (ET.is (et_val (ee_isS B.isinstance B.str (ee_v 1 rfl) (lv _))) rfl) (fun h => Bool.noConfusion h) fun _ => wss_nil ?_)
        refine wss_one (ws_ret (fin _ _ r _ _ _ _ h1 hE1 r8 ?_ ?_ (ee_lst (ea_cons ee_int (ea_cons ee_int (ea_cons ee_non (ea_cons ee_bl (ea_cons ee_str (ea_cons (ee_tup ea_nil) (ea_cons (ee_tup (ea_cons ee_int ea_nil)) (ea_cons ee_str ea_nil)))))))))))
        · rfl
        · intro d hd
          simp only [List.mem_cons, List.not_mem_nil, or_false] at hd
          rcases hd with rfl | rfl | rfl | rfl | rfl | rfl | rfl | rfl
          · rfl
          · rfl
          · rfl
          · rfl
          · rfl
          · exact tup_wf (Nat.zero_le _) fun x hx => nomatch hx
          · refine tup_wf (by show 1 ≤ L + 1; omega) fun x hx => ?_
            rw [List.mem_singleton.mp hx]
            rfl
          · rfl
      have hi9 : 0 ≤ i ∧ i ≤ 999999 := by
        have := Bool.and_eq_true_iff.mp (show (decide (0 ≤ i) && decide (i ≤ 999999)) = true from hv)
        exact ⟨of_decide_eq_true this.1, of_decide_eq_true this.2⟩
      refine wss_cons (ws_ifE (k := true) (ET.is (ww_pt (ew_and (et_val (ee_isI B.isinstance B.int (ee_v 1 rfl) (lv _))) fun _ => ww_and1 (et_not (et_val (ee_isB B.isinstance B.bool (ee_v 1 rfl) (lv _)))))) rfl) (fun _ => ?_) fun h => Bool.noConfusion h)
      refine wss_one (ws_ret (fin _ _ r _ _ _ _ h1 hE1 r8 ?_ ?_ (ee_lst (ea_cons (ee_add (ee_v 1 rfl) ee_int) (ea_cons (ee_sub (ee_v 1 rfl) ee_int) (ea_cons ee_int (ea_cons (ee_eqI (ee_v 1 rfl) ee_int) (ea_cons ee_non (ea_cons (ee_ct call_str_int B.str bi_str (ea_cons (ee_v 1 rfl) ea_nil) (cd_strI (small_log hi9.1 (by omega)) ⟨rfl, rfl⟩)) (ea_cons (ee_tup (ea_cons (ee_v 1 rfl) ea_nil)) (ea_cons (ee_add (ee_v 1 rfl) ee_int) ea_nil)))))))))))
      · rfl
      · intro d hd
        simp only [List.mem_cons, List.not_mem_nil, or_false] at hd
        rcases hd with rfl | rfl | rfl | rfl | rfl | rfl | rfl | rfl
        · rfl
        · rfl
        · rfl
        · rfl
        · rfl
        · rfl
        · refine tup_wf (by show 1 ≤ L + 1; omega) fun x hx => ?_
          rw [List.mem_singleton.mp hx]
          rfl
        · rfl
  have hr3 : Room (n + 2) (A.deeper (envOfC "_law_bent" (defScope s_law_bent) s.heap.objs.size f cdv)) := hr
  have R0 := rest none M hB (Els.refl _ _ _)
  refine wss_cons (ws_if (ww_pt (ww_and ((et_val (ee_isT B.isinstance B.tuple (ee_v 1 rfl) (lv _))).imp fun k M1 ⟨e1, e2⟩ => ?_))))
  subst e1; subst e2
  refine ⟨fun e => ⟨fun h => absurd h Bool.false_ne_true, fun _ => wss_nil R0⟩, fun e => ?_⟩
  obtain ⟨ds, rfl⟩ := isT_of e
  obtain ⟨hz, hw⟩ := wf_tup (bp_wf hv)
  refine ww_and ((et_gt (ee_cb call_len B.len bi_len (ea_cons (ee_v 1 rfl) ea_nil) (cd_lenT ⟨rfl, rfl⟩)) ee_int).imp fun k M2 ⟨e1, e2⟩ => ?_)
  subst e1; subst e2
  refine ⟨fun _ => ⟨fun h => absurd h Bool.false_ne_true, fun _ => wss_nil R0⟩, fun e0 => ?_⟩
  have hp0 : (0 : Int) < ds.length := of_decide_eq_true e0
  refine ww_and1 (wt_cmp op_gt (Qa := fun d M3 => ∃ r, d = .int r ∧ Bx M3 p c ∧ Els M2 M3 p c) (we_call C1 hr2 (EA.to (ea_cons (ee_v 0 rfl) (ea_cons ee_int ea_nil)) ⟨rfl, p, c, 5, rfl, hB, by decide, by decide, fun r M3 _ _ hB3 hE3 => ⟨r, rfl, hB3, hE3⟩⟩)) fun x M3 ⟨r, e1, hB3, hE3⟩ => EE.to ee_int ?_)
  subst e1
  refine od_B0 ⟨_, rfl, fun _ => ?_, fun _ => wss_nil (rest none M3 hB3 hE3)⟩
  -- the first if's body
  refine wss_cons (ws_set 2 nd (we_call C1 hr2 (EA.to (ea_cons (ee_v 0 rfl) (ea_cons (ee_cb call_len B.len bi_len (ea_cons (ee_v 1 rfl) ea_nil) (cd_lenT ⟨rfl, rfl⟩)) ea_nil)) ⟨rfl, p, c, _, rfl, hB3, hp0, by omega, fun r M4 r0 r1 hB4 hE4 => ?_⟩)))
  have up : ∀ x ∈ ds, wf (L + 1) (n + 3) x = true := fun x hx => wf_mono (by omega) (by omega) (hw x hx)
  have l1 := cut_len ds none (some r)
  have l2 := cut_len ds (some (r + 1)) none
  have l3 : (DL.cutD ds none (some r)).length + (DL.cutD ds (some (r + 1)) none).length + 1 ≤ ds.length := cut_two r0 r1
  have hE34 := hE3.trans hE4
  have hlt : r.toNat < ds.length := by omega
  have at_ : atI ds ((r.toNat : Nat) : Int) = some ds[r.toNat] := atI_nat (List.getElem?_eq_getElem hlt)
  rw [show ((r.toNat : Nat) : Int) = r by omega] at at_
  have hsp : bp L n ds[r.toNat] = true := List.all_eq_true.mp (Bool.and_eq_true_iff.mp hv).2 _ (List.getElem_mem hlt)
  refine wss_one (ws_ret (we_op op_catA (Qa := fun d M6 => ∃ y, wf (L + 1) (n + 3) y = true ∧ Bx M6 p c ∧ Els M2 M6 p c ∧ d = .tup (DL.cutD ds none (some r) ++ [y])) (we_op op_catA (Qa := fun d M6 => d = .tup (DL.cutD ds none (some r)) ∧ M6 = M4) (ee_sl sl_tupA (ee_v 1 rfl) eo_none (eo_some (ee_v 2 rfl)) (sd_tup ⟨rfl, rfl⟩)) fun x M6 ⟨e1, e2⟩ => ?_) fun x M6 ⟨y, hy, hB6, hE6, e1⟩ => ?_))
  · subst e1; subst e2
    refine we_tup (wa_cons (we_call C2 hr3 (EA.to (ea_cons (ee_v 0 rfl) (ea_cons (ee_ix ix_tup (ee_v 1 rfl) (ee_v 2 rfl) (od_ixT at_ ⟨rfl, rfl⟩)) ea_nil)) ⟨rfl, p, c, _, rfl, hB4, hsp, fun d M7 hd hB7 hE7 => ?_⟩)))
    refine wa_nil ⟨by exact small30, od_catT ?_ ⟨d, hd, hB7, hE34.trans hE7, rfl⟩⟩
    exact Nat.le_trans (show _ ≤ 2000 by show _ + 1 ≤ 2000; omega) (by decide)
  · subst e1
    refine EE.to (ee_sl sl_tupA (ee_v 1 rfl) (eo_some (ee_add (ee_v 2 rfl) ee_int)) eo_none (sd_tup ⟨rfl, rfl⟩)) (od_catT ?_ (q _ _ (tup_wf ?_ fun x hx => ?_) hB6 hE6))
    · rw [List.length_append]
      exact Nat.le_trans (show _ ≤ 2000 by show _ + 1 + _ ≤ 2000; omega) (by decide)
    · rw [List.length_append, List.length_append]; show _ + 1 + _ ≤ _; omega
    · rcases List.mem_append.mp hx with hx | hx
      · rcases List.mem_append.mp hx with hx | hx
        · exact up x (cut_sub hx)
        · rw [List.mem_singleton.mp hx]; exact hy
      · exact up x (cut_sub hx)
theorem d_bent0 {L : Nat} (F : Df K mg "_law_bent" s_law_bent ["box", "value"]) : Cal P w K mg base 2 "_law_bent" 2 (S_bent L 0) := by
  obtain ⟨f, fd, F, hm, hb⟩ := F
  have no : ∀ vs H R E, ¬ spD K 2 (S_bent L 0) vs H R E := fun vs H R E h => by
    obtain ⟨_, _, _, _, _, _, _, ⟨_, _, _, _, _, z, _⟩, _⟩ := h
    cases z
  exact ⟨f, fd, ["box", "value"], ⟨fun vs H R E h => absurd h (no vs H R E), fun A outer s H args us vs R E _ _ _ _ h => absurd h (no vs H R E)⟩, hm, F.kp, hb⟩
theorem d_bent {L : Nat} (hL : 2 ≤ L) (hL2 : L ≤ 800) (F : Df K mg "_law_bent" s_law_bent ["box", "value"]) (B : Blt mg) (C1 : Cal P w K mg base 2 "_law_draw" 2 S_draw) : ∀ n : Nat, Cal P w K mg base (n + 2) "_law_bent" 2 (S_bent L n)
  | 0 => d_bent0 F
  | n + 1 => d_bent_step hL hL2 F B C1 (d_bent hL hL2 F B C1 n)
end
end K42
set_option Elab.async false
set_option linter.all false
set_option maxRecDepth 100000
set_option maxHeartbeats 4000000
namespace K42
open PySem L2 PyProof.Rows DL
/-! ### draws; the law's own hurt; scripts drawn -/
theorem Els.ch {M M' : Mem} {p c : Addr} (h : Els M M' p c) : Ch M M' [p, c] [p, c] := ⟨fun x _ hx => h x (fun z => hx (by rw [z]; simp)) (fun z => hx (by rw [z]; simp)), fun x hx => .inl hx⟩
theorem Bx.ch {M M' : Mem} {p c : Addr} {o o' : List Addr} (h : Bx M p c) (k : Ch M M' o o') (hp : p ∉ o) (hc : c ∉ o) : Bx M' p c ∧ p ∉ o' ∧ c ∉ o' := by
  obtain ⟨cs, a, b, h1, h2, h3⟩ := h
  have k1 := k.at h1 hp
  have k2 := k.at h2 hc
  exact ⟨⟨cs, a, b, k1.1, k2.1, h3⟩, k1.2, k2.2⟩
theorem Bx.ne {M : Mem} {p c : Addr} (h : Bx M p c) : M p ≠ none ∧ M c ≠ none := by
  obtain ⟨cs, a, b, h1, h2, h3⟩ := h
  exact ⟨by rw [h1]; exact (fun z => nomatch z), by rw [h2]; exact (fun z => nomatch z)⟩
/-- a new object beside the box -/
theorem Bx.beside {M : Mem} {p c q : Addr} (h : Bx M p c) (hq : M q = none) : q ≠ p ∧ q ≠ c := ⟨fun z => h.ne.1 (by rw [← z]; exact hq), fun z => h.ne.2 (by rw [← z]; exact hq)⟩
theorem Bx.put {M : Mem} {p c q : Addr} {u : Option MO} (h : Bx M p c) (h1 : q ≠ p) (h2 : q ≠ c) : Bx (updM M q u) p c := by
  obtain ⟨cs, a, b, g1, g2, h3⟩ := h
  exact ⟨cs, a, b, by rw [updM_ne h1.symm]; exact g1, by rw [updM_ne h2.symm]; exact g2, h3⟩
/-- beside what was there -/
theorem Ch.putN {M M' : Mem} {o o' : List Addr} {q : Addr} {u : Option MO} (h : Ch M M' o o') (hq : M q = none) : Ch M (updM M' q u) o o' := ⟨fun x a b => by rw [updM_ne fun z => a (by rw [z]; exact hq)]; exact h.same x a b, h.old⟩
section
variable {X : Cx} {sg : Sg} {M : Mem} {Q : D → Mem → Prop} {p1 p2 p3 p4 : Pos} {e : Expr} {p c : Addr} {m : Int}
theorem we_dr (i : Nat) (C1 : Cal X.prog X.w X.K X.mg X.base 2 "_law_draw" 2 S_draw) (hr : Room 2 X.A) (hb : sg[i]? = some (some (.ptr p))) (he : EE X e sg M (.int m)) (hB : Bx M p c) (m0 : 0 < m) (m1 : m < 1000000000) (q : ∀ (r : Nat) (M' : Mem), (r : Int) < m → Bx M' p c → Els M M' p c → Q (.int (r : Int)) M')
    (hN : X.N[i]? = some ("box" : Str) := by rfl) (hv : Vis X.env.scope ("box" : Str) := by first | exact Or.inl rfl | exact Or.inr (Or.inl rfl) | exact Or.inr (Or.inr rfl)) (hg : Gl X "_law_draw" := by rfl)
    (h1 : starEach [.Name "box" p2, e] X.env = (false, eval (.Name "box" p2) X.env) :: starEach [e] X.env := by exact star1 rfl) (h2 : starEach [e] X.env = (false, eval e X.env) :: starEach [] X.env := by exact star1 rfl) (h3 : (backTo p4 (starEach [e] X.env)).any (·.1) = false := by exact starN rfl) : WE X (.Call (.Name "_law_draw" p1) [.Name "box" p2, e] [] p4) sg M Q :=
  we_call C1 hr (EA.to (ea_cons (ee_v i hb hN hv) (ea_cons he ea_nil h2) h1) ⟨rfl, p, c, m, rfl, hB, m0, m1, fun r M' r0 r1 hB' hE => by
    obtain ⟨j, rfl⟩ : ∃ j : Nat, r = (j : Int) := ⟨r.toNat, by omega⟩
    exact q j M' r1 hB' hE⟩) hg (by decide) h1 h3
/-- one and a draw -/
theorem we_dr1 (i : Nat) {j : Nat} {pp : Pos} (C1 : Cal X.prog X.w X.K X.mg X.base 2 "_law_draw" 2 S_draw) (hr : Room 2 X.A) (hb : sg[i]? = some (some (.ptr p))) (he : EE X e sg M (.int m)) (hB : Bx M p c) (m0 : 0 < m) (m1 : m < 1000000000) (q : ∀ (r : Nat) (M' : Mem), (r : Int) < m → Bx M' p c → Els M M' p c → Q (.int ((1 + r : Nat) : Int)) M')
    (hN : X.N[i]? = some ("box" : Str) := by rfl) (hv : Vis X.env.scope ("box" : Str) := by first | exact Or.inl rfl | exact Or.inr (Or.inl rfl) | exact Or.inr (Or.inr rfl)) (hg : Gl X "_law_draw" := by rfl)
    (h1 : starEach [.Name "box" p2, e] X.env = (false, eval (.Name "box" p2) X.env) :: starEach [e] X.env := by exact star1 rfl) (h2 : starEach [e] X.env = (false, eval e X.env) :: starEach [] X.env := by exact star1 rfl) (h3 : (backTo p4 (starEach [e] X.env)).any (·.1) = false := by exact starN rfl) : WE X (.BinOp (.Constant (.int 1) j p3) .Add (.Call (.Name "_law_draw" p1) [.Name "box" p2, e] [] p4) pp) sg M Q :=
  we_op op_add (Qa := fun d M1 => d = .int 1 ∧ M1 = M) ee_int fun x M1 ⟨e1, e2⟩ => by
    subst e1; subst e2
    refine we_dr i C1 hr hb he hB m0 m1 (fun r M' hr' hB' hE => ?_) hN hv hg h1 h2 h3
    have := q r M' hr' hB' hE
    rw [show ((1 + r : Nat) : Int) = 1 + (r : Int) by omega] at this
    exact od_I0 (f := fun i j => i + j) this
end
/-- a script drawn -/
structure ScS (s : Sc) : Prop where
  pos : 0 < s.length
  few : s.length ≤ 5
  ft : ∀ f ∈ s, f.length ≤ 2
  cp : ∀ f ∈ s, ∀ c ∈ f, 1 ≤ c.1 ∧ c.1 ≤ 5 ∧ ∀ p, c.2 = some p → 0 ≤ p.1 ∧ p.1 ≤ 9 ∧ 1 ≤ p.2 ∧ p.2 ≤ 255
theorem ScS.g {s : Sc} (h : ScS s) : ScG s := ⟨h.pos, Nat.le_trans h.few (by decide), fun f hf => Nat.le_trans (h.ft f hf) (by decide), fun f hf c hc => by
  obtain ⟨h1, h2, h3⟩ := h.cp f hf c hc
  refine ⟨h1, by omega, fun p hp => ?_⟩
  obtain ⟨g1, g2, g3, g4⟩ := h3 p hp
  exact ⟨g1, by omega, g3, g4⟩⟩
def CpS (c : Cp) : Prop := 1 ≤ c.1 ∧ c.1 ≤ 5 ∧ ∀ p, c.2 = some p → 0 ≤ p.1 ∧ p.1 ≤ 9 ∧ 1 ≤ p.2 ∧ p.2 ≤ 255
def FtS (f : Ft) : Prop := f.length ≤ 2 ∧ ∀ c ∈ f, CpS c
section
variable {P : Program} {w : World} {K : PySem.W.Frag} {mg : Str → Option Value} {base : Heap}
def S_lscript : SpD := fun ds M Q => ∃ (p c : Addr) (wh : Bool), ds = [.ptr p, .bl wh] ∧ Bx M p c ∧ ∀ (s : Sc) M', ScS s → (wh = true → starvedB s = false) → Bx M' p c → Ch M M' [p, c] [p, c] → Q (scD s) M'
theorem d_lawscr (F : Df K mg "_law_script" s_law_script ["box", "whole"]) (B : Blt mg) (C1 : Cal P w K mg base 2 "_law_draw" 2 S_draw) : Cal P w K mg base 3 "_law_script" 2 S_lscript := by
  refine dfn' F sc_law_script rfl fun f cdv A outer s H E ds M Q hr hl hs => ?_
  obtain ⟨p, c, wh, rfl, hB, q⟩ := hs
  have nd := sc_law_script.nd
  refine wss_cons (ws_set 2 nd (we_lstM (wa_nil ⟨Nat.zero_le _, fun pf hpf => ?_⟩)))
  obtain ⟨f1, f2⟩ := hB.beside hpf
  have hB0 : Bx (updM M pf (some (.lst []))) p c := hB.put f1 f2
  refine wss_cons (ws_for PassesOwn.never rfl (Qi := fun es C' M0 => ∃ m : Nat, es = rngD 0 m ∧ 1 ≤ m ∧ m ≤ 4 ∧ Bx M0 p c ∧ Els (updM M pf (some (.lst []))) M0 p c ∧ ∀ M1, C' M1) (wi_rng1 B.range (wa_cons (we_dr1 0 C1 hr rfl ee_int hB0 (by decide) (by decide) fun r M1 hr1 hB1 hE1 => wa_nil ⟨((1 + r : Nat) : Int), rfl, by omega, by omega, 1 + r, by rw [Int.toNat_natCast], by omega, by omega, hB1, hE1, fun _ => trivial⟩))) fun es C' M0 ⟨m, e1, m1, m4, hB1, hE1, hC⟩ => ?_)
  subst e1
  have hpf1 : M0 pf = some (.lst []) := by rw [hE1 pf f1 f2]; exact updM_same
  have hch1 : Ch M M0 [p, c] [p, c] := ⟨fun x hx hx2 => by rw [hE1 x (fun z => hx2 (by rw [z]; simp)) (fun z => hx2 (by rw [z]; simp))]; exact updM_ne fun z => hx (by rw [z]; exact hpf), fun x h => .inl h⟩
  refine ⟨fun i sg1 M1 => Fg [some (.ptr p), some (.bl wh), some (.ptr pf), none, none, none] sg1 ∧ ∃ fs : List Ft, fs.length = i ∧ (∀ g ∈ fs, FtS g) ∧ M1 pf = some (.lst (fs.map ftD)) ∧ Bx M1 p c ∧ Ch M M1 [p, c] [p, c], ⟨⟨rfl, rfl, rfl, trivial⟩, [], rfl, fun g h => (by cases h), hpf1, hB1, hch1⟩, fun i sg1 M1 _ => hC _, fun i d sg1 M1 he ⟨hg, fs, fl, fok, gpf, gB, gch⟩ => ?_, fun sg1 M1 ⟨hg, fs, fl, fok, gpf, gB, gch⟩ => wss_fg hg ?_⟩
  · obtain ⟨hi, rfl⟩ := rngD_at he
    refine ⟨_, _, wg_name 3 nd, wss_fg (fg_set hg 3 _) ?_⟩
    refine wss_cons (ws_set 4 nd (we_lstM (wa_nil ⟨Nat.zero_le _, fun pk hpk => ?_⟩)))
    obtain ⟨k1, k2⟩ := gB.beside hpk
    have k3 : pk ≠ pf := fun z => by rw [z, gpf] at hpk; cases hpk
    have hpkM : M pk = none := by
      cases z : M pk with
      | none => rfl
      | some u =>
        have := (gch.at z (by simp [k1, k2])).1
        rw [this] at hpk; cases hpk
    have gB2 : Bx (updM M1 pk (some (.lst []))) p c := gB.put k1 k2
    refine wss_cons (ws_for PassesOwn.never rfl (Qi := fun es C2 M2 => ∃ m : Nat, es = rngD 0 m ∧ m ≤ 2 ∧ Bx M2 p c ∧ Els (updM M1 pk (some (.lst []))) M2 p c ∧ ∀ M1, C2 M1) (wi_rng1 B.range (wa_cons (we_ix ix_list (Qa := fun d M2 => d = .lst [.int 0, .int 1, .int 1, .int 2] ∧ M2 = updM M1 pk (some (.lst []))) (EE.to (ee_lst (ea_cons ee_int (ea_cons ee_int (ea_cons ee_int (ea_cons ee_int ea_nil))))) ⟨rfl, rfl⟩) fun x M2 ⟨e1, e2⟩ => ?_))) fun es C2 M2 ⟨n, e1, n2, hB2, hE2, hC2⟩ => ?_)
    · subst e1; subst e2
      refine we_dr 0 C1 hr rfl ee_int gB2 (by decide) (by decide) fun r M2 hr1 hB2 hE2 => ?_
      have : ∃ n : Nat, n ≤ 2 ∧ ([D.int 0, .int 1, .int 1, .int 2])[r]? = some (.int (n : Int)) := by
        have : r < 4 := by omega
        match r, this with
        | 0, _ => exact ⟨0, by decide, rfl⟩
        | 1, _ => exact ⟨1, by decide, rfl⟩
        | 2, _ => exact ⟨1, by decide, rfl⟩
        | 3, _ => exact ⟨2, by decide, rfl⟩
      obtain ⟨n, n2, hn⟩ := this
      exact od_ixL (.inl rfl) (atI_nat hn) (wa_nil ⟨(n : Int), rfl, by omega, by omega, n, by rw [Int.toNat_natCast], n2, hB2, hE2, fun _ => trivial⟩)
    subst e1
    have hpk2 : M2 pk = some (.lst []) := by rw [hE2 pk k1 k2]; exact updM_same
    have hpf2 : M2 pf = some (.lst (fs.map ftD)) := by rw [hE2 pf f1 f2, updM_ne k3.symm]; exact gpf
    have hch2 : Ch M M2 [p, c] [p, c] := ⟨fun x hx hx2 => by rw [hE2 x (fun z => hx2 (by rw [z]; simp)) (fun z => hx2 (by rw [z]; simp)), updM_ne fun z => hx (by rw [z]; exact hpkM)]; exact gch.same x hx hx2, fun x h => .inl h⟩
    refine ⟨fun j sg2 M3 => Fg [some (.ptr p), some (.bl wh), some (.ptr pf), none, some (.ptr pk), none] sg2 ∧ ∃ cs : Ft, cs.length = j ∧ (∀ g ∈ cs, CpS g) ∧ M3 pk = some (.lst (cs.map cpD)) ∧ M3 pf = some (.lst (fs.map ftD)) ∧ Bx M3 p c ∧ Ch M M3 [p, c] [p, c], ⟨⟨rfl, rfl, rfl, rfl, trivial⟩, [], rfl, fun g h => (by cases h), hpk2, hpf2, hB2, hch2⟩, fun j sg2 M3 _ => hC2 _, fun j d2 sg2 M3 he2 ⟨hg2, cs, cl, cok, lpk, lpf, lB, lch⟩ => ?_, fun sg2 M3 ⟨hg2, cs, cl, cok, lpk, lpf, lB, lch⟩ => wss_fg hg2 ?_⟩
    · obtain ⟨hj, rfl⟩ := rngD_at he2
      refine ⟨_, _, wg_name 5 nd, wss_fg (fg_set hg2 5 _) ?_⟩
      refine wss_one (ws_expr (we_bm PySem.F.plainAttrs_list PySem.F.slot_list_append PySem.F.type_list_append mt_append (EE.to (ee_v 4 rfl) ⟨ty_lst (.inr ⟨pk, rfl, lpk⟩), wa_cons (we_tup (wa_cons (we_dr1 0 C1 hr rfl ee_int lB (by decide) (by decide) fun d5 M4 h5 hB4 hE4 => ?_)))⟩)))
      -- whatever the hurt is
      have fin : ∀ (h : Option (Int × Int)) (M5 : Mem), (∀ p, h = some p → 0 ≤ p.1 ∧ p.1 ≤ 9 ∧ 1 ≤ p.2 ∧ p.2 ≤ 255) → Bx M5 p c → Els M3 M5 p c → MtD K rAppend (.ptr pk) [.tup [.int ((1 + d5 : Nat) : Int), hD h]] M5 fun _ M6 => Fg [some (.ptr p), some (.bl wh), some (.ptr pf), none, some (.ptr pk), none] ([some (.ptr p), some (.bl wh), some (.ptr pf), none, some (.ptr pk), none].set 5 (some (.int (0 + (j : Int))))) ∧ ∃ cs : Ft, cs.length = j + 1 ∧ (∀ g ∈ cs, CpS g) ∧ M6 pk = some (.lst (cs.map cpD)) ∧ M6 pf = some (.lst (fs.map ftD)) ∧ Bx M6 p c ∧ Ch M M6 [p, c] [p, c] := fun h M5 hh hB5 hE5 => by
        have g1 : M5 pk = some (.lst (cs.map cpD)) := by rw [hE5 pk k1 k2]; exact lpk
        have g2 : M5 pf = some (.lst (fs.map ftD)) := by rw [hE5 pf f1 f2]; exact lpf
        refine md_append g1 (lt1000 (by rw [List.length_map]; omega)) ⟨⟨rfl, rfl, rfl, rfl, trivial⟩, cs ++ [(((1 + d5 : Nat) : Int), h)], by rw [List.length_append, cl]; rfl, fun g hg => ?_, ?_, ?_, hB5.put k1 k2, ?_⟩
        · rcases List.mem_append.mp hg with hg | hg
          · exact cok g hg
          · rw [List.mem_singleton.mp hg]
            exact ⟨by show 1 ≤ ((1 + d5 : Nat) : Int); omega, by show ((1 + d5 : Nat) : Int) ≤ 5; omega, hh⟩
        · rw [updM_same, List.map_append]; rfl
        · rw [updM_ne k3.symm]; exact g2
        · refine Ch.putN ⟨fun x hx hx2 => ?_, fun x h => .inl h⟩ hpkM
          rw [hE5 x (fun z => hx2 (by rw [z]; simp)) (fun z => hx2 (by rw [z]; simp))]
          exact lch.same x hx hx2
      refine wa_cons (we_if ?_)
      refine wt_cmp op_eq (Qa := fun d M5 => ∃ r : Nat, d = .int (r : Int) ∧ Bx M5 p c ∧ Els M3 M5 p c) ?_ fun x M5 ⟨r, e1, hB5, hE5⟩ => ?_
      · exact we_dr 0 C1 hr rfl ee_int hB4 (by decide) (by decide) fun r M5 _ hB5 hE5 => ⟨r, rfl, hB5, hE4.trans hE5⟩
      subst e1
      refine EE.to ee_int (od_eqI ⟨_, rfl, fun _ => ?_, fun _ => ?_⟩)
      · refine we_tup (wa_cons (we_dr 0 C1 hr rfl ee_int hB5 (by decide) (by decide) fun a M6 ha hB6 hE6 => wa_cons (we_dr1 0 C1 hr rfl ee_int hB6 (by decide) (by decide) fun b M7 hb hB7 hE7 => wa_nil ⟨Nat.le_of_lt (lt1000 (show 2 < 1000 by decide)), wa_nil ⟨Nat.le_of_lt (lt1000 (show 2 < 1000 by decide)), wa_nil (fin (some ((a : Int), ((1 + b : Nat) : Int))) M7 (fun q e => ?_) hB7 ((hE5.trans hE6).trans hE7))⟩⟩)))
        cases e
        exact ⟨by show (0 : Int) ≤ (a : Int); omega, by show (a : Int) ≤ 9; omega, by show 1 ≤ ((1 + b : Nat) : Int); omega, by show ((1 + b : Nat) : Int) ≤ 255; omega⟩
      · exact EE.to ee_non (wa_nil ⟨Nat.le_of_lt (lt1000 (show 2 < 1000 by decide)), wa_nil (fin none M5 (fun q e => by cases e) hB5 hE5)⟩)
    · rw [rngD_len] at cl
      refine wss_one (ws_expr (we_bm PySem.F.plainAttrs_list PySem.F.slot_list_append PySem.F.type_list_append mt_append (EE.to (ee_v 2 rfl) ⟨ty_lst (.inr ⟨pf, rfl, lpf⟩), wa_cons (EE.to (ee_ct call_tuple_of B.tuple bi_tuple (ea_cons (ee_v 4 rfl) ea_nil) (cd_tupL (.inr ⟨pk, rfl, lpk⟩) ⟨rfl, rfl⟩)) (wa_nil (md_append lpf (lt1000 (by rw [List.length_map]; omega)) ⟨⟨rfl, rfl, rfl, trivial⟩, fs ++ [cs], by rw [List.length_append, fl]; rfl, fun g hg => ?_, by rw [updM_same, List.map_append]; rfl, lB.put f1 f2, Ch.putN lch hpf⟩)))⟩)))
      rcases List.mem_append.mp hg with hg | hg
      · exact fok g hg
      · rw [List.mem_singleton.mp hg]
        exact ⟨by omega, cok⟩
  · rw [rngD_len] at fl
    refine wss_one (ws_ret (we_op op_catA (Qa := fun d M2 => d = scD fs ∧ M2 = M1) (EE.to (ee_ct call_tuple_of B.tuple bi_tuple (ea_cons (ee_v 2 rfl) ea_nil) (cd_tupL (.inr ⟨pf, rfl, gpf⟩) ⟨rfl, rfl⟩)) ⟨rfl, rfl⟩) fun x M2 ⟨e1, e2⟩ => ?_))
    subst e1; subst e2
    have zz : (fs.map ftD).length ≤ 4 := by rw [List.length_map]; omega
    cases wh with
    | false =>
      refine we_if (ET.to (et_val (ee_v 1 (d := .bl false) rfl)) ⟨fun h => Bool.noConfusion h, fun _ => EE.to (ee_tup ea_nil) (od_catT (Nat.le_of_lt (lt1000 (by show _ + 0 < _; omega))) ?_)⟩)
      rw [List.append_nil]
      exact q fs _ ⟨by omega, by omega, fun g hg => (fok g hg).1, fun g hg => (fok g hg).2⟩ (fun h => Bool.noConfusion h) gB gch
    | true =>
      refine we_if (ET.to (et_val (ee_v 1 (d := .bl true) rfl)) ⟨fun _ => ?_, fun h => Bool.noConfusion h⟩)
      refine we_tup (wa_cons (we_tup (wa_cons (we_tup (wa_cons (we_dr1 0 C1 hr rfl ee_int gB (by decide) (by decide) fun r M3 h3 hB3 hE3 => wa_cons (EE.to ee_non (wa_nil ⟨Nat.le_of_lt (lt1000 (show 2 < 1000 by decide)), wa_nil ⟨Nat.le_of_lt (lt1000 (show 1 < 1000 by decide)), wa_nil ⟨Nat.le_of_lt (lt1000 (show 1 < 1000 by decide)), od_catT (Nat.le_of_lt (lt1000 (by show _ + 1 < _; omega))) ?_⟩⟩⟩))))))))
      have e : D.tup (fs.map ftD ++ [.tup [.tup [.int ((1 + r : Nat) : Int), .non]]]) = scD (fs ++ [[(((1 + r : Nat) : Int), none)]]) := by
        unfold scD
        rw [List.map_append]
        rfl
      rw [e]
      refine q _ _ ⟨by rw [List.length_append]; exact Nat.succ_pos _, by rw [List.length_append]; show _ + 1 ≤ 5; omega, fun g hg => ?_, fun g hg => ?_⟩ (fun _ => ?_) hB3 ⟨fun x hx hx2 => by rw [hE3 x (fun z => hx2 (by rw [z]; simp)) (fun z => hx2 (by rw [z]; simp))]; exact gch.same x hx hx2, fun x h => .inl h⟩
      · rcases List.mem_append.mp hg with hg | hg
        · exact (fok g hg).1
        · rw [List.mem_singleton.mp hg]; exact (show 1 ≤ 2 by decide)
      · rcases List.mem_append.mp hg with hg | hg
        · exact (fok g hg).2
        · rw [List.mem_singleton.mp hg]
          intro c hc
          rw [List.mem_singleton.mp hc]
          exact ⟨by show 1 ≤ ((1 + r : Nat) : Int); omega, by show ((1 + r : Nat) : Int) ≤ 5; omega, fun q e => by cases e⟩
      · unfold starvedB
        rw [List.any_append]
        show (!(_ || (true || false))) = false
        rw [Bool.or_comm]
        rfl
def ByOk (data : List Int) : Prop := ∀ x ∈ data, 0 ≤ x ∧ x < 256
def HuOk (h : Option (Int × Int)) : Prop := ∀ p, h = some p → 0 ≤ p.1 ∧ p.1 ≤ 9999 ∧ 1 ≤ p.2 ∧ p.2 ≤ 255
def S_lhurt : SpD := fun ds M Q => ∃ (data : List Int) (h : Option (Int × Int)), ds = [iD data, hD h] ∧ data.length ≤ 900 ∧ ByOk data ∧ HuOk h ∧ Q (iD (hurtF data h)) M
theorem d_lhurt (F : Df K mg "_law_hurt" s_law_hurt ["data", "hurt"]) (B : Blt mg) : Cal P w K mg base 1 "_law_hurt" 2 S_lhurt := by
  refine dfn' F sc_law_hurt rfl fun f cdv A outer s H E ds M Q hr hl hs => ?_
  obtain ⟨data, h, rfl, hz, hb, hh, q⟩ := hs
  have nd := sc_law_hurt.nd
  have ln : ((data.map D.int).length : Int) = (data.length : Int) := by rw [List.length_map]
  match h, q, hh with
  | none, q, _ =>
    exact wss_cons (ws_ifE (k := true) (ww_pt (ew_or (p := true) (q := true) (ET.is (et_cmp op_isN (ee_v 1 rfl) ee_non (od_isN ⟨_, rfl, rfl, rfl⟩)) rfl) fun h => Bool.noConfusion h)) (fun _ => wss_one (ws_ret (EE.to (ee_v 0 rfl) q))) fun h => Bool.noConfusion h)
  | some (a, b), q, hh =>
    obtain ⟨a0, a1, b0, b1⟩ := hh (a, b) rfl
    have a0 : 0 ≤ a := a0
    have a1 : a ≤ 9999 := a1
    have b0 : 1 ≤ b := b0
    have b1 : b ≤ 255 := b1
    refine wss_cons (ws_ifE (k := decide (data = [])) (ww_pt (ew_or (p := false) (q := decide (data = [])) (ET.is (et_cmp op_isN (ee_v 1 rfl) ee_non (od_isN ⟨_, rfl, rfl, rfl⟩)) rfl) fun _ => ww_or1 (ET.is (et_eqI (ee_cb call_len B.len bi_len (ea_cons (ee_v 0 (d := iD data) rfl) ea_nil) (cd_lenT ⟨rfl, rfl⟩)) ee_int) ?_))) (fun e => ?_) fun e => wss_nil ?_)
    · rw [ln]
      cases data with
      | nil => rfl
      | cons x l => rw [decide_eq_false (by rw [List.length_cons]; omega), decide_eq_false (fun z => nomatch z)]
    · have e := of_decide_eq_true e
      subst e
      exact wss_one (ws_ret (EE.to (ee_v 0 rfl) q))
    have e := of_decide_eq_false e
    have h0 : 0 < data.length := List.length_pos_iff.mpr e
    have p0 := Int.emod_nonneg a (show (data.length : Int) ≠ 0 by omega)
    have p1 := Int.emod_lt_of_pos a (show (0 : Int) < data.length by omega)
    have q : Q (iD (if data = [] then [] else data.take (a % (data.length : Int)).toNat ++ [(data.getD (a % (data.length : Int)).toNat 0 + b) % 256] ++ data.drop ((a % (data.length : Int)).toNat + 1))) M := q
    rw [if_neg e] at q
    have dd : a - a / (data.length : Int) * (data.length : Int) = a % (data.length : Int) := by rw [Int.emod_def, Int.mul_comm]
    have d0 : 0 ≤ a / (data.length : Int) := Int.ediv_nonneg a0 (by omega)
    have d1 : a / (data.length : Int) ≤ a := Int.ediv_le_self _ a0
    refine wss_cons (ws_set 2 nd (EE.to (d := .int (a % (data.length : Int))) (EE.is (ee_sub (ee_ix ix_tup (ee_v 1 rfl) ee_int (od_ixT (d := .int a) rfl ⟨rfl, rfl⟩)) (ee_mul (ee_fdiv (ee_ix ix_tup (ee_v 1 rfl) ee_int (od_ixT (d := .int a) rfl ⟨rfl, rfl⟩)) (EE.is (d' := .int (data.length : Int)) (ee_cb call_len B.len bi_len (ea_cons (ee_v 0 (d := iD data) rfl) ea_nil) (cd_lenT ⟨rfl, rfl⟩)) (congrArg D.int ln)) ⟨by omega, by omega⟩) (EE.is (d' := .int (data.length : Int)) (ee_cb call_len B.len bi_len (ea_cons (ee_v 0 (d := iD data) rfl) ea_nil) (cd_lenT ⟨rfl, rfl⟩)) (congrArg D.int ln)) (.inl ⟨by omega, by omega⟩))) (congrArg D.int dd)) ?_))
    generalize a % (data.length : Int) = pl at p0 p1 q ⊢
    obtain ⟨j, rfl⟩ : ∃ j : Nat, pl = (j : Int) := ⟨pl.toNat, by omega⟩
    rw [Int.toNat_natCast] at q
    have hj : j < data.length := by omega
    have hx := hb (data.getD j 0) (by rw [List.getD_eq_getElem?_getD, List.getElem?_eq_getElem hj]; exact List.getElem_mem hj)
    have c1 : cutD data none (some (j : Int)) = data.take j := cut_toN data j
    have c2 : cutD data (some ((j : Int) + 1)) none = data.drop (j + 1) := by rw [show (j : Int) + 1 = ((j + 1 : Nat) : Int) by omega]; exact cut_fromN data (j + 1)
    refine wss_cons (ws_set 3 nd (EE.to (ee_add (ee_ix ix_tup (ee_v 0 (d := iD data) rfl) (ee_v 2 rfl) (od_ixT (d := .int (data.getD j 0)) (atI_nat (by rw [List.getElem?_map, List.getD_eq_getElem?_getD, List.getElem?_eq_getElem hj]; rfl)) ⟨rfl, rfl⟩)) (ee_ix ix_tup (ee_v 1 rfl) ee_int (od_ixT (d := .int b) rfl ⟨rfl, rfl⟩))) ?_))
    generalize data.getD j 0 = x at hx q ⊢
    refine wss_one (ws_ret (EE.to (EE.is (ee_op op_catA (ee_op op_catA (EE.is (ee_sl sl_tupA (ee_v 0 (d := iD data) rfl) eo_none (eo_some (ee_v 2 rfl)) (sd_tup ⟨rfl, rfl⟩)) ((cut_iD _ _ _).trans (congrArg iD c1))) (ee_tup (ea_cons (ee_if (k := decide (x + b < 256)) (x := .int ((x + b) % 256)) (et_lt (ee_v 3 rfl) ee_int) (fun e => EE.is (ee_v 3 rfl) (congrArg D.int (by have := of_decide_eq_true e; omega))) fun e => EE.is (ee_sub (ee_v 3 rfl) ee_int) (congrArg D.int (by have := of_decide_eq_false e; omega))) ea_nil)) (od_catT (Nat.le_trans (show _ ≤ 2000 by rw [List.length_map, List.length_take]; show _ + 1 ≤ _; omega) (by decide)) ⟨rfl, rfl⟩)) (EE.is (ee_sl sl_tupA (ee_v 0 (d := iD data) rfl) (eo_some (ee_add (ee_v 2 rfl) ee_int)) eo_none (sd_tup ⟨rfl, rfl⟩)) ((cut_iD _ _ _).trans (congrArg iD c2))) (od_catT (Nat.le_trans (show _ ≤ 2000 by rw [List.length_append, List.length_map, List.length_map, List.length_take, List.length_drop]; show _ + 1 + _ ≤ _; omega) (by decide)) ⟨rfl, rfl⟩)) ?_) q))
    show D.tup ((data.take j).map .int ++ [D.int ((x + b) % 256)] ++ (data.drop (j + 1)).map .int) = iD _
    unfold iD
    rw [List.map_append, List.map_append]
    rfl
end
end K42
set_option Elab.async false
set_option linter.all false
set_option maxRecDepth 100000
set_option maxHeartbeats 4000000
namespace K42
open PySem L2 PyProof.Rows DL
/-! ### lists of draws; the course's state -/
def DR (n : Nat) (m : Int) (p c : Addr) (M : Mem) (acc : List D) (M1 : Mem) : Prop := ∃ ns : List Int, acc = ns.map .int ∧ ns.length = n ∧ (∀ x ∈ ns, 0 ≤ x ∧ x < m) ∧ Bx M1 p c ∧ Els M M1 p c
theorem draws_lc {X : Cx} {scope : Scope} {elt : Expr} {sg : Sg} {M : Mem} {n : Nat} {m : Int} {p c : Addr} {px : Pos} {x : Str} (kk : Nat) (hN : X.N.Nodup) (hkk : X.N[kk]? = some x) (hn : n ≤ 100) (hB : Bx M p c) (helt : ∀ v M1, Bx M1 p c → Blk X scope fun Y => WE Y elt ((wipeD sg [kk]).set kk (some v)) M1 (fun d M2 => ∃ r : Nat, d = .int (r : Int) ∧ (r : Int) < m ∧ Bx M2 p c ∧ Els M1 M2 p c))
    (hk : scope.names.lookup x = some .local ∨ scope.names.lookup x = some .cell) : ∀ (ds : List D) (C : Mem → Prop) (M0 : Mem), (ds = rngD 0 n ∧ M0 = M ∧ ∀ M1 : Mem, C M1) →
    ∃ Pv : Nat → List D → Mem → Prop, Pv 0 [] M0 ∧ (∀ i acc M1, Pv i acc M1 → C M1 ∧ acc.length < sizeLine) ∧ (∀ i d acc M1, ds[i]? = some d → Pv i acc M1 → LcTurn X scope [kk] (.Name x px) elt [] sg d M1 (fun y M3 => Pv (i + 1) (acc ++ [y]) M3) (fun M3 => Pv (i + 1) acc M3)) ∧
      ∀ acc M1, Pv ds.length acc M1 → DR n m p c M acc M1 := by
  intro ds C M0 ⟨e1, e2, hC⟩
  subst e1; subst e2
  refine ⟨fun i acc M1 => i ≤ n ∧ DR i m p c M0 acc M1, ⟨Nat.zero_le _, [], rfl, rfl, fun x hx => (by cases hx), hB, Els.refl _ _ _⟩, fun i acc M1 ⟨hi, ws, e, hl, _⟩ => ⟨hC _, by rw [e, List.length_map]; exact lt1000 (by omega)⟩, fun i d acc M1 hd2 ⟨hi, ws, e, hl, hx, hB1, hE1⟩ => ?_, fun acc M1 ⟨hi, h⟩ => by rw [rngD_len] at h; exact h⟩
  obtain ⟨hj, rfl⟩ := rngD_at hd2
  refine turn1 kk (List.mem_singleton.mpr rfl) hN hk hkk (fun b M2 => b = true ∧ M2 = M1) (fun _ _ _ _ _ => ⟨rfl, rfl⟩) (fun M2 ⟨_, e2⟩ => ?_) (fun M2 ⟨e, _⟩ => Bool.noConfusion e)
  subst e2
  intro s H C cl fp
  refine (helt _ _ hB1 s H C cl fp).imp fun d M3 ⟨r, e3, r1, hB3, hE3⟩ => ?_
  subst e3; subst e
  refine ⟨by omega, ws ++ [(r : Int)], ?_, by rw [List.length_append, hl]; rfl, fun x hx2 => ?_, hB3, hE1.trans hE3⟩
  · rw [List.map_append]; rfl
  · rcases List.mem_append.mp hx2 with hx2 | hx2
    · exact hx x hx2
    · rw [List.mem_singleton.mp hx2]; exact ⟨by omega, r1⟩
theorem draws_to {X : Cx} {scope : Scope} {elt : Expr} {sg : Sg} {M : Mem} {n : Nat} {m : Int} {p c : Addr} {px : Pos} {x : Str} {Q0 : List D → Mem → Prop} {ds : List D} {C : Mem → Prop} {M0 : Mem} (kk : Nat) (h : ds = rngD 0 n ∧ M0 = M ∧ ∀ M1 : Mem, C M1) (hn : n ≤ 100) (hB : Bx M p c) (q : ∀ acc M1, DR n m p c M acc M1 → Q0 acc M1) (hN : X.N.Nodup) (hkk : X.N[kk]? = some x) (hk : scope.names.lookup x = some .local ∨ scope.names.lookup x = some .cell) (helt : ∀ v M1, Bx M1 p c → Blk X scope fun Y => WE Y elt ((wipeD sg [kk]).set kk (some v)) M1 (fun d M2 => ∃ r : Nat, d = .int (r : Int) ∧ (r : Int) < m ∧ Bx M2 p c ∧ Els M1 M2 p c)) :
    ∃ Pv : Nat → List D → Mem → Prop, Pv 0 [] M0 ∧ (∀ i acc M1, Pv i acc M1 → C M1 ∧ acc.length < sizeLine) ∧ (∀ i d acc M1, ds[i]? = some d → Pv i acc M1 → LcTurn X scope [kk] (.Name x px) elt [] sg d M1 (fun y M3 => Pv (i + 1) (acc ++ [y]) M3) (fun M3 => Pv (i + 1) acc M3)) ∧
      ∀ acc M1, Pv ds.length acc M1 → Q0 acc M1 := by
  obtain ⟨Pv, x1, x2, x3, x4⟩ := draws_lc (m := m) (px := px) kk hN hkk hn hB helt hk ds C M0 h
  exact ⟨Pv, x1, x2, x3, fun acc M1 e => q acc M1 (x4 acc M1 e)⟩
/-- the course: the line, and the law's own lists -/
structure Crs (M : Mem) (C a p c pcp pct ptd : Addr) (own : List Addr) (sd cd : DT) (uw : List Rw) (i : Nat) : Prop where
  line : LineAt M C a own sd cd uw
  bx : Bx M p c
  cp : M pcp = some (.lst (uw.map rwD))
  ct : M pct = some (.dit cd)
  td : M ptd = some (.dit sd)
  n1 : ∀ x ∈ own, x ∉ [p, c, pcp, pct, ptd]
  n2 : pcp ≠ p ∧ pcp ≠ c ∧ pct ≠ ptd
  cdo : CdOk cd
  cdl : cd.length ≤ i
  uwl : uw.length ≤ 3 * i
  rows : ∀ r ∈ uw, r.data.length ≤ 3
section
variable {M M' : Mem} {C a p c pcp pct ptd : Addr} {own own' : List Addr} {sd cd cd' : DT} {uw uw' : List Rw} {i : Nat}
theorem Crs.kinds (h : Crs M C a p c pcp pct ptd own sd cd uw i) : pct ≠ p ∧ pct ≠ c ∧ ptd ≠ p ∧ ptd ≠ c ∧ pcp ≠ pct ∧ pcp ≠ ptd := by
  obtain ⟨cs, x, y, h1, h2, _⟩ := h.bx
  have h3 := h.ct
  have h4 := h.td
  have h5 := h.cp
  refine ⟨fun z => ?_, fun z => ?_, fun z => ?_, fun z => ?_, fun z => ?_, fun z => ?_⟩
  · rw [z, h1] at h3; cases h3
  · rw [z, h2] at h3; cases h3
  · rw [z, h1] at h4; cases h4
  · rw [z, h2] at h4; cases h4
  · rw [z, h3] at h5; cases h5
  · rw [z, h4] at h5; cases h5
theorem Crs.off (h : Crs M C a p c pcp pct ptd own sd cd uw i) : p ∉ own ∧ c ∉ own ∧ pcp ∉ own ∧ pct ∉ own ∧ ptd ∉ own :=
  ⟨fun z => h.n1 _ z (by simp), fun z => h.n1 _ z (by simp), fun z => h.n1 _ z (by simp), fun z => h.n1 _ z (by simp), fun z => h.n1 _ z (by simp)⟩
theorem Crs.els (h : Crs M C a p c pcp pct ptd own sd cd uw i) (hB : Bx M' p c) (hE : Els M M' p c) : Crs M' C a p c pcp pct ptd own sd cd uw i := by
  obtain ⟨k1, k2, k3, k4, _⟩ := h.kinds
  obtain ⟨o1, o2, _⟩ := h.off
  exact ⟨(h.line.ch (Els.ch hE) fun x hx z => by simp at z; rcases z with z | z; exact o1 (by rw [← z]; exact hx); exact o2 (by rw [← z]; exact hx)).1, hB, by rw [hE pcp h.n2.1 h.n2.2.1]; exact h.cp, by rw [hE pct k1 k2]; exact h.ct, by rw [hE ptd k3 k4]; exact h.td, h.n1, h.n2, h.cdo, h.cdl, h.uwl, h.rows⟩
theorem Crs.up (h : Crs M C a p c pcp pct ptd own sd cd uw i) : Crs M C a p c pcp pct ptd own sd cd uw (i + 1) := ⟨h.line, h.bx, h.cp, h.ct, h.td, h.n1, h.n2, h.cdo, Nat.le_succ_of_le h.cdl, Nat.le_trans h.uwl (by omega), h.rows⟩
end
theorem wf_ft {f : Ft} (h : f.length ≤ 900) : wf 900 4 (ftD f) = true := by
  refine tup_wf (by rw [List.length_map]; exact h) fun d hd => ?_
  obtain ⟨c, _, rfl⟩ := List.mem_map.mp hd
  obtain ⟨x, y⟩ := c
  cases y with
  | none => rfl
  | some q => rfl
theorem wf_iD {data : List Int} {n : Nat} (h : data.length ≤ 900) : wf 900 (n + 2) (iD data) = true := wf_tI (n := n) h
theorem wf_out {rs : List Rw} (h : rs.length ≤ 900) (h2 : ∀ r ∈ rs, r.data.length ≤ 900) : wf 900 4 (.lst (rs.map outR)) = true := by
  have : ∀ d ∈ rs.map outR, wf 900 3 d = true := fun d hd => by
    obtain ⟨r, hr, rfl⟩ := List.mem_map.mp hd
    refine tup_wf (by show 2 ≤ 900; decide) fun x hx => ?_
    simp only [List.mem_cons, List.not_mem_nil, or_false] at hx
    rcases hx with rfl | rfl
    · rfl
    · exact wf_iD (n := 0) (h2 r hr)
  show (decide ((rs.map outR).length ≤ 900) && (rs.map outR).all (wf 900 3)) = true
  rw [decide_eq_true (by rw [List.length_map]; exact h)]
  exact List.all_eq_true.mpr this
theorem wf_ints {l : List Int} (h : l.length ≤ 900) : wf 900 4 (.lst (l.map .int)) = true := by
  show (decide ((l.map D.int).length ≤ 900) && (l.map D.int).all (wf 900 3)) = true
  rw [decide_eq_true (by rw [List.length_map]; exact h)]
  refine List.all_eq_true.mpr fun d hd => ?_
  obtain ⟨x, _, rfl⟩ := List.mem_map.mp hd
  rfl
theorem eqD_self (d : D) : eqD d d = true := eqD_iff.mpr rfl
end K42
set_option Elab.async false
set_option linter.all false
set_option maxRecDepth 100000
set_option maxHeartbeats 4000000
namespace K42
open PySem L2 PyProof.Rows DL
/-! ### _law_course: a course of sendings and askings -/
structure CC (P : Program) (w : World) (K : PySem.W.Frag) (mg : Str → Option Value) (base : Heap) (C : Addr) : Prop where
  B : Blt mg
  B2 : Bl2 mg
  t : HCf K C lF
  draw : Cal P w K mg base 2 "_law_draw" 2 S_draw
  same : Cal P w K mg base 4 "_law_same" 2 (S_same 4)
  fate : Cal P w K mg base 1 "fate_of" 2 S_fateof
  hurt : Cal P w K mg base 1 "_law_hurt" 2 S_lhurt
  make : CalI P w K mg base 1 "Line" C 2 (S_linit C)
  cnt : CalM P w K mg base 1 C "count" 2 (S_lcnt C)
  send : CalM P w K mg base 2 C "send" 4 (S_lsend C)
  arr : CalM P w K mg base 1 C "arrived" 3 (S_larr C)
  und : CalM P w K mg base 1 C "under_way" 2 (S_lund C)
abbrev NC : List Str := ["box", "scripts", "line", "tick", "copies", "counts", "told", "step", "end", "link", "data", "k", "script", "number", "fate", "due", "row", "one"]
abbrev XC (P : Program) (w : World) (K : PySem.W.Frag) (mg : Str → Option Value) (base : Heap) (f : Addr) (cdv : Value) (A : Around) (outer : List Env) (s : Shared) (H : Hp) (E : XK) : Cx := (cxOf CX0 P w K mg base NC "_law_course" (defScope s_law_course) f cdv A outer s H E).nox
abbrev crsB : List Stmt := forBody ((defBody s_law_course).getD 2 (.Pass ⟨0, 0, 0, 0⟩))
def ifThen : Stmt → List Stmt
  | .If _ b _ _ => b
  | _ => []
def ifElse : Stmt → List Stmt
  | .If _ _ b _ => b
  | _ => []
section
variable {P : Program} {w : World} {K : PySem.W.Frag} {mg : Str → Option Value} {base : Heap} {C : Addr}
/-- what the turn's names hold -/
abbrev sgC (p : Addr) (S : D) (a : Addr) (tick : Int) (pcp pct ptd : Addr) : Sg := [some (.ptr p), some S, some (.ptr a), some (.int tick), some (.ptr pcp), some (.ptr pct), some (.ptr ptd), none, none, none, none, none, none, none, none, none, none, none]
/-- the last question of a turn: how many are under way -/
theorem c_last {f : Addr} {cdv : Value} {A : Around} {outer : List Env} {s : Shared} {H : Hp} {E : XK} {S : D} {tick : Int} {M : Mem} {a p c pcp pct ptd : Addr} {own : List Addr} {sd cd : DT} {uw : List Rw} {i : Nat} {E' : EndsD} (L : CC P w K mg base C) (hr : Room 4 (XC P w K mg base f cdv A outer s H E).A) (hi : i ≤ 40) (h : Crs M C a p c pcp pct ptd own sd cd uw i) (q : E'.nx (sgC p S a tick pcp pct ptd) M) :
    WSs (XC P w K mg base f cdv A outer s H E) (crsB.drop 2) (sgC p S a tick pcp pct ptd) M E' := by
  have nd := sc_law_course.nd
  have hu := h.uwl
  obtain ⟨ps, pc, pu, ow, g1, g2, g3, g4, g5⟩ := h.line.ex
  have hr1 : Room 1 (XC P w K mg base f cdv A outer s H E).A := hr.mono (by omega)
  let und : List Int := (List.range 3).map fun (e : Nat) => ((uw.filter fun r => decide (r.b = (e : Int))).length : Int)
  have rD : (rngD 0 3).map (fun d => D.int ((uw.filter fun r => decide (r.b = intOf d)).length : Int)) = und.map .int := by
    show (List.map _ (List.map _ (List.range 3))) = _
    rw [List.map_map, List.map_map]
    refine List.map_congr_left fun e _ => ?_
    show D.int ((uw.filter fun r => decide (r.b = intOf (.int (0 + (e : Int))))).length : Int) = D.int ((uw.filter fun r => decide (r.b = (e : Int))).length : Int)
    rw [Int.zero_add]
    rfl
  refine wss_one (ws_ifE (k := false) (ET.is (et_not (et_val (we_call L.same hr (EA.to (ds := [.lst (und.map .int), .lst (und.map .int)]) (ea_cons (EE.is (ee_lc1 17 (ds := rngD 0 3) (fun d => D.int ((uw.filter fun r => decide (r.b = intOf d)).length : Int)) rfl nd (wi_rng1 L.B.range (EA.to (ea_cons ee_int ea_nil) ⟨3, rfl, by decide, by decide, rfl, rfl, trivial⟩)) (lt1000 (by rw [rngD_len]; decide)) fun j d hd => ?_) (congrArg D.lst rD)) (ea_cons (EE.is (ee_lc1 17 (ds := rngD 0 3) (fun d => D.int ((uw.filter fun r => decide (r.b = intOf d)).length : Int)) rfl nd (wi_rng1 L.B.range (EA.to (ea_cons ee_int ea_nil) ⟨3, rfl, by decide, by decide, rfl, rfl, trivial⟩)) (lt1000 (by rw [rngD_len]; decide)) fun j d hd => ?_) (congrArg D.lst rD)) ea_nil)) ⟨rfl, _, _, rfl, wf_ints (show 3 ≤ 900 by decide), wf_ints (show 3 ≤ 900 by decide), rfl, rfl⟩)))) (by rw [eqD_self]; rfl)) (fun h => Bool.noConfusion h) fun _ => wss_nil q)
  · obtain ⟨hj, rfl⟩ := rngD_at hd
    exact fun s H C' cl fp => we_meth L.t.cls L.und hr1 (EE.to (ee_v 2 rfl) ⟨a, _, rfl, g1, rfl, EA.to (ea_cons (ee_v 17 (d := .int (0 + (j : Int))) rfl) ea_nil) ⟨rfl, a, own, sd, cd, uw, 0 + (j : Int), rfl, h.line, by omega, rfl, rfl⟩⟩)
  · obtain ⟨hj, rfl⟩ := rngD_at hd
    refine fun s H C' cl fp => EE.is (ee_cb call_len L.B.len bi_len (ea_cons (EE.is (ee_lc1if 16 (ds := uw.map rwD) (fun d => decide (bOfD d = 0 + (j : Int))) (fun d => d) rfl nd (wi_lst (EE.to (ee_v 4 rfl) ⟨uw.map rwD, .inr ⟨pcp, rfl, h.cp⟩, rfl, rfl, .inr ⟨pcp, rfl, h.cp⟩⟩)) (lt1000 (by rw [List.length_map]; omega)) (fun l d hd => ?_) fun l d hd _ s H C cl fp => ee_v 16 rfl) (congrArg D.lst (filt_rw _ (fun r => decide (r.b = 0 + (j : Int))) uw fun r _ => rfl))) ea_nil) (cd_lenL (.inl rfl) ⟨rfl, rfl⟩)) (by rw [List.length_map]; rfl)
    obtain ⟨r, _, rfl⟩ := at_map hd
    exact fun s H C' cl fp => et_eqI (ee_ix ix_tup (ee_ix ix_tup (ee_v 16 rfl) ee_int (od_ixT (d := iD [r.a, r.b]) rfl ⟨rfl, rfl⟩)) ee_int (od_ixT (d := .int r.b) rfl ⟨rfl, rfl⟩)) (ee_v 17 (d := .int (0 + (j : Int))) rfl)
/-- asked: what has arrived -/
theorem c_ask {f : Addr} {cdv : Value} {A : Around} {outer : List Env} {s : Shared} {H : Hp} {E : XK} {S : D} {tick e : Int} {M : Mem} {a p c pcp pct ptd : Addr} {own : List Addr} {sd cd : DT} {uw : List Rw} {i : Nat} {E' : EndsD} (L : CC P w K mg base C) (hr : Room 4 (XC P w K mg base f cdv A outer s H E).A) (hi : i ≤ 40) (h : Crs M C a p c pcp pct ptd own sd cd uw i)
    (q : ∀ M' sg' pcp' own' uw', Fg (sgC p S a tick pcp' pct ptd) sg' → Crs M' C a p c pcp' pct ptd own' sd cd uw' i → Ch M M' (pcp :: own) (pcp' :: own') → E'.nx sg' M') :
    WSs (XC P w K mg base f cdv A outer s H E) (ifElse (crsB.getD 1 (.Pass ⟨0, 0, 0, 0⟩))) ((sgC p S a tick pcp pct ptd).set 8 (some (.int e))) M E' := by
  have nd := sc_law_course.nd
  have hu := h.uwl
  obtain ⟨o1, o2, o3, o4, o5⟩ := h.off
  obtain ⟨k1, k2, k3, k4, k5, k6⟩ := h.kinds
  obtain ⟨ps, pc, pu, ow, g1, g2, g3, g4, g5⟩ := h.line.ex
  have hr1 : Room 1 (XC P w K mg base f cdv A outer s H E).A := hr.mono (by omega)
  have lf := List.length_filter_le (isDue tick e) uw
  have hzf : (uw.map rwD).length < sizeLine := lt1000 (by rw [List.length_map]; omega)
  refine wss_cons (ws_set 15 nd (EE.to (d := .lst ((srtR (uw.filter (isDue tick e))).map rwD)) (ee_cb (cr_sortD (units64 hr)) L.B.sorted bi_sorted (ea_cons (EE.is (ee_lc1if 16 (ds := uw.map rwD) (fun d => decide (bOfD d = e) && decide (tOfD d ≤ tick)) (fun d => d) rfl nd (wi_lst (EE.to (ee_v 4 rfl) ⟨uw.map rwD, .inr ⟨pcp, rfl, h.cp⟩, rfl, rfl, .inr ⟨pcp, rfl, h.cp⟩⟩)) hzf (fun j d hd => ?_) fun j d hd _ s H C cl fp => ee_v 16 rfl) (congrArg D.lst (filt_rw _ (isDue tick e) uw fun r _ => rfl))) ea_nil) (cd_sortD (.inl rfl) (plA_rw _) (all_alike _) (sortable_rw _) (fun b hb => ?_) ⟨by rw [srtD_rw], rfl⟩)) ?_))
  · obtain ⟨r, _, rfl⟩ := at_map hd
    exact fun s H C cl fp => ww_pt (ew_and (et_eqI (ee_ix ix_tup (ee_ix ix_tup (ee_v 16 rfl) ee_int (od_ixT (d := iD [r.a, r.b]) rfl ⟨rfl, rfl⟩)) ee_int (od_ixT (d := .int r.b) rfl ⟨rfl, rfl⟩)) (ee_v 8 rfl)) fun _ => ww_and1 (et_le (ee_ix ix_tup (ee_v 16 rfl) ee_int (od_ixT (d := .int r.t) rfl ⟨rfl, rfl⟩)) (ee_v 3 rfl)))
  · obtain ⟨r, _, rfl⟩ := List.mem_map.mp hb
    rw [toPy_rw]
    exact Nat.le_trans (dep_rw r) (by decide)
  have hrow : ∀ r ∈ srtR (uw.filter (isDue tick e)), r.data.length ≤ 900 := fun r hr2 => Nat.le_trans (h.rows r (List.mem_filter.mp (mem_srtR.mp hr2)).1) (by decide)
  have hwf : wf 900 4 (.lst ((srtR (uw.filter (isDue tick e))).map outR)) = true := wf_out (by rw [srtR_len]; omega) hrow
  refine wss_cons (ws_if (wt_not (wt_val (we_call L.same hr (wa_cons (we_meth L.t.cls L.arr hr1 (EE.to (ee_v 2 rfl) ⟨a, _, rfl, g1, rfl, EA.to (ea_cons (ee_v 3 rfl) (ea_cons (ee_v 8 rfl) ea_nil)) ⟨rfl, a, own, sd, cd, uw, tick, e, rfl, h.line, by omega, fun M2 own2 hL2 hC2 => ?_⟩⟩)))))))
  refine wa_cons (EE.to (EE.is (ee_lc1 16 (ds := (srtR (uw.filter (isDue tick e))).map rwD) outD rfl nd (wi_lst (EE.to (ee_v 15 rfl) ⟨_, .inl rfl, rfl, rfl, .inl rfl⟩)) (lt1000 (by rw [List.length_map, srtR_len]; omega)) fun j d hd => ?_) (d' := .lst ((srtR (uw.filter (isDue tick e))).map outR)) (by rw [List.map_map]; rfl)) (wa_nil ⟨rfl, _, _, rfl, hwf, hwf, true, by rw [eqD_self], ⟨fun h => Bool.noConfusion h, fun _ => wss_nil ?_⟩⟩))
  · obtain ⟨r, _, rfl⟩ := at_map hd
    exact fun s H C cl fp => ee_tup (ea_cons (ee_ix ix_tup (ee_ix ix_tup (ee_v 16 rfl) ee_int (od_ixT (d := iD [r.a, r.b]) rfl ⟨rfl, rfl⟩)) ee_int (od_ixT (d := .int r.a) rfl ⟨rfl, rfl⟩)) (ea_cons (ee_ix ix_tup (ee_v 16 rfl) ee_int (od_ixT (d := iD r.data) rfl ⟨rfl, rfl⟩)) ea_nil))
  have cp2 := (hC2.at h.cp o3)
  have ct2 := (hC2.at h.ct o4)
  have td2 := (hC2.at h.td o5)
  obtain ⟨bx2, b1, b2⟩ := h.bx.ch hC2 o1 o2
  refine wss_one (ws_set 4 nd (we_lcM1if 16 (ds := uw.map rwD) (fun d => !(((srtR (uw.filter (isDue tick e))).map pyRw).any fun z => PyData.eqv z (toPy d))) (fun d => d) rfl nd (wi_lst (EE.to (ee_v 4 rfl) ⟨uw.map rwD, .inr ⟨pcp, rfl, cp2.1⟩, rfl, rfl, .inr ⟨pcp, rfl, cp2.1⟩⟩)) hzf (fun j d hd => ?_) (fun j d hd _ s H C cl fp => ee_v 16 rfl) fun pv hpv => ?_))
  · obtain ⟨r, _, rfl⟩ := at_map hd
    rw [toPy_rw]
    exact fun s H C cl fp => et_cmp (op_notInD (units65 hr)) (ee_v 16 rfl) (ee_v 15 rfl) (od_nin (pyd_rw r) (pyd_rws _) (sh_rw r) (sh_rws _) ⟨_, rfl, rfl, rfl⟩)
  have eq : ((uw.map rwD).filter fun d => !(((srtR (uw.filter (isDue tick e))).map pyRw).any fun z => PyData.eqv z (toPy d))).map (fun d => d) = (uw.filter fun r => !isDue tick e r).map rwD := filt_rw _ _ uw fun r hr => by
    rw [toPy_rw, any_rw]
    congr 1
    rw [Bool.eq_iff_iff, decide_eq_true_iff, mem_srtR, List.mem_filter]
    exact ⟨fun h => h.2, fun h => ⟨hr, h⟩⟩
  rw [eq]
  obtain ⟨v1, v2⟩ := bx2.beside hpv
  have v3 : pv ≠ pct := fun z => by rw [z, ct2.1] at hpv; cases hpv
  have v4 : pv ≠ ptd := fun z => by rw [z, td2.1] at hpv; cases hpv
  have v5 : pv ∉ own2 := fun z => hL2.there pv z hpv
  have ch3 : Ch M2 (updM M2 pv (some (.lst ((uw.filter fun r => !isDue tick e r).map rwD)))) own2 own2 := ⟨fun x hx _ => updM_ne fun z => hx (by rw [z]; exact hpv), fun x hx => .inl hx⟩
  have hpvM : M pv = none ∨ pv ∈ own := by
    by_cases z : pv ∈ own
    · exact .inr z
    · refine .inl ?_
      cases z2 : M pv with
      | none => rfl
      | some u =>
        have := (hC2.at z2 z).1
        rw [this] at hpv; cases hpv
  refine q _ _ pv own2 (uw.filter fun r => !isDue tick e r) ⟨rfl, rfl, rfl, rfl, rfl, rfl, rfl, trivial⟩ ⟨?_, bx2.put v1 v2, updM_same, by rw [updM_ne v3.symm]; exact ct2.1, by rw [updM_ne v4.symm]; exact td2.1, fun x hx hx2 => ?_, ⟨v1, v2, h.n2.2.2⟩, h.cdo, h.cdl, Nat.le_trans (List.length_filter_le _ _) h.uwl, fun r hr => h.rows r (List.mem_filter.mp hr).1⟩ ?_
  · obtain ⟨qs, qc, qu, rfl, e1, e2, e3, e4, e5⟩ := hL2.ex
    refine ⟨qs, qc, qu, rfl, ?_, ?_, ?_, e4, ?_⟩
    · rw [updM_ne (fun z => v5 (by rw [← z]; simp))]; exact e1
    · rw [updM_ne (fun z => v5 (by rw [← z]; simp))]; exact e2
    · rw [updM_ne (fun z => v5 (by rw [← z]; simp))]; exact e3
    · rw [updM_ne (fun z => v5 (by rw [← z]; simp))]; exact e5
  · simp only [List.mem_cons, List.not_mem_nil, or_false] at hx2
    rcases hx2 with rfl | rfl | rfl | rfl | rfl
    · exact b1 hx
    · exact b2 hx
    · exact v5 hx
    · exact ct2.2 hx
    · exact td2.2 hx
  · refine ⟨fun x hx hx2 => ?_, fun x hx => ?_⟩
    · have n1 : x ∉ own := fun z => hx2 (List.mem_cons_of_mem _ z)
      have := hC2.same x hx n1
      rw [updM_ne fun z => ?_]
      · exact this
      · rw [z] at this hx
        rw [hpv] at this
        exact hx this.symm
    · rcases List.mem_cons.mp hx with rfl | hx
      · exact hpvM.symm.imp (List.mem_cons_of_mem _) id
      · exact (hC2.old x hx).imp (List.mem_cons_of_mem _) id
end
end K42
set_option Elab.async false
set_option linter.all false
set_option maxRecDepth 100000
set_option maxHeartbeats 4000000
namespace K42
open PySem L2 PyProof.Rows DL
/-! ### _law_course: sent -/
def ftAt (f : Ft) (k : Nat) : Cp := f.getD k (1, none)
/-- the scope of a comprehension within an expression -/
theorem newR_D (tick a b : Int) (n : Nat) (data : List Int) (f : Ft) : (rngD 0 f.length).map (fun d => rwD ⟨tick + (ftAt f (intOf d).toNat).1, a, b, n, (intOf d).toNat, hurtF data (ftAt f (intOf d).toNat).2⟩) = (newR tick a b n data f).map rwD := by
  unfold rngD
  rw [List.map_map]
  apply List.ext_getElem?
  intro i
  rw [List.getElem?_map, List.getElem?_map]
  by_cases h : i < f.length
  · rw [List.getElem?_eq_getElem (by rw [List.length_range]; exact h), List.getElem_range, newR_at (List.getElem?_eq_getElem h)]
    show some (rwD ⟨tick + (ftAt f (0 + (i : Int)).toNat).1, a, b, n, (0 + (i : Int)).toNat, hurtF data (ftAt f (0 + (i : Int)).toNat).2⟩) = some (rwD _)
    rw [show (0 + (i : Int)).toNat = i by omega]
    unfold ftAt
    rw [List.getD_eq_getElem?_getD, List.getElem?_eq_getElem h]
    rfl
  · rw [List.getElem?_eq_none (by rw [List.length_range]; omega), List.getElem?_eq_none (by rw [newR_len]; omega)]
    rfl
theorem div_nat (n l : Nat) : (n : Int) - (n : Int) / (l : Int) * (l : Int) = ((n % l : Nat) : Int) := by
  rw [← emod_nat, Int.emod_def, Int.mul_comm]
section
variable {P : Program} {w : World} {K : PySem.W.Frag} {mg : Str → Option Value} {base : Heap} {C : Addr}
theorem c_send {f : Addr} {cdv : Value} {A : Around} {outer : List Env} {s : Shared} {H : Hp} {E : XK} {S : D} {tick e : Int} {M : Mem} {a p c pcp pct ptd : Addr} {own : List Addr} {sd cd : DT} {uw : List Rw} {i : Nat} {E' : EndsD} (L : CC P w K mg base C) (hr : Room 4 (XC P w K mg base f cdv A outer s H E).A) (hi : i < 40) (h : Crs M C a p c pcp pct ptd own sd cd uw i) (hsd0 : SdOk sd)
    (q : ∀ M' sg' cd' uw', Fg (sgC p S a tick pcp pct ptd) sg' → Crs M' C a p c pcp pct ptd own sd cd' uw' (i + 1) → Ch M M' (p :: c :: pct :: ptd :: pcp :: own) (p :: c :: pct :: ptd :: pcp :: own) → E'.nx sg' M') :
    WSs (XC P w K mg base f cdv A outer s H E) (ifThen (crsB.getD 1 (.Pass ⟨0, 0, 0, 0⟩))) ((sgC p S a tick pcp pct ptd).set 8 (some (.int e))) M E' := by
  have nd := sc_law_course.nd
  have hr2 : Room 2 (XC P w K mg base f cdv A outer s H E).A := hr.mono (by omega)
  have hr1 : Room 1 (XC P w K mg base f cdv A outer s H E).A := hr.mono (by omega)
  have hu1 := units1 hr
  refine wss_cons (ws_asg (we_tup (wa_cons (we_tup (wa_cons (we_dr 0 L.draw hr2 rfl ee_int h.bx (by decide) (by decide) fun la M1 _ hB1 hE1 => wa_cons (EE.to (ee_v 8 rfl) (wa_nil ⟨Nat.le_of_lt (lt1000 (show 2 < 1000 by decide)), wa_cons (we_ct call_tuple_of L.B.tuple bi_tuple (wa_cons (we_lc [("k", 11)] rfl nd (blkOk_by (by with_unfolding_all rfl)) (Qi := fun es C' M2 => ∃ n : Nat, es = rngD 0 n ∧ n ≤ 3 ∧ Bx M2 p c ∧ Els M1 M2 p c ∧ ∀ M3, C' M3) (wi_rng1 L.B.range (wa_cons (we_dr 0 L.draw hr2 rfl ee_int hB1 (by decide) (by decide) fun n M2 hn hB2 hE2 => wa_nil ⟨(n : Int), rfl, by omega, by omega, n, by rw [Int.toNat_natCast], by omega, hB2, hE2, fun _ => trivial⟩))) (fun es C' M2 ⟨n, e1, n3, hB2, hE2, hC⟩ => ?_))))⟩))))))))
  refine draws_to (m := 256) 11 ⟨e1, rfl, hC⟩ (by omega) hB2 ?_ nd rfl (by first | exact Or.inl rfl | exact Or.inr rfl) fun v M3 hB3 s H C cl fp => we_dr 0 L.draw hr2 rfl ee_int hB3 (by decide) (by decide) fun r M4 hr4 hB4 hE4 => ⟨r, rfl, hr4, hB4, hE4⟩
  rintro acc M3 ⟨data, e3, dl, db, hB3, hE3⟩
  refine wa_nil (cd_tupL (.inl rfl) (wa_nil ⟨Nat.le_of_lt (lt1000 (show 2 < 1000 by decide)), ?_⟩))
  subst e3
  have hEa : Els M M3 p c := (hE1.trans hE2).trans hE3
  have h3 := h.els hB3 hEa
  have chA : Ch M M3 (p :: c :: pct :: ptd :: pcp :: own) (p :: c :: pct :: ptd :: pcp :: own) := ⟨fun x _ hx => hEa x (fun z => hx (by rw [z]; simp)) (fun z => hx (by rw [z]; simp)), fun x hx => .inl hx⟩
  refine ⟨_, _, wg_tup rfl (wgs_cons (wg_name 9 nd) (wgs_cons (wg_name 10 nd) wgs_nil)), ?_⟩
  clear hEa hE1 hE2 hE3 hB1 hB2 hB3 hC e1
  have hdl : data.length ≤ 3 := by omega
  obtain ⟨o1, o2, o3, o4, o5⟩ := h3.off
  obtain ⟨ps, pc, pu, ow, g1, g2, g3, g4, g5⟩ := h3.line.ex
  obtain ⟨sc, hsc, hsg⟩ := sd_get hsd0 [(la : Int), e]
  refine wss_cons (ws_asg (we_tup (wa_cons (we_tget2 hu1 (EE.to (ee_v 6 rfl) ⟨ptd, sd, rfl, h3.td, EE.to (ee_v 9 rfl) (EE.to (d := scD good) (ee_tup (ea_cons (ee_tup (ea_cons (ee_tup (ea_cons ee_int (ea_cons ee_non ea_nil))) ea_nil)) ea_nil)) ⟨sd, [(la : Int), e], rfl, h3.td, wa_cons (we_tget2 hu1 (EE.to (ee_v 5 rfl) ⟨pct, cd, rfl, h3.ct, EE.to (ee_v 9 rfl) (EE.to ee_int ⟨cd, [(la : Int), e], rfl, h3.ct, wa_nil ⟨Nat.le_of_lt (lt1000 (show 2 < 1000 by decide)), ?_⟩⟩)⟩) ⟨rfl, rfl, rfl, rfl⟩)⟩)⟩) ⟨rfl, rfl, rfl, rfl⟩))))
  rw [cd_get h3.cdo, show (gt sd [(la : Int), e]).getD (scD good) = scD sc from hsc]
  refine ⟨_, _, wg_tup rfl (wgs_cons (wg_name 12 nd) (wgs_cons (wg_name 13 nd) wgs_nil)), ?_⟩
  have hlen : (((sc.map ftD).length : Nat) : Int) = (sc.length : Int) := by rw [List.length_map]
  have hpos := hsg.pos
  have hfew := hsg.few
  have hft3 := hsg.ft _ (fateAt_mem hpos (cntOf cd [(la : Int), e]))
  have hcp := hsg.cp _ (fateAt_mem hpos (cntOf cd [(la : Int), e]))
  have lenE : ∀ {sg : Sg} {p1 p2 p3 : Pos}, sg[12]? = some (some (scD sc)) → EE (XC P w K mg base f cdv A outer s H E) (.Call (.Name "len" p1) [.Name "script" p2] [] p3) sg M3 (.int (sc.length : Int)) := fun {_ _ _ _} hs => EE.is (ee_cb call_len L.B.len bi_len (ea_cons (ee_v 12 hs) ea_nil) (cd_lenT ⟨rfl, rfl⟩)) (congrArg D.int hlen)
  refine wss_cons (ws_set 14 nd (EE.to (ee_ix ix_tup (ee_v 12 (d := scD sc) rfl) (EE.is (ee_sub (ee_v 13 rfl) (ee_mul (ee_fdiv (ee_v 13 rfl) (lenE rfl) ⟨by omega, by omega⟩) (lenE rfl) (.inr ⟨by omega, by omega⟩))) (congrArg D.int (div_nat (cntOf cd [(la : Int), e]) sc.length))) (od_ixT (d := ftD (fateAt sc (cntOf cd [(la : Int), e]))) (atI_nat (by rw [List.getElem?_map, fateAt_get hpos]; rfl)) ⟨rfl, rfl⟩)) ?_))
  generalize hn : cntOf cd [(la : Int), e] = n at hft3 hcp ⊢
  generalize hft : fateAt sc n = ft at hft3 hcp ⊢
  have hwf : wf 900 4 (ftD ft) = true := wf_ft (by omega)
  -- the line is told, and asked for its fate
  refine wss_cons (ws_if (ww_pt (ww_or (wt_not (wt_val (we_call L.same hr (wa_cons (we_meth L.t.cls L.send hr2 (EE.to (ee_v 2 rfl) ⟨a, _, rfl, g1, rfl, EA.to (ea_cons (ee_v 3 rfl) (ea_cons (ee_v 9 rfl) (ea_cons (ee_v 10 rfl) ea_nil))) ⟨rfl, a, own, sd, cd, uw, tick, la, e, data, sc, rfl, h3.line, h3.cdo, hsc, hsg, Nat.le_trans h3.cdl (by omega), Nat.le_trans h3.uwl (by omega), by omega, fun M5 hL5 hC5 => ?_⟩⟩)))))))))
  rw [hn, hft] at hL5 ⊢
  refine wa_cons (EE.to (ee_v 14 rfl) (wa_nil ⟨rfl, _, _, rfl, hwf, hwf, true, by rw [eqD_self], ⟨fun h => Bool.noConfusion h, fun _ => ww_or1 (wt_not (wt_val (we_call L.same hr (wa_cons (we_call L.fate hr1 (EA.to (ea_cons (ee_v 12 rfl) (ea_cons (ee_v 13 rfl) ea_nil)) ⟨rfl, sc, n, rfl, hpos, wa_cons (EE.to (ee_v 14 rfl) (wa_nil ⟨rfl, _, _, rfl, by rw [hft]; exact hwf, hwf, true, by rw [hft, eqD_self], ⟨fun h => Bool.noConfusion h, fun _ => wss_nil ?_⟩⟩))⟩))))))⟩⟩))
  have cp5 := (hC5.at h3.cp o3)
  have ct5 := (hC5.at h3.ct o4)
  have td5 := (hC5.at h3.td o5)
  obtain ⟨bx5, b1, b2⟩ := h3.bx.ch hC5 o1 o2
  have hu := h3.uwl
  -- the law's own copies
  refine wss_cons (ws_expr (we_bm PySem.F.plainAttrs_list PySem.F.slot_list_extend PySem.F.type_list_extend mt_extend (EE.to (ee_v 4 rfl) ⟨ty_lst (.inr ⟨pcp, rfl, cp5.1⟩), EA.to (ea_cons (EE.is (ee_lc1 11 (ds := rngD 0 ft.length) (fun d => rwD ⟨tick + (ftAt ft (intOf d).toNat).1, la, e, n, (intOf d).toNat, hurtF data (ftAt ft (intOf d).toNat).2⟩) rfl nd (wi_rng1 L.B.range (EA.to (ea_cons (ee_cb call_len L.B.len bi_len (ea_cons (ee_v 14 (d := ftD ft) rfl) ea_nil) (cd_lenT ⟨rfl, rfl⟩)) ea_nil) ⟨_, rfl, by omega, by rw [List.length_map]; omega, by rw [List.length_map, Int.toNat_natCast], rfl, trivial⟩)) (lt1000 (by rw [rngD_len]; omega)) fun k d hd => ?_) (congrArg D.lst (newR_D tick la e n data ft))) ea_nil) (md_extend cp5.1 (.inl rfl) (by rw [List.length_map, List.length_map, newR_len]; exact Nat.le_of_lt (lt1000 (by omega))) ?_)⟩)))
  · obtain ⟨hk, rfl⟩ := rngD_at hd
    have ek : (intOf (.int (0 + (k : Int)))).toNat = k := by show (0 + (k : Int)).toNat = k; omega
    rw [ek]
    have hgk : ft[k]? = some (ftAt ft k) := by
      unfold ftAt
      rw [List.getD_eq_getElem?_getD, List.getElem?_eq_getElem hk]
      rfl
    have atk : atI (ft.map cpD) (0 + (k : Int)) = some (cpD (ftAt ft k)) := by rw [Int.zero_add]; exact atI_nat (by rw [List.getElem?_map, hgk]; rfl)
    have okk := hcp _ (List.mem_of_getElem? hgk)
    refine fun s H C' cl fp => EE.is (ee_tup (ea_cons (ee_add (ee_v 3 rfl) (ee_ix ix_tup (ee_ix ix_tup (ee_v 14 (d := ftD ft) rfl) (ee_v 11 rfl) (od_ixT atk ⟨rfl, rfl⟩)) ee_int (od_ixT (d := .int (ftAt ft k).1) rfl ⟨rfl, rfl⟩))) (ea_cons (ee_v 9 rfl) (ea_cons (ee_v 13 rfl) (ea_cons (ee_v 11 rfl) (ea_cons (we_call L.hurt hr1 (EA.to (ea_cons (ee_v 10 rfl) (ea_cons (ee_ix ix_tup (ee_ix ix_tup (ee_v 14 (d := ftD ft) rfl) (ee_v 11 rfl) (od_ixT atk ⟨rfl, rfl⟩)) ee_int (od_ixT (d := hD (ftAt ft k).2) rfl ⟨rfl, rfl⟩)) ea_nil)) ⟨rfl, data, (ftAt ft k).2, rfl, by omega, db, fun p hp => okk.2.2 p hp, rfl, rfl⟩)) ea_nil)))))) ?_
    rw [Int.zero_add]
    rfl
  obtain ⟨z1, z2, z3, z4, z5, z6⟩ := h3.kinds
  have M6a : ∀ x, x ≠ pcp → (updM M5 pcp (some (.lst (uw.map rwD ++ (newR tick la e n data ft).map rwD)))) x = M5 x := fun x hx => updM_ne hx
  -- the law's own counts
  refine wss_cons (ws_dput hu1 (EE.to (ee_add (ee_v 13 rfl) ee_int) (EE.to (ee_v 5 rfl) (EE.to (ee_v 9 rfl) ⟨pct, cd, [(la : Int), e], rfl, rfl, by rw [M6a pct z5.symm]; exact ct5.1, lt1000 (by have := h3.cdl; omega), ?_⟩))))
  have hn1 : ((n : Int) + 1) = ((n + 1 : Nat) : Int) := by omega
  rw [hn1]
  have hM7 : Crs (updM (updM M5 pcp (some (.lst (uw.map rwD ++ (newR tick la e n data ft).map rwD)))) pct (some (.dit (pt cd [(la : Int), e] (.int ((n + 1 : Nat) : Int)))))) C a p c pcp pct ptd own sd (pt cd [(la : Int), e] (.int ((n + 1 : Nat) : Int))) (uw ++ newR tick la e n data ft) (i + 1) := by
    refine ⟨?_, (bx5.put h3.n2.1 h3.n2.2.1).put z1 z2, by rw [updM_ne z5, updM_same, List.map_append], updM_same, by rw [updM_ne h3.n2.2.2.symm, updM_ne z6.symm]; exact td5.1, h3.n1, h3.n2, cd_put h3.cdo _ _, Nat.le_trans (pt_len _ _ _) (by have := h3.cdl; omega), by rw [List.length_append, newR_len]; omega, fun r hr => ?_⟩
    · obtain ⟨qs, qc, qu, rfl, e1, e2, e3, e4, e5⟩ := hL5.ex
      have nn : ∀ x ∈ [a, qs, qc, qu], (updM (updM M5 pcp (some (.lst (uw.map rwD ++ (newR tick la e n data ft).map rwD)))) pct (some (.dit (pt cd [(la : Int), e] (.int ((n + 1 : Nat) : Int)))))) x = M5 x := fun x hx => by rw [updM_ne (fun z => o4 (by rw [← z]; exact hx)), updM_ne (fun z => o3 (by rw [← z]; exact hx))]
      exact ⟨qs, qc, qu, rfl, by rw [nn _ (by simp)]; exact e1, by rw [nn _ (by simp)]; exact e2, by rw [nn _ (by simp)]; exact e3, e4, by rw [nn _ (by simp)]; exact e5⟩
    · rcases List.mem_append.mp hr with hr | hr
      · exact h3.rows r hr
      · obtain ⟨j, cp, hj, rfl⟩ := newR_mem hr
        show (hurtF data cp.2).length ≤ 3
        rw [hurt_len]
        exact hdl
  have hch : Ch M (updM (updM M5 pcp (some (.lst (uw.map rwD ++ (newR tick la e n data ft).map rwD)))) pct (some (.dit (pt cd [(la : Int), e] (.int ((n + 1 : Nat) : Int)))))) (p :: c :: pct :: ptd :: pcp :: own) (p :: c :: pct :: ptd :: pcp :: own) := by
    refine chA.trans (Ch.trans (M1 := M5) ⟨fun x hx hx2 => hC5.same x hx fun z => hx2 (by simp [z]), fun x hx => .inl hx⟩ ((Ch.upd (by simp)).trans (Ch.upd (by simp))))
  generalize updM (updM M5 pcp (some (.lst (uw.map rwD ++ (newR tick la e n data ft).map rwD)))) pct (some (.dit (pt cd [(la : Int), e] (.int ((n + 1 : Nat) : Int))))) = M7 at hM7 hch ⊢
  obtain ⟨rs, rc, ru, row, f1, f2, f3, f4, f5⟩ := hM7.line.ex
  refine wss_one (ws_ifE (k := false) (ET.is (et_neI (we_meth L.t.cls L.cnt hr1 (EE.to (ee_v 2 rfl) ⟨a, _, rfl, f1, rfl, EA.to (ea_cons (ee_v 9 rfl) ea_nil) ⟨rfl, a, own, sd, _, _, [(la : Int), e], rfl, hM7.line, hM7.cdo, rfl, rfl⟩⟩)) (ee_add (ee_v 13 rfl) ee_int)) (by rw [cnt_put_self, hn1, decide_eq_true rfl]; rfl)) (fun h => Bool.noConfusion h) fun _ => wss_nil (q M7 _ _ _ ⟨rfl, rfl, rfl, rfl, rfl, rfl, rfl, trivial⟩ hM7 hch))
end
end K42
set_option Elab.async false
set_option linter.all false
set_option maxRecDepth 100000
set_option maxHeartbeats 4000000
namespace K42
open PySem L2 PyProof.Rows DL
/-! ### _law_course: whole -/
section
variable {P : Program} {w : World} {K : PySem.W.Frag} {mg : Str → Option Value} {base : Heap} {C : Addr}
def S_course : SpD := fun ds M Q => ∃ (p c : Addr) (ls : Ls), ds = [.ptr p, lsD ls] ∧ ls.length ≤ 20 ∧ (∀ x ∈ ls, ScG x.2) ∧ Bx M p c ∧ ∀ M', Bx M' p c → Ch M M' [p, c] [p, c] → Q (.bl true) M'
theorem d_course (F : Df K mg "_law_course" s_law_course ["box", "scripts"]) (L : CC P w K mg base C) : Cal P w K mg base 5 "_law_course" 2 S_course := by
  refine dfn' F sc_law_course rfl fun f cdv A outer s H E ds M Q hr hl hs => ?_
  obtain ⟨p, c, ls, rfl, hz, hls, hB, q⟩ := hs
  have nd := sc_law_course.nd
  have hr2 : Room 2 (XC P w K mg base f cdv A outer s H E).A := hr.mono (by omega)
  refine wss_cons (ws_asg (we_tup (wa_cons (we_make L.make hr2 (EA.to (ea_cons (ee_v 1 rfl) ea_nil) fun a ha => ⟨rfl, a, ls, rfl, hz, updM_same, fun M1 own hL hC => ⟨rfl, wa_cons (EE.to ee_int (wa_cons (we_lstM (wa_nil ⟨Nat.zero_le _, fun pcp hcp => wa_cons (we_tnew fun pct hct => wa_nil ⟨Nat.le_of_lt (lt1000 (show 4 < 1000 by decide)), ?_⟩)⟩))))⟩⟩)))))
  have hM1 : Ch M M1 [] own := hC.made ha
  obtain ⟨bx1, b1, b2⟩ := hB.ch hM1 List.not_mem_nil List.not_mem_nil
  have nct : pct ≠ pcp := fun z => by rw [z, updM_same] at hct; cases hct
  have hct1 : M1 pct = none := by rw [updM_ne nct] at hct; exact hct
  refine ⟨_, _, wg_tup rfl (wgs_cons (wg_name 2 nd) (wgs_cons (wg_name 3 nd) (wgs_cons (wg_name 4 nd) (wgs_cons (wg_name 5 nd) wgs_nil)))), ?_⟩
  refine wss_cons (ws_set 6 nd (we_ct (call_dictPT rfl (units2 hr)) L.B2.dict bi_dict (EA.to (ea_cons (ee_ct call_list_of L.B.list bi_list (ea_cons (ee_v 1 (d := lsD ls) rfl) ea_nil) (cd_lst (.inl rfl) ⟨rfl, rfl⟩)) ea_nil) (cd_dictPT (ps := lsT ls) (.inl ?_) fun ptd htd => ?_))))
  · unfold lsT
    rw [List.map_map]
    rfl
  have ntc : ptd ≠ pct := fun z => by rw [z, updM_same] at htd; cases htd
  have htd2 : (updM M1 pcp (some (.lst []))) ptd = none := by rw [updM_ne ntc] at htd; exact htd
  have ntp : ptd ≠ pcp := fun z => by rw [z, updM_same] at htd2; cases htd2
  have htd1 : M1 ptd = none := by rw [updM_ne ntp] at htd2; exact htd2
  obtain ⟨v1, v2⟩ := bx1.beside hcp
  obtain ⟨v3, v4⟩ := bx1.beside hct1
  obtain ⟨v5, v6⟩ := bx1.beside htd1
  have u1 : pcp ∉ own := fun z => hL.there pcp z hcp
  have u2 : pct ∉ own := fun z => hL.there pct z hct1
  have u3 : ptd ∉ own := fun z => hL.there ptd z htd1
  show WSs _ _ _ (updM (updM (updM M1 pcp (some (.lst []))) pct (some (.dit []))) ptd (some (.dit (sdOf ls)))) _
  have cr : Crs (updM (updM (updM M1 pcp (some (.lst []))) pct (some (.dit []))) ptd (some (.dit (sdOf ls)))) C a p c pcp pct ptd own (sdOf ls) [] [] 0 := by
    refine ⟨?_, ((bx1.put v1 v2).put v3 v4).put v5 v6, by rw [updM_ne ntp.symm, updM_ne nct.symm, updM_same]; rfl, by rw [updM_ne ntc.symm, updM_same], updM_same, fun x hx hx2 => ?_, ⟨v1, v2, ntc.symm⟩, (fun x hx => nomatch hx), Nat.le_refl _, Nat.le_refl _, (fun r hr => nomatch hr)⟩
    · obtain ⟨qs, qc, qu, rfl, e1, e2, e3, e4, e5⟩ := hL.ex
      have nn : ∀ x ∈ [a, qs, qc, qu], (updM (updM (updM M1 pcp (some (.lst []))) pct (some (.dit []))) ptd (some (.dit (sdOf ls)))) x = M1 x := fun x hx => by rw [updM_ne (fun z => u3 (by rw [← z]; exact hx)), updM_ne (fun z => u2 (by rw [← z]; exact hx)), updM_ne (fun z => u1 (by rw [← z]; exact hx))]
      exact ⟨qs, qc, qu, rfl, by rw [nn _ (by simp)]; exact e1, by rw [nn _ (by simp)]; exact e2, by rw [nn _ (by simp)]; exact e3, e4, by rw [nn _ (by simp)]; exact e5⟩
    · simp only [List.mem_cons, List.not_mem_nil, or_false] at hx2
      rcases hx2 with rfl | rfl | rfl | rfl | rfl
      · exact b1 hx
      · exact b2 hx
      · exact u1 hx
      · exact u2 hx
      · exact u3 hx
  have hch : Ch M (updM (updM (updM M1 pcp (some (.lst []))) pct (some (.dit []))) ptd (some (.dit (sdOf ls)))) [p, c] (p :: c :: pct :: ptd :: pcp :: own) := by
    have h1 : Ch M M1 [p, c] (p :: c :: own) := ⟨fun x hx _ => hM1.same x hx List.not_mem_nil, fun x hx => by
      rcases List.mem_cons.mp hx with rfl | hx
      · exact .inl (by simp)
      · rcases List.mem_cons.mp hx with rfl | hx
        · exact .inl (by simp)
        · exact .inr ((hM1.old x hx).resolve_left List.not_mem_nil)⟩
    refine (((h1.trans (Ch.new hcp)).trans (Ch.new hct)).trans (Ch.new htd)).less fun x hx => ?_
    simp only [List.mem_cons] at hx ⊢
    rcases hx with h | h | h | h | h | h <;> simp [h]
  generalize updM (updM (updM M1 pcp (some (.lst []))) pct (some (.dit []))) ptd (some (.dit (sdOf ls))) = M2 at cr hch ⊢
  have hsd : SdOk (sdOf ls) := sdOf_ok hls
  refine wss_cons (ws_for PassesOwn.never rfl (Qi := fun es C' M0 => es = rngD 0 30 ∧ M0 = M2 ∧ ∀ M1, C' M1) (wi_rng1 L.B.range (EA.to (ea_cons ee_int ea_nil) ⟨30, rfl, by decide, by decide, rfl, rfl, fun _ => trivial⟩)) fun es C' M0 ⟨e1, e2, hC'⟩ => ?_)
  subst e1; subst e2
  refine ⟨fun i sg1 M1 => ∃ (tick : Int) (pcp : Addr) (own : List Addr) (cd : DT) (uw : List Rw), i ≤ 30 ∧ Fg (sgC p (lsD ls) a tick pcp pct ptd) sg1 ∧ Crs M1 C a p c pcp pct ptd own (sdOf ls) cd uw i ∧ Ch M M1 [p, c] (p :: c :: pct :: ptd :: pcp :: own), ⟨0, pcp, own, [], [], Nat.zero_le _, ⟨rfl, rfl, rfl, rfl, rfl, rfl, rfl, trivial⟩, cr, hch⟩, fun i sg1 M1 _ => hC' _, fun i d sg1 M1 he ⟨tick, pcp, own, cd, uw, hi, hg, hcr, hch⟩ => ?_, fun sg1 M1 ⟨tick, pcp, own, cd, uw, hi, hg, hcr, hch⟩ => wss_fg hg ?_⟩
  · obtain ⟨hi, rfl⟩ := rngD_at he
    refine ⟨_, _, wg_name 7 nd, wss_fg (fg_set hg 7 _) ?_⟩
    -- the tick, the end
    refine wss_cons (ws_asg (we_tup (wa_cons (we_op op_add (Qa := fun d M2 => d = .int tick ∧ M2 = M1) (EE.to (ee_v 3 rfl) ⟨rfl, rfl⟩) fun x M2 ⟨e1, e2⟩ => ?_))))
    subst e1; subst e2
    refine we_dr 0 L.draw hr2 rfl ee_int hcr.bx (by decide) (by decide) fun r M3 _ hB3 hE3 => od_I0 (f := fun i j => i + j) ?_
    have hcr3 := hcr.els hB3 hE3
    refine wa_cons (we_dr 0 L.draw hr2 rfl ee_int hcr3.bx (by decide) (by decide) fun e M4 _ hB4 hE4 => wa_nil ⟨Nat.le_of_lt (lt1000 (show 2 < 1000 by decide)), _, _, wg_tup rfl (wgs_cons (wg_name 3 nd) (wgs_cons (wg_name 8 nd) wgs_nil)), ?_⟩)
    have hcr4 := hcr3.els hB4 hE4
    -- sent or asked
    refine wss_cons (ws_if (wt_cmp op_gt (Qa := fun d M5 => ∃ r : Nat, d = .int (r : Int) ∧ Bx M5 p c ∧ Els M2 M5 p c) (we_dr 0 L.draw hr2 rfl ee_int hcr4.bx (by decide) (by decide) fun r M5 _ hB5 hE5 => ⟨r, rfl, hB5, (hE3.trans hE4).trans hE5⟩) fun x M5 ⟨r2, e1, hB5, hE5⟩ => ?_))
    subst e1
    have hcr5 := hcr.els hB5 hE5
    have ch5 : Ch M M5 [p, c] (p :: c :: pct :: ptd :: pcp :: own) := hch.trans ⟨fun x _ hx => hE5 x (fun z => hx (by rw [z]; simp)) (fun z => hx (by rw [z]; simp)), fun x hx => .inl hx⟩
    refine EE.to ee_int (od_B0 (f := fun i j => decide (i > j)) ⟨_, rfl, fun _ => ?_, fun _ => ?_⟩)
    · refine wss_fg (sg1 := (sgC p (lsD ls) a (tick + (r : Int)) pcp pct ptd).set 8 (some (.int (e : Int)))) ⟨rfl, rfl, rfl, rfl, rfl, rfl, rfl, rfl, trivial⟩ (c_send L hr (by omega) hcr5 hsd fun M6 sg6 cd6 uw6 hg6 hcr6 hch6 => ?_)
      refine wss_fg hg6 (c_last L hr (by omega) hcr6 ⟨tick + (r : Int), pcp, own, cd6, uw6, by omega, ⟨rfl, rfl, rfl, rfl, rfl, rfl, rfl, trivial⟩, hcr6, ch5.trans hch6⟩)
    · refine wss_fg (sg1 := (sgC p (lsD ls) a (tick + (r : Int)) pcp pct ptd).set 8 (some (.int (e : Int)))) ⟨rfl, rfl, rfl, rfl, rfl, rfl, rfl, rfl, trivial⟩ (c_ask L hr (by omega) hcr5 fun M6 sg6 pcp6 own6 uw6 hg6 hcr6 hch6 => ?_)
      have ch6 : Ch M5 M6 (p :: c :: pct :: ptd :: pcp :: own) (p :: c :: pct :: ptd :: pcp6 :: own6) := ⟨fun x hx hx2 => hch6.same x hx fun z => hx2 (by simp only [List.mem_cons] at z ⊢; rcases z with z | z <;> simp [z]), fun x hx => by
        simp only [List.mem_cons] at hx
        rcases hx with h | h | h | h | h | h
        · exact .inl (by simp [h])
        · exact .inl (by simp [h])
        · exact .inl (by simp [h])
        · exact .inl (by simp [h])
        · exact (hch6.old x (by simp [h])).imp (fun z => by simp only [List.mem_cons] at z ⊢; rcases z with z | z <;> simp [z]) id
        · exact (hch6.old x (by simp [h])).imp (fun z => by simp only [List.mem_cons] at z ⊢; rcases z with z | z <;> simp [z]) id⟩
      refine wss_fg hg6 (c_last L hr (by omega) hcr6 ⟨tick + (r : Int), pcp6, own6, cd, uw6, by omega, ⟨rfl, rfl, rfl, rfl, rfl, rfl, rfl, trivial⟩, hcr6.up, ch5.trans ch6⟩)
  · exact wss_one (ws_ret (EE.to ee_bl (q _ hcr.bx (hch.less fun x hx => by simp only [List.mem_cons, List.not_mem_nil, or_false] at hx; rcases hx with h | h <;> simp [h]))))
end
end K42
set_option Elab.async false
set_option linter.all false
set_option maxRecDepth 100000
set_option maxHeartbeats 4000000
namespace K42
open PySem L2 PyProof.Rows DL
/-! ### a giver and a taker over any line: the plain law -/
/-- the rows told at d -/
def body (many d : Nat) : List Int := (List.range' d (min 16 (many - d))).flatMap fun (n : Nat) => [(n : Int), (n : Int), 7]
def pack (many d : Nat) : List Int := (body many d).sum % 256 :: body many d
def g7 (n : Nat) : D := iD [(n : Int), 7]
def lo7 (l : List Nat) : List Int := l.flatMap fun (n : Nat) => [(n : Int), (n : Int), 7]
theorem lo7_len : ∀ l : List Nat, (lo7 l).length = 3 * l.length
  | [] => rfl
  | n :: l => by
    have ih := lo7_len l
    unfold lo7 at ih ⊢
    rw [List.flatMap_cons, List.length_append, ih]
    show 3 + 3 * l.length = 3 * (l.length + 1)
    omega
theorem lo7_at : ∀ {l : List Nat} {k n : Nat}, l[k]? = some n → (lo7 l)[3 * k]? = some (n : Int) ∧ ((lo7 l).drop (3 * k + 1)).take 2 = [(n : Int), 7]
  | [], k, n, h => by simp at h
  | m :: l, 0, n, h => by
    have e : m = n := by simpa using h
    subst e
    exact ⟨rfl, rfl⟩
  | m :: l, k + 1, n, h => by
    obtain ⟨h1, h2⟩ := lo7_at (l := l) (k := k) (n := n) (by simpa using h)
    have e : lo7 (m :: l) = (m : Int) :: (m : Int) :: 7 :: lo7 l := rfl
    rw [e]
    refine ⟨?_, ?_⟩
    · rw [show 3 * (k + 1) = 3 * k + 1 + 1 + 1 by omega]
      exact h1
    · rw [show 3 * (k + 1) + 1 = 3 * k + 1 + 1 + 1 + 1 by omega]
      exact h2
theorem body_lo7 (many d : Nat) : body many d = lo7 (List.range' d (min 16 (many - d))) := rfl
theorem body_len (many d : Nat) : (body many d).length = 3 * min 16 (many - d) := by rw [body_lo7, lo7_len, List.length_range']
theorem body_by {many d : Nat} (h : many ≤ 200) : ∀ x ∈ body many d, 0 ≤ x ∧ x < 256 := by
  intro x hx
  obtain ⟨n, hn, hx⟩ := List.mem_flatMap.mp hx
  have h1 := List.mem_range'_1.mp hn
  simp only [List.mem_cons, List.not_mem_nil, or_false] at hx
  rcases hx with rfl | rfl | rfl <;> omega
theorem pack_by {many d : Nat} (h : many ≤ 200) : ByOk (pack many d) := fun x hx => by
  rcases List.mem_cons.mp hx with rfl | hx
  · omega
  · exact body_by h x hx
theorem pack_len (many d : Nat) : (pack many d).length = 3 * min 16 (many - d) + 1 := by
  unfold pack
  rw [List.length_cons, body_len]
theorem pack_small (many d : Nat) : (pack many d).length ≤ 49 := by rw [pack_len]; omega
/-- the sum tells -/
def chk : List Int → Bool
  | [] => false
  | x :: xs => decide (xs.sum % 256 = x)
theorem chk_pack (many d : Nat) : chk (pack many d) = true := decide_eq_true rfl
theorem sum_set : ∀ (xs : List Int) (j : Nat) (y : Int), j < xs.length → (xs.take j ++ [y] ++ xs.drop (j + 1)).sum = xs.sum - xs.getD j 0 + y
  | [], j, y, h => absurd h (Nat.not_lt_zero _)
  | x :: xs, 0, y, _ => by
    show ([y] ++ xs).sum = (x :: xs).sum - x + y
    rw [List.sum_append, List.sum_cons, List.sum_cons, List.sum_nil]
    omega
  | x :: xs, j + 1, y, h => by
    have ih := sum_set xs j y (Nat.lt_of_succ_lt_succ h)
    show (x :: (xs.take j ++ [y] ++ xs.drop (j + 1))).sum = (x :: xs).sum - xs.getD j 0 + y
    rw [List.sum_cons, List.sum_cons, ih]
    omega
theorem chk_hurt {many d : Nat} (hm : many ≤ 200) {a b : Int} (b0 : 1 ≤ b) (b1 : b ≤ 255) : chk (hurtF (pack many d) (some (a, b))) = false := by
  have hne : pack many d ≠ [] := fun z => by cases z
  have hb : ∀ x ∈ body many d, 0 ≤ x ∧ x < 256 := body_by hm
  show chk (if pack many d = [] then [] else (pack many d).take (a % ((pack many d).length : Int)).toNat ++ [((pack many d).getD (a % ((pack many d).length : Int)).toNat 0 + b) % 256] ++ (pack many d).drop ((a % ((pack many d).length : Int)).toNat + 1)) = false
  rw [if_neg hne]
  have h1 : (a % ((pack many d).length : Int)).toNat < (pack many d).length := by
    have hp : 0 < (pack many d).length := List.length_pos_iff.mpr hne
    have := Int.emod_lt_of_pos a (show (0 : Int) < (pack many d).length by omega)
    have := Int.emod_nonneg a (show ((pack many d).length : Int) ≠ 0 by omega)
    omega
  generalize (a % ((pack many d).length : Int)).toNat = j at h1 ⊢
  unfold pack at h1 ⊢
  generalize body many d = xs at hb h1 ⊢
  match j, h1 with
  | 0, _ => exact decide_eq_false (by show ¬ (xs.sum % 256 = (xs.sum % 256 + b) % 256); omega)
  | j + 1, h1 =>
    have hj : j < xs.length := Nat.lt_of_succ_lt_succ h1
    have hx := hb (xs.getD j 0) (by rw [List.getD_eq_getElem?_getD, List.getElem?_eq_getElem hj]; exact List.getElem_mem hj)
    refine decide_eq_false ?_
    show ¬ ((xs.take j ++ [(xs.getD j 0 + b) % 256] ++ xs.drop (j + 1)).sum % 256 = xs.sum % 256)
    rw [sum_set xs j _ hj]
    omega
/-- two numbers, the same -/
def chk2 : List Int → Bool
  | [x, y] => decide (x = y)
  | _ => false
theorem chk2_hurt {v : Int} (h0 : 0 ≤ v) (h1 : v < 256) {a b : Int} (b0 : 1 ≤ b) (b1 : b ≤ 255) : chk2 (hurtF [v, v] (some (a, b))) = false := by
  show chk2 (if [v, v] = [] then [] else [v, v].take (a % (([v, v] : List Int).length : Int)).toNat ++ [([v, v].getD (a % (([v, v] : List Int).length : Int)).toNat 0 + b) % 256] ++ [v, v].drop ((a % (([v, v] : List Int).length : Int)).toNat + 1)) = false
  rw [if_neg (fun z => by cases z)]
  show chk2 ([v, v].take (a % 2).toNat ++ [([v, v].getD (a % 2).toNat 0 + b) % 256] ++ [v, v].drop ((a % 2).toNat + 1)) = false
  have : (a % 2).toNat = 0 ∨ (a % 2).toNat = 1 := by omega
  rcases this with e | e
  · rw [e]
    exact decide_eq_false (by show ¬ ((v + b) % 256 = v); omega)
  · rw [e]
    exact decide_eq_false (by show ¬ (v = (v + b) % 256); omega)
/-! news -/
theorem wholes_mem {f : Ft} {d : Int} : d ∈ wholes f ↔ (d, none) ∈ f := by
  unfold wholes
  rw [List.mem_map]
  constructor
  · rintro ⟨⟨x, y⟩, h, rfl⟩
    obtain ⟨h1, h2⟩ := List.mem_filter.mp h
    cases y with
    | none => exact h1
    | some q => cases h2
  · intro h
    exact ⟨(d, none), List.mem_filter.mpr ⟨h, rfl⟩, rfl⟩
theorem fateAt_mod (s : Sc) (n k : Nat) : fateAt s (n % s.length + k) = fateAt s (n + k) := by
  unfold fateAt
  rw [Nat.mod_add_mod]
/-- from any place on a whole copy comes within the news -/
theorem news_at {s : Sc} (h : starvedB s = false) (hpos : 0 < s.length) (n : Nat) : ∃ (k : Nat) (d : Int), k < s.length ∧ (d, none) ∈ fateAt s (n + k) ∧ (k : Int) + d ≤ newsI s := by
  have hb := Nat.mod_lt n hpos
  have hne := rows_ne h (n % s.length)
  obtain ⟨m1, m2⟩ := minI_spec hne
  have hle : minI (rowsN s (n % s.length)) ≤ newsI s := by
    unfold newsI
    refine (maxI_spec (l := (List.range s.length).map fun b => minI (rowsN s b)) ?_).2 _ (List.mem_map.mpr ⟨n % s.length, List.mem_range.mpr hb, rfl⟩)
    intro z
    have := List.map_eq_nil_iff.mp z
    have := congrArg List.length this
    rw [List.length_range] at this
    have : s.length = 0 := this
    omega
  obtain ⟨k, hk, hm⟩ := List.mem_flatMap.mp m1
  obtain ⟨d, hd, e⟩ := List.mem_map.mp hm
  rw [fateAt_mod] at hd
  refine ⟨k, d, List.mem_range.mp hk, wholes_mem.mp hd, ?_⟩
  have e : (k : Int) + d = minI (rowsN s (n % s.length)) := e
  omega
theorem news_bd {s : Sc} (h : ScS s) (hs : starvedB s = false) : 1 ≤ newsI s ∧ newsI s ≤ 9 := by
  have hl : (List.range s.length).map (fun b => minI (rowsN s b)) ≠ [] := fun z => by
    have := congrArg List.length (List.map_eq_nil_iff.mp z)
    rw [List.length_range] at this
    have := h.pos
    have : s.length = 0 := by assumption
    omega
  obtain ⟨m1, _⟩ := maxI_spec hl
  obtain ⟨b, _, e⟩ := List.mem_map.mp m1
  obtain ⟨r1, _⟩ := minI_spec (rows_ne hs b)
  obtain ⟨k, hk, hm⟩ := List.mem_flatMap.mp r1
  obtain ⟨d, hd, e2⟩ := List.mem_map.mp hm
  have hk := List.mem_range.mp hk
  have hcp := h.cp _ (fateAt_mem h.pos (b + k)) _ (wholes_mem.mp hd)
  have h1 : 1 ≤ d := hcp.1
  have h2 : d ≤ 5 := hcp.2.1
  have e : minI (rowsN s b) = newsI s := e
  have e2 : (k : Int) + d = minI (rowsN s b) := e2
  have := h.few
  omega
/-- what is told by the histories dh (done), nh (next) -/
structure Hist (T B : Sc) (many : Nat) (dh nh : Nat → Nat) (t : Nat) : Prop where
  dmono : ∀ s u, s ≤ u → u < t → dh s ≤ dh u
  nmono : ∀ s u, s ≤ u → u < t → nh s ≤ nh u
  dn : ∀ s, s < t → dh s ≤ nh s
  nm : ∀ s, s < t → nh s ≤ many
  a : ∀ u, u < t → ∀ s d, s < u → (d, none) ∈ fateAt T s → (s : Int) + d ≤ (u : Int) → min (dh s + 16) many ≤ nh u
  b : ∀ u, u < t → ∀ s d, s < u → (d, none) ∈ fateAt B s → (s : Int) + d ≤ (u : Int) → nh s ≤ dh u
theorem live {T B : Sc} (hT : ScS T) (hB : ScS B) (sT : starvedB T = false) (sB : starvedB B = false) {many : Nat} {dh nh : Nat → Nat} {t NT NB : Nat} (eT : newsI T = (NT : Int)) (eB : newsI B = (NB : Int)) (h : Hist T B many dh nh t) : ∀ j, j * (NT + NB) < t → min (16 * j) many ≤ dh (j * (NT + NB))
  | 0, _ => by omega
  | j + 1, hlt => by
    have em : (j + 1) * (NT + NB) = j * (NT + NB) + NT + NB := by rw [Nat.succ_mul]; omega
    rw [em] at hlt ⊢
    have ih := live hT hB sT sB eT eB h j (by omega)
    generalize j * (NT + NB) = t0 at hlt ih ⊢
    obtain ⟨k, d, hk, hm, hle⟩ := news_at sT hT.pos t0
    have hd : 1 ≤ d := (hT.cp _ (fateAt_mem hT.pos _) _ hm).1
    have h1 := h.a (t0 + NT) (by omega) (t0 + k) d (by omega) hm (by omega)
    have h2 := h.dmono t0 (t0 + k) (by omega) (by omega)
    obtain ⟨k', d', hk', hm', hle'⟩ := news_at sB hB.pos (t0 + NT)
    have hd' : 1 ≤ d' := (hB.cp _ (fateAt_mem hB.pos _) _ hm').1
    have h3 := h.b (t0 + NT + NB) (by omega) (t0 + NT + k') d' (by omega) hm' (by omega)
    have h4 := h.nmono (t0 + NT) (t0 + NT + k') (by omega) (by omega)
    omega
end K42
set_option Elab.async false
set_option linter.all false
set_option maxRecDepth 100000
set_option maxHeartbeats 4000000
namespace K42
open PySem L2 PyProof.Rows DL
/-! ### _law_talk: its state; what arrives at the taker -/
theorem nodup_len : ∀ (n : Nat) (l : List Nat), l.Nodup → (∀ k ∈ l, k < n) → l.length ≤ n
  | 0, l, _, h => by
    cases l with
    | nil => exact Nat.le_refl _
    | cons x l => exact absurd (h x List.mem_cons_self) (Nat.not_lt_zero _)
  | n + 1, l, nd, h => by
    have ih := nodup_len n (l.erase n) (nd.erase n) fun k hk => by
      have h1 := (List.Nodup.mem_erase_iff nd).mp hk
      have := h k h1.2
      have := h1.1
      omega
    rw [List.length_erase] at ih
    split at ih <;> omega
def wsOf (many dn : Nat) : List D := (List.range' dn (many - dn)).map g7
structure TS (M0 M : Mem) (CL CG CT aL aG aT pf : Addr) (oL oG oT : List Addr) (sd cd : DT) (uw : List Rw) (many dn nx : Nat) (kd : List Nat) : Prop where
  line : LineAt M CL aL oL sd cd uw
  giv : GivAt M CG aG oG (wsOf many dn) dn
  tak : TakAt M CT aT oT g7 nx kd
  fnd : M pf = some (.lst (rowsG g7 0 nx))
  lg : ∀ x ∈ oL, x ∉ oG
  lt : ∀ x ∈ oL, x ∉ oT
  gt : ∀ x ∈ oG, x ∉ oT
  pl : pf ∉ oL
  pg : pf ∉ oG
  pt : pf ∉ oT
  kdm : ∀ k ∈ kd, k < many
  nm : nx ≤ many
  dnx : dn ≤ nx
  base : Ch M0 M [] (pf :: (oL ++ (oG ++ oT)))
section
variable {M0 M M' : Mem} {CL CG CT aL aG aT pf : Addr} {oL oG oT oL' oG' oT' : List Addr} {sd cd cd' : DT} {uw uw' : List Rw} {many dn nx dn' nx' : Nat} {kd kd' : List Nat}
theorem TS.setL (h : TS M0 M CL CG CT aL aG aT pf oL oG oT sd cd uw many dn nx kd) (hL : LineAt M' CL aL oL' sd cd' uw') (c : Ch M M' oL oL') : TS M0 M' CL CG CT aL aG aT pf oL' oG oT sd cd' uw' many dn nx kd := by
  obtain ⟨g1, g2⟩ := h.giv.ch c fun x hx z => h.lg x z hx
  obtain ⟨t1, t2⟩ := h.tak.ch c fun x hx z => h.lt x z hx
  obtain ⟨p1, p2⟩ := c.at h.fnd h.pl
  refine ⟨hL, g1, t1, p1, fun x hx z => g2 x z hx, fun x hx z => t2 x z hx, h.gt, p2, h.pg, h.pt, h.kdm, h.nm, h.dnx, h.base.trans ⟨fun x hx hx2 => c.same x hx fun z => hx2 (by simp [z]), fun x hx => ?_⟩⟩
  simp only [List.mem_cons, List.mem_append] at hx ⊢
  rcases hx with e | e | e | e
  · exact .inl (.inl e)
  · exact (c.old x e).imp (fun z => .inr (.inl z)) id
  · exact .inl (.inr (.inr (.inl e)))
  · exact .inl (.inr (.inr (.inr e)))
theorem TS.setG (h : TS M0 M CL CG CT aL aG aT pf oL oG oT sd cd uw many dn nx kd) (hG : GivAt M' CG aG oG' (wsOf many dn') dn') (c : Ch M M' oG oG') (hd : dn' ≤ nx) : TS M0 M' CL CG CT aL aG aT pf oL oG' oT sd cd uw many dn' nx kd := by
  obtain ⟨g1, g2⟩ := h.line.ch c h.lg
  obtain ⟨t1, t2⟩ := h.tak.ch c fun x hx z => h.gt x z hx
  obtain ⟨p1, p2⟩ := c.at h.fnd h.pg
  refine ⟨g1, hG, t1, p1, g2, h.lt, fun x hx z => t2 x z hx, h.pl, p2, h.pt, h.kdm, h.nm, hd, h.base.trans ⟨fun x hx hx2 => c.same x hx fun z => hx2 (by simp [z]), fun x hx => ?_⟩⟩
  simp only [List.mem_cons, List.mem_append] at hx ⊢
  rcases hx with e | e | e | e
  · exact .inl (.inl e)
  · exact .inl (.inr (.inl e))
  · exact (c.old x e).imp (fun z => .inr (.inr (.inl z))) id
  · exact .inl (.inr (.inr (.inr e)))
theorem TS.setT (h : TS M0 M CL CG CT aL aG aT pf oL oG oT sd cd uw many dn nx kd) (hT : TakAt M' CT aT oT g7 nx' kd') (hf : M' pf = some (.lst (rowsG g7 0 nx'))) (c : Ch M M' (pf :: oT) (pf :: oT)) (h1 : ∀ k ∈ kd', k < many) (h2 : nx' ≤ many) (h3 : nx ≤ nx') : TS M0 M' CL CG CT aL aG aT pf oL oG oT sd cd uw many dn nx' kd' := by
  have nl : ∀ x ∈ oL, x ∉ pf :: oT := fun x hx z => by
    rcases List.mem_cons.mp z with e | e
    · exact h.pl (by rw [← e]; exact hx)
    · exact h.lt x hx e
  have ng : ∀ x ∈ oG, x ∉ pf :: oT := fun x hx z => by
    rcases List.mem_cons.mp z with e | e
    · exact h.pg (by rw [← e]; exact hx)
    · exact h.gt x hx e
  obtain ⟨g1, _⟩ := h.line.ch c nl
  obtain ⟨t1, _⟩ := h.giv.ch c ng
  refine ⟨g1, t1, hT, hf, h.lg, h.lt, h.gt, h.pl, h.pg, h.pt, h1, h2, Nat.le_trans h.dnx h3, h.base.trans ⟨fun x hx hx2 => c.same x hx fun z => hx2 (by simp only [List.mem_cons, List.mem_append] at z ⊢; rcases z with z | z <;> simp [z]), fun x hx => .inl hx⟩⟩
end
structure TC (P : Program) (w : World) (K : PySem.W.Frag) (mg : Str → Option Value) (base : Heap) (CL CG CT : Addr) : Prop where
  B : Blt mg
  tl : HCf K CL lF
  tg : HCf K CG gF
  tt : HCf K CT tF
  starved : Cal P w K mg base 2 "is_starved" 1 S_starved
  news : Cal P w K mg base 3 "latest_news" 1 S_news
  makeL : CalI P w K mg base 1 "Line" CL 2 (S_linit CL)
  makeG : CalI P w K mg base 1 "Giver" CG 1 (S_ginit CG)
  makeT : CalI P w K mg base 1 "Taker" CT 1 (S_tinit CT)
  send : CalM P w K mg base 2 CL "send" 4 (S_lsend CL)
  arr : CalM P w K mg base 1 CL "arrived" 3 (S_larr CL)
  put : CalM P w K mg base 1 CG "put" 2 (S_gput CG)
  wait : CalM P w K mg base 1 CG "waiting" 1 (S_gwait CG)
  out : CalM P w K mg base 1 CG "out" 1 (S_gout CG)
  ghear : CalM P w K mg base 1 CG "hear" 2 (S_ghear CG)
  next : CalM P w K mg base 1 CT "next_number" 1 (S_tnext CT)
  thear : CalM P w K mg base 1 CT "hear" 3 (S_thear CT)
abbrev NT : List Str := ["box", "there", "back", "many", "line", "giver", "taker", "found", "number", "limit", "tick", "sender", "data", "k", "rows"]
abbrev XT (P : Program) (w : World) (K : PySem.W.Frag) (mg : Str → Option Value) (base : Heap) (f : Addr) (cdv : Value) (A : Around) (outer : List Env) (s : Shared) (H : Hp) (E : XK) : Cx := (cxOf CX0 P w K mg base NT "_law_talk" (defScope s_law_talk) f cdv A outer s H E).nox
abbrev sgT (p : Addr) (T B : Sc) (many : Nat) (aL aG aT pf : Addr) (limit tick : Int) : Sg := [some (.ptr p), some (scD T), some (scD B), some (.int (many : Int)), some (.ptr aL), some (.ptr aG), some (.ptr aT), some (.ptr pf), none, some (.int limit), some (.int tick), none, none, none, none]
abbrev tickB : List Stmt := forBody ((defBody s_law_talk).getD 3 (.Pass ⟨0, 0, 0, 0⟩))
theorem rowsG_cat (g : Nat → D) {a b c : Nat} (h1 : a ≤ b) (h2 : b ≤ c) : rowsG g a b ++ rowsG g b c = rowsG g a c := by
  unfold rowsG
  rw [← List.map_append]
  congr 1
  have := List.range'_append (s := a) (m := b - a) (n := c - b) (step := 1)
  rw [show a + 1 * (b - a) = b by omega, show b - a + (c - b) = c - a by omega] at this
  exact this
section
variable {P : Program} {w : World} {K : PySem.W.Frag} {mg : Str → Option Value} {base : Heap} {CL CG CT : Addr}
/-- one row is heard by the taker -/
theorem t_heard {f : Addr} {cdv : Value} {A : Around} {outer : List Env} {s : Shared} {H : Hp} {E : XK} {p : Addr} {T B : Sc} {limit tick : Int} {M0 M : Mem} {aL aG aT pf : Addr} {oL oG oT : List Addr} {sd cd : DT} {uw : List Rw} {many dn nx : Nat} {kd : List Nat} {E' : EndsD} {sn : D} (L : TC P w K mg base CL CG CT) (hr : Room 3 (XT P w K mg base f cdv A outer s H E).A) (hm : many ≤ 20) (h : TS M0 M CL CG CT aL aG aT pf oL oG oT sd cd uw many dn nx kd) (d : Nat) (hd : d ≤ nx) (hu : Option (Int × Int)) (hh : HuOk hu)
    (q : ∀ M' sg' nx' kd', Fg (sgT p T B many aL aG aT pf limit tick) sg' → TS M0 M' CL CG CT aL aG aT pf oL oG oT sd cd uw many dn nx' kd' → nx ≤ nx' → (hu = none → min (d + 16) many ≤ nx') → E'.nx sg' M') :
    WSs (XT P w K mg base f cdv A outer s H E) (forBody (tickB.getD 0 (.Pass ⟨0, 0, 0, 0⟩))) (((sgT p T B many aL aG aT pf limit tick).set 11 (some sn)).set 12 (some (iD (hurtF (pack many d) hu)))) M E' := by
  have nd := sc_law_talk.nd
  have hlen := hurt_len (pack many d) hu
  have hps := pack_small many d
  have hpl := pack_len many d
  generalize hxs : hurtF (pack many d) hu = xs at hlen ⊢
  have hcl : ((xs.map D.int).length : Int) = (xs.length : Int) := by rw [List.length_map]
  have hx0 : 0 < xs.length := by omega
  obtain ⟨x, ys, rfl⟩ : ∃ x ys, xs = x :: ys := by
    cases xs with
    | nil => cases hx0
    | cons x ys => exact ⟨x, ys, rfl⟩
  have hc1 : cutD (x :: ys) (some 1) none = ys := by
    have := cut_fromN (x :: ys) 1
    exact this
  have hchk : hu = none → chk (x :: ys) = true ∧ x :: ys = pack many d := fun e => by
    subst e
    rw [← hxs]
    exact ⟨chk_pack many d, rfl⟩
  have hchk2 : hu ≠ none → chk (x :: ys) = false := fun e => by
    cases hu with
    | none => exact absurd rfl e
    | some ab =>
      obtain ⟨a, b⟩ := ab
      rw [← hxs]
      have := hh (a, b) rfl
      exact chk_hurt (by omega) this.2.2.1 this.2.2.2
  have sm : ys.sum - ys.sum / 256 * 256 = ys.sum % 256 := by omega
  refine wss_one (ws_ifE (k := chk (x :: ys)) (ww_pt (ew_and (p := true) (q := chk (x :: ys)) (ET.is (et_gt (ee_cb call_len L.B.len bi_len (ea_cons (ee_v 12 (d := iD (x :: ys)) rfl) ea_nil) (cd_lenT ⟨rfl, rfl⟩)) ee_int) (decide_eq_true (by rw [hcl]; show (0 : Int) < _; omega))) fun _ => ww_and1 (ET.is (et_eqI (EE.is (ee_sub (ee_cb (cr_sumT rfl) L.B.sum bi_sum (ea_cons (EE.is (ee_sl sl_tupA (ee_v 12 (d := iD (x :: ys)) rfl) (eo_some ee_int) eo_none (sd_tup ⟨rfl, rfl⟩)) ((cut_iD _ _ _).trans (congrArg iD hc1))) ea_nil) (cd_sumT ⟨rfl, rfl⟩)) (ee_mul (ee_fdiv (ee_cb (cr_sumT rfl) L.B.sum bi_sum (ea_cons (EE.is (ee_sl sl_tupA (ee_v 12 (d := iD (x :: ys)) rfl) (eo_some ee_int) eo_none (sd_tup ⟨rfl, rfl⟩)) ((cut_iD _ _ _).trans (congrArg iD hc1))) ea_nil) (cd_sumT ⟨rfl, rfl⟩)) ee_int ⟨by decide, by decide⟩) ee_int (.inr ⟨by decide, by decide⟩))) (congrArg D.int sm)) (ee_ix ix_tup (ee_v 12 (d := iD (x :: ys)) rfl) ee_int (od_ixT (d := .int x) (by have := atI_nat (xs := (x :: ys).map D.int) (j := 0) (v := .int x) rfl; exact this) ⟨rfl, rfl⟩))) rfl))) (fun hk => ?_) fun hk => wss_nil ?_)
  · have hn : hu = none := by
      cases hu with
      | none => rfl
      | some ab => rw [hchk2 (fun z => by cases z)] at hk; cases hk
    obtain ⟨_, hpk⟩ := hchk hn
    rw [hpk]
    have lp : (((pack many d).map D.int).length : Int) = ((pack many d).length : Int) := by rw [List.length_map]
    have nrow : (((pack many d).length : Int) - 1) / 3 = ((min 16 (many - d) : Nat) : Int) := by rw [hpl]; omega
    refine wss_one (ws_for PassesOwn.never rfl (Qi := fun es C' M2 => es = rngD 0 (min 16 (many - d)) ∧ M2 = M ∧ ∀ M1, C' M1) (wi_rng1 L.B.range (EA.to (ea_cons (EE.is (d' := .int ((min 16 (many - d) : Nat) : Int)) (ee_fdiv (ee_sub (ee_cb call_len L.B.len bi_len (ea_cons (ee_v 12 (d := iD (pack many d)) rfl) ea_nil) (cd_lenT ⟨rfl, rfl⟩)) ee_int) ee_int ⟨by decide, by decide⟩) (congrArg D.int (by rw [lp]; exact nrow))) ea_nil) ⟨_, rfl, by omega, by omega, by rw [Int.toNat_natCast], rfl, fun _ => trivial⟩)) fun es C' M2 ⟨e1, e2, hC⟩ => ?_)
    subst e1; subst e2
    refine ⟨fun i sg1 M1 => Fg ((sgT p T B many aL aG aT pf limit tick).set 12 (some (iD (pack many d)))) sg1 ∧ ∃ nx' kd', TS M0 M1 CL CG CT aL aG aT pf oL oG oT sd cd uw many dn nx' kd' ∧ nx ≤ nx' ∧ ∀ j, j < i → d + j < nx' ∨ d + j ∈ kd', ⟨⟨rfl, rfl, rfl, rfl, rfl, rfl, rfl, rfl, rfl, rfl, rfl, trivial⟩, nx, kd, h, Nat.le_refl _, fun j hj => absurd hj (Nat.not_lt_zero _)⟩, fun i sg1 M1 _ => hC _, fun i e sg1 M1 he ⟨hg, nx', kd', h', hle, hgot⟩ => ?_, fun sg1 M1 ⟨hg, nx', kd', h', hle, hgot⟩ => ?_⟩
    · obtain ⟨hi, rfl⟩ := rngD_at he
      refine ⟨_, _, wg_name 13 nd, wss_fg (fg_set hg 13 _) ?_⟩
      rw [Int.zero_add]
      obtain ⟨qp, eo, t1, t2⟩ := h'.tak.ex
      have hget : (List.range' d (min 16 (many - d)))[i]? = some (d + i) := by
        rw [List.getElem?_range' hi]
        congr 1
        omega
      obtain ⟨b1, b2⟩ := lo7_at hget
      have i1 : atI ((pack many d).map D.int) (3 * (i : Int) + 1) = some (.int ((d + i : Nat) : Int)) := by
        rw [show 3 * (i : Int) + 1 = ((3 * i + 1 : Nat) : Int) by omega]
        refine atI_nat ?_
        rw [List.getElem?_map]
        show Option.map D.int ((body many d)[3 * i]?) = _
        rw [body_lo7, b1]
        rfl
      have i2 : cutD (pack many d) (some (3 * (i : Int) + 2)) (some (3 * (i : Int) + 4)) = [((d + i : Nat) : Int), 7] := by
        rw [show 3 * (i : Int) + 2 = ((3 * i + 2 : Nat) : Int) by omega, show 3 * (i : Int) + 4 = ((3 * i + 4 : Nat) : Int) by omega, cut_nat, show 3 * i + 4 - (3 * i + 2) = 2 by omega]
        show ((body many d).drop (3 * i + 1)).take 2 = _
        rw [body_lo7, b2]
      have hkl : kd'.length ≤ 20 := Nat.le_trans (nodup_len many kd' h'.tak.nd h'.kdm) hm
      refine wss_one (ws_expr (we_bm PySem.F.plainAttrs_list PySem.F.slot_list_extend PySem.F.type_list_extend mt_extend (EE.to (ee_v 7 rfl) ⟨ty_lst (.inr ⟨pf, rfl, h'.fnd⟩), wa_cons (we_meth L.tt.cls L.thear (hr.mono (by omega)) (EE.to (ee_v 6 rfl) ⟨aT, _, rfl, t1, rfl, EA.to (ea_cons (ee_ix ix_tup (ee_v 12 (d := iD (pack many d)) rfl) (ee_add (ee_mul ee_int (ee_v 13 rfl) (.inl ⟨by decide, by decide⟩)) ee_int) (od_ixT i1 ⟨rfl, rfl⟩)) (ea_cons (EE.is (ee_sl sl_tupA (ee_v 12 (d := iD (pack many d)) rfl) (eo_some (ee_add (ee_mul ee_int (ee_v 13 rfl) (.inl ⟨by decide, by decide⟩)) ee_int)) (eo_some (ee_add (ee_mul ee_int (ee_v 13 rfl) (.inl ⟨by decide, by decide⟩)) ee_int)) (sd_tup ⟨rfl, rfl⟩)) ((cut_iD _ _ _).trans (congrArg iD i2))) ea_nil)) ⟨rfl, aT, oT, g7, nx', kd', d + i, rfl, h'.tak, by omega, fun M3 nx2 kd2 y hT3 hH3 hC3 hl3 hy3 => ?_⟩⟩))⟩)))
      obtain ⟨f1, f2⟩ := hC3.at h'.fnd h'.pt
      have hn2 : nx2 ≤ many := by
        by_cases c : nx2 ≤ nx'
        · have := h'.nm; omega
        · rcases hH3.gone (nx2 - 1) (by omega) (by omega) with g | g
          · have := h'.kdm _ g; omega
          · omega
      refine wa_nil (md_extend f1 hl3 (by unfold rowsG; rw [List.length_map, List.length_map, List.length_range', List.length_range']; have := h'.nm; exact Nat.le_of_lt (lt1000 (by omega))) ⟨⟨rfl, rfl, rfl, rfl, rfl, rfl, rfl, rfl, rfl, rfl, rfl, trivial⟩, nx2, kd2, ?_, Nat.le_trans hle hH3.le, fun j hj => ?_⟩)
      · rw [rowsG_cat g7 (Nat.zero_le _) hH3.le]
        obtain ⟨rp, re, r1, r2⟩ := hT3.ex
        have np1 : aT ≠ pf := fun z => h'.pt (by rw [← z, re]; simp)
        have np2 : rp ≠ pf := fun z => h'.pt (by rw [← z, re]; simp)
        refine h'.setT ⟨⟨rp, re, by rw [updM_ne np1]; exact r1, by rw [updM_ne np2]; exact r2⟩, hT3.nd, hT3.up⟩ updM_same ⟨fun x hx hx2 => ?_, fun x hx => .inl hx⟩ (fun k hk => ?_) hn2 hH3.le
        · rw [updM_ne fun z => hx2 (by simp [z])]
          exact hC3.same x hx fun z => hx2 (List.mem_cons_of_mem _ z)
        · rcases ((hH3.mem k).mp hk).1 with g | g
          · exact h'.kdm k g
          · have := g.1; omega
      · by_cases c : d + j < nx2
        · exact .inl c
        · refine .inr ((hH3.mem (d + j)).mpr ⟨?_, by omega⟩)
          by_cases cj : j < i
          · rcases hgot j cj with g | g
            · have := hH3.le; omega
            · exact .inl g
          · have ej : j = i := by omega
            rw [ej] at c ⊢
            have := hH3.le
            exact .inr ⟨rfl, by omega⟩
    · rw [rngD_len] at hgot
      refine q M1 sg1 nx' kd' (fg_trans (b := (sgT p T B many aL aG aT pf limit tick).set 12 (some (iD (pack many d)))) ⟨rfl, rfl, rfl, rfl, rfl, rfl, rfl, rfl, rfl, rfl, trivial⟩ hg) h' hle fun _ => ?_
      by_cases c : min (d + 16) many ≤ nx'
      · exact c
      · rcases hgot (nx' - d) (by omega) with g | g
        · omega
        · have := h'.tak.up _ g
          omega
  · exact q M _ nx kd ⟨rfl, rfl, rfl, rfl, rfl, rfl, rfl, rfl, rfl, rfl, trivial⟩ h (Nat.le_refl _) fun e => by rw [(hchk e).1] at hk; cases hk
end
end K42
set_option Elab.async false
set_option linter.all false
set_option maxRecDepth 100000
set_option maxHeartbeats 4000000
namespace K42
open PySem L2 PyProof.Rows DL
/-! ### _law_talk: all that arrives at a tick -/
def RowT (T : Sc) (many : Nat) (dh : Nat → Nat) (t : Nat) (r : Rw) : Prop := ∃ (s i : Nat) (cp : Cp), s < t ∧ (fateAt T s)[i]? = some cp ∧ r = ⟨(s : Int) + cp.1, 0, 1, s, i, hurtF (pack many (dh s)) cp.2⟩
def RowB (B : Sc) (nh : Nat → Nat) (t : Nat) (r : Rw) : Prop := ∃ (s i : Nat) (cp : Cp), s < t ∧ (fateAt B s)[i]? = some cp ∧ r = ⟨(s : Int) + cp.1, 1, 0, s, i, hurtF [(nh s : Int), (nh s : Int)] cp.2⟩
theorem ScS.hu {s : Sc} (h : ScS s) {n i : Nat} {cp : Cp} (e : (fateAt s n)[i]? = some cp) : HuOk cp.2 := fun p hp => by
  obtain ⟨h1, h2, h3, h4⟩ := (h.cp _ (fateAt_mem h.pos n) _ (List.mem_of_getElem? e)).2.2 p hp
  exact ⟨h1, by omega, h3, h4⟩
theorem wsOf_drop (many dn j : Nat) : (wsOf many dn).drop j = wsOf many (dn + j) := by
  unfold wsOf
  rw [← List.map_drop, List.drop_range', show dn + j * 1 = dn + j by omega, show many - dn - j = many - (dn + j) by omega]
theorem wsOf_len (many dn : Nat) : (wsOf many dn).length = many - dn := by
  unfold wsOf
  rw [List.length_map, List.length_range']
section
variable {P : Program} {w : World} {K : PySem.W.Frag} {mg : Str → Option Value} {base : Heap} {CL CG CT : Addr}
/-- one row is heard by the giver -/
theorem t_gheard {f : Addr} {cdv : Value} {A : Around} {outer : List Env} {s : Shared} {H : Hp} {E : XK} {p : Addr} {T B : Sc} {limit tick : Int} {M0 M : Mem} {aL aG aT pf : Addr} {oL oG oT : List Addr} {sd cd : DT} {uw : List Rw} {many dn nx : Nat} {kd : List Nat} {E' : EndsD} {sn : D} (L : TC P w K mg base CL CG CT) (hr : Room 3 (XT P w K mg base f cdv A outer s H E).A) (hm : many ≤ 20) (h : TS M0 M CL CG CT aL aG aT pf oL oG oT sd cd uw many dn nx kd) (v : Nat) (hv : v ≤ nx) (hu : Option (Int × Int)) (hh : HuOk hu)
    (q : ∀ M' sg' oG' dn', Fg (sgT p T B many aL aG aT pf limit tick) sg' → TS M0 M' CL CG CT aL aG aT pf oL oG' oT sd cd uw many dn' nx kd → dn ≤ dn' → (hu = none → v ≤ dn') → E'.nx sg' M') :
    WSs (XT P w K mg base f cdv A outer s H E) (forBody (tickB.getD 1 (.Pass ⟨0, 0, 0, 0⟩))) (((sgT p T B many aL aG aT pf limit tick).set 11 (some sn)).set 12 (some (iD (hurtF [(v : Int), (v : Int)] hu)))) M E' := by
  have nd := sc_law_talk.nd
  have hnm := h.nm
  have hdn := h.dnx
  have hlen := hurt_len [(v : Int), (v : Int)] hu
  have hchk2 : hu ≠ none → chk2 (hurtF [(v : Int), (v : Int)] hu) = false := fun e => by
    cases hu with
    | none => exact absurd rfl e
    | some ab =>
      obtain ⟨a, b⟩ := ab
      have := hh (a, b) rfl
      exact chk2_hurt (by omega) (by omega) this.2.2.1 this.2.2.2
  have hchk : hu = none → hurtF [(v : Int), (v : Int)] hu = [(v : Int), (v : Int)] := fun e => by rw [e]; rfl
  generalize hurtF [(v : Int), (v : Int)] hu = xs at hlen hchk hchk2 ⊢
  obtain ⟨x, y, rfl⟩ : ∃ x y, xs = [x, y] := by
    match xs, hlen with
    | [x, y], _ => exact ⟨x, y, rfl⟩
  refine wss_one (ws_ifE (k := decide (x = y)) (ww_pt (ew_and (p := true) (q := decide (x = y)) (ET.is (et_eqI (ee_cb call_len L.B.len bi_len (ea_cons (ee_v 12 (d := iD [x, y]) rfl) ea_nil) (cd_lenT ⟨rfl, rfl⟩)) ee_int) rfl) fun _ => ww_and1 (et_eqI (ee_ix ix_tup (ee_v 12 (d := iD [x, y]) rfl) ee_int (od_ixT (d := .int x) rfl ⟨rfl, rfl⟩)) (ee_ix ix_tup (ee_v 12 (d := iD [x, y]) rfl) ee_int (od_ixT (d := .int y) rfl ⟨rfl, rfl⟩))))) (fun hk => ?_) fun hk => wss_nil ?_)
  · have hn : hu = none := by
      cases hu with
      | none => rfl
      | some ab =>
        have := hchk2 (fun z => by cases z)
        rw [show chk2 [x, y] = decide (x = y) from rfl, hk] at this
        cases this
    have exy := hchk hn
    have ex : x = (v : Int) := (List.cons.inj exy).1
    subst ex
    obtain ⟨gx, g1, _⟩ := giv_ls h.giv
    refine wss_one (ws_expr (we_meth L.tg.cls L.ghear (hr.mono (by omega)) (EE.to (ee_v 5 rfl) ⟨aG, _, rfl, g1, rfl, EA.to (ea_cons (ee_ix ix_tup (ee_v 12 (d := iD [(v : Int), y]) rfl) ee_int (od_ixT (d := .int (v : Int)) rfl ⟨rfl, rfl⟩)) ea_nil) ⟨rfl, aG, oG, wsOf many dn, dn, (v : Int), rfl, h.giv, fun M2 oG2 hG2 hC2 => ?_⟩⟩)))
    rw [wsOf_drop, wsOf_len] at hG2
    have ec : (comeI (v : Int) (dn : Int) ((many - dn : Nat) : Int)).toNat = v - dn := by
      unfold comeI
      omega
    rw [ec] at hG2
    exact q M2 _ oG2 (dn + (v - dn)) ⟨rfl, rfl, rfl, rfl, rfl, rfl, rfl, rfl, rfl, rfl, trivial⟩ (h.setG hG2 hC2 (by omega)) (by omega) fun _ => by omega
  · exact q M _ oG dn ⟨rfl, rfl, rfl, rfl, rfl, rfl, rfl, rfl, rfl, rfl, trivial⟩ h (Nat.le_refl _) fun e => by
      have := hchk e
      have e1 := (List.cons.inj this).1
      have e2 := (List.cons.inj (List.cons.inj this).2).1
      rw [e1, e2, decide_eq_true rfl] at hk
      cases hk
/-- all that has come to the taker -/
theorem t_arr1 {f : Addr} {cdv : Value} {A : Around} {outer : List Env} {s : Shared} {H : Hp} {E : XK} {p : Addr} {T B : Sc} {limit : Int} {t : Nat} {dh nh : Nat → Nat} {M0 M : Mem} {aL aG aT pf : Addr} {oL oG oT : List Addr} {sd cd : DT} {uw : List Rw} {many dn nx : Nat} {kd : List Nat} {E' : EndsD} (L : TC P w K mg base CL CG CT) (hr : Room 3 (XT P w K mg base f cdv A outer s H E).A) (hT : ScS T) (hm : many ≤ 20) (h : TS M0 M CL CG CT aL aG aT pf oL oG oT sd cd uw many dn nx kd) (hz : uw.length ≤ 900) (hrow : ∀ r ∈ uw, RowT T many dh t r ∨ RowB B nh t r) (hdh : ∀ s, s < t → dh s ≤ nx)
    (q : ∀ M' sg' oL' nx' kd', Fg (sgT p T B many aL aG aT pf limit (t : Int)) sg' → TS M0 M' CL CG CT aL aG aT pf oL' oG oT sd cd (uw.filter fun r => !isDue (t : Int) 1 r) many dn nx' kd' → nx ≤ nx' → (∀ (s i : Nat) (cp : Cp), s < t → (fateAt T s)[i]? = some cp → cp.2 = none → (s : Int) + cp.1 ≤ (t : Int) → (⟨(s : Int) + cp.1, 0, 1, s, i, hurtF (pack many (dh s)) cp.2⟩ : Rw) ∈ uw → min (dh s + 16) many ≤ nx') → E'.nx sg' M') :
    WS (XT P w K mg base f cdv A outer s H E) (tickB.getD 0 (.Pass ⟨0, 0, 0, 0⟩)) (sgT p T B many aL aG aT pf limit (t : Int)) M E' := by
  have nd := sc_law_talk.nd
  obtain ⟨ps, pc, pu, ow, g1, g2, g3, g4, g5⟩ := h.line.ex
  refine ws_for PassesOwn.never rfl (Qi := fun es C' M2 => es = (srtR (uw.filter (isDue (t : Int) 1))).map outR ∧ (∃ oL', TS M0 M2 CL CG CT aL aG aT pf oL' oG oT sd cd (uw.filter fun r => !isDue (t : Int) 1 r) many dn nx kd) ∧ ∀ M1, C' M1) (wi_lst (we_meth L.tl.cls L.arr (hr.mono (by omega)) (EE.to (ee_v 4 rfl) ⟨aL, _, rfl, g1, rfl, EA.to (ea_cons (ee_v 10 rfl) (ea_cons ee_int ea_nil)) ⟨rfl, aL, oL, sd, cd, uw, (t : Int), 1, rfl, h.line, hz, fun M2 oL2 hL2 hC2 => ⟨_, .inl rfl, rfl, ⟨oL2, h.setL hL2 hC2⟩, fun _ => .inl rfl⟩⟩⟩))) fun es C' M2 ⟨e1, ⟨oL2, h2⟩, hC⟩ => ?_
  subst e1
  refine ⟨fun j sg1 M1 => Fg (sgT p T B many aL aG aT pf limit (t : Int)) sg1 ∧ ∃ nx' kd', TS M0 M1 CL CG CT aL aG aT pf oL2 oG oT sd cd (uw.filter fun r => !isDue (t : Int) 1 r) many dn nx' kd' ∧ nx ≤ nx' ∧ ∀ l r, l < j → (srtR (uw.filter (isDue (t : Int) 1)))[l]? = some r → ∀ (s i : Nat) (cp : Cp), (fateAt T s)[i]? = some cp → cp.2 = none → r = ⟨(s : Int) + cp.1, 0, 1, s, i, hurtF (pack many (dh s)) cp.2⟩ → min (dh s + 16) many ≤ nx', ⟨⟨rfl, rfl, rfl, rfl, rfl, rfl, rfl, rfl, rfl, rfl, trivial⟩, nx, kd, h2, Nat.le_refl _, fun l r hl => absurd hl (Nat.not_lt_zero _)⟩, fun i sg1 M1 _ => hC _, fun j d sg1 M1 he ⟨hg, nx', kd', h', hle, hgot⟩ => ?_, fun sg1 M1 ⟨hg, nx', kd', h', hle, hgot⟩ => ?_⟩
  · obtain ⟨r, hrj, rfl⟩ := at_map he
    have hmem := List.mem_filter.mp (mem_srtR.mp (List.mem_of_getElem? hrj))
    have hb : r.b = 1 := of_decide_eq_true (Bool.and_eq_true_iff.mp hmem.2).1
    rcases hrow r hmem.1 with ⟨s0, i, cp, hs, hcp, hre⟩ | ⟨s0, i, cp, hs, hcp, hre⟩
    · refine ⟨_, _, wg_tup (ds := [.int r.a, iD r.data]) rfl (wgs_cons (wg_name 11 nd) (wgs_cons (wg_name 12 nd) wgs_nil)), wss_fg (fg_set (fg_set hg 11 _) 12 _) ?_⟩
      have ed : r.data = hurtF (pack many (dh s0)) cp.2 := by rw [hre]
      rw [ed]
      refine t_heard L hr hm h' (dh s0) (Nat.le_trans (hdh s0 hs) hle) cp.2 (hT.hu hcp) fun M3 sg3 nx3 kd3 hg3 h3 hle3 hgot3 => ⟨hg3, nx3, kd3, h3, Nat.le_trans hle hle3, fun l r' hl hr' s1 i1 cp1 hc1 hn1 hr1 => ?_⟩
      by_cases c : l < j
      · exact Nat.le_trans (hgot l r' c hr' s1 i1 cp1 hc1 hn1 hr1) hle3
      · have el : l = j := by omega
        rw [el, hrj] at hr'
        have hr' := Option.some.inj hr'
        rw [← hr', hre] at hr1
        injection hr1 with w1 w2 w3 w4 w5 w6
        subst w4; subst w5
        rw [hcp] at hc1
        have hc1 := Option.some.inj hc1
        subst hc1
        exact hgot3 hn1
    · rw [hre] at hb
      cases hb
  · refine q M1 sg1 oL2 nx' kd' hg h' hle fun s0 i cp hs hcp hn hdue hin => ?_
    have hin2 : (⟨(s0 : Int) + cp.1, 0, 1, s0, i, hurtF (pack many (dh s0)) cp.2⟩ : Rw) ∈ srtR (uw.filter (isDue (t : Int) 1)) := mem_srtR.mpr (List.mem_filter.mpr ⟨hin, by
      show (decide ((1 : Int) = 1) && decide ((s0 : Int) + cp.1 ≤ (t : Int))) = true
      rw [decide_eq_true hdue]
      rfl⟩)
    obtain ⟨l, hl⟩ := List.mem_iff_getElem?.mp hin2
    have hll := (List.getElem?_eq_some_iff.mp hl).1
    exact hgot l _ (by rw [List.length_map]; exact hll) hl s0 i cp hcp hn rfl
/-- all that has come to the giver -/
theorem t_arr0 {f : Addr} {cdv : Value} {A : Around} {outer : List Env} {s : Shared} {H : Hp} {E : XK} {p : Addr} {T B : Sc} {limit : Int} {t : Nat} {dh nh : Nat → Nat} {M0 M : Mem} {aL aG aT pf : Addr} {oL oG oT : List Addr} {sd cd : DT} {uw : List Rw} {many dn nx : Nat} {kd : List Nat} {E' : EndsD} (L : TC P w K mg base CL CG CT) (hr : Room 3 (XT P w K mg base f cdv A outer s H E).A) (hB : ScS B) (hm : many ≤ 20) (h : TS M0 M CL CG CT aL aG aT pf oL oG oT sd cd uw many dn nx kd) (hz : uw.length ≤ 900) (hrow : ∀ r ∈ uw, RowT T many dh t r ∨ RowB B nh t r) (hnh : ∀ s, s < t → nh s ≤ nx)
    (q : ∀ M' sg' oL' oG' dn', Fg (sgT p T B many aL aG aT pf limit (t : Int)) sg' → TS M0 M' CL CG CT aL aG aT pf oL' oG' oT sd cd (uw.filter fun r => !isDue (t : Int) 0 r) many dn' nx kd → dn ≤ dn' → (∀ (s i : Nat) (cp : Cp), s < t → (fateAt B s)[i]? = some cp → cp.2 = none → (s : Int) + cp.1 ≤ (t : Int) → (⟨(s : Int) + cp.1, 1, 0, s, i, hurtF [(nh s : Int), (nh s : Int)] cp.2⟩ : Rw) ∈ uw → nh s ≤ dn') → E'.nx sg' M') :
    WS (XT P w K mg base f cdv A outer s H E) (tickB.getD 1 (.Pass ⟨0, 0, 0, 0⟩)) (sgT p T B many aL aG aT pf limit (t : Int)) M E' := by
  have nd := sc_law_talk.nd
  obtain ⟨ps, pc, pu, ow, g1, g2, g3, g4, g5⟩ := h.line.ex
  refine ws_for PassesOwn.never rfl (Qi := fun es C' M2 => es = (srtR (uw.filter (isDue (t : Int) 0))).map outR ∧ (∃ oL', TS M0 M2 CL CG CT aL aG aT pf oL' oG oT sd cd (uw.filter fun r => !isDue (t : Int) 0 r) many dn nx kd) ∧ ∀ M1, C' M1) (wi_lst (we_meth L.tl.cls L.arr (hr.mono (by omega)) (EE.to (ee_v 4 rfl) ⟨aL, _, rfl, g1, rfl, EA.to (ea_cons (ee_v 10 rfl) (ea_cons ee_int ea_nil)) ⟨rfl, aL, oL, sd, cd, uw, (t : Int), 0, rfl, h.line, hz, fun M2 oL2 hL2 hC2 => ⟨_, .inl rfl, rfl, ⟨oL2, h.setL hL2 hC2⟩, fun _ => .inl rfl⟩⟩⟩))) fun es C' M2 ⟨e1, ⟨oL2, h2⟩, hC⟩ => ?_
  subst e1
  refine ⟨fun j sg1 M1 => Fg (sgT p T B many aL aG aT pf limit (t : Int)) sg1 ∧ ∃ oG' dn', TS M0 M1 CL CG CT aL aG aT pf oL2 oG' oT sd cd (uw.filter fun r => !isDue (t : Int) 0 r) many dn' nx kd ∧ dn ≤ dn' ∧ ∀ l r, l < j → (srtR (uw.filter (isDue (t : Int) 0)))[l]? = some r → ∀ (s i : Nat) (cp : Cp), (fateAt B s)[i]? = some cp → cp.2 = none → r = ⟨(s : Int) + cp.1, 1, 0, s, i, hurtF [(nh s : Int), (nh s : Int)] cp.2⟩ → nh s ≤ dn', ⟨⟨rfl, rfl, rfl, rfl, rfl, rfl, rfl, rfl, rfl, rfl, trivial⟩, oG, dn, h2, Nat.le_refl _, fun l r hl => absurd hl (Nat.not_lt_zero _)⟩, fun i sg1 M1 _ => hC _, fun j d sg1 M1 he ⟨hg, oG', dn', h', hle, hgot⟩ => ?_, fun sg1 M1 ⟨hg, oG', dn', h', hle, hgot⟩ => ?_⟩
  · obtain ⟨r, hrj, rfl⟩ := at_map he
    have hmem := List.mem_filter.mp (mem_srtR.mp (List.mem_of_getElem? hrj))
    have hb : r.b = 0 := of_decide_eq_true (Bool.and_eq_true_iff.mp hmem.2).1
    rcases hrow r hmem.1 with ⟨s0, i, cp, hs, hcp, hre⟩ | ⟨s0, i, cp, hs, hcp, hre⟩
    · rw [hre] at hb
      cases hb
    · refine ⟨_, _, wg_tup (ds := [.int r.a, iD r.data]) rfl (wgs_cons (wg_name 11 nd) (wgs_cons (wg_name 12 nd) wgs_nil)), wss_fg (fg_set (fg_set hg 11 _) 12 _) ?_⟩
      have ed : r.data = hurtF [(nh s0 : Int), (nh s0 : Int)] cp.2 := by rw [hre]
      rw [ed]
      refine t_gheard L hr hm h' (nh s0) (hnh s0 hs) cp.2 (hB.hu hcp) fun M3 sg3 oG3 dn3 hg3 h3 hle3 hgot3 => ⟨hg3, oG3, dn3, h3, Nat.le_trans hle hle3, fun l r' hl hr' s1 i1 cp1 hc1 hn1 hr1 => ?_⟩
      by_cases c : l < j
      · exact Nat.le_trans (hgot l r' c hr' s1 i1 cp1 hc1 hn1 hr1) hle3
      · have el : l = j := by omega
        rw [el, hrj] at hr'
        have hr' := Option.some.inj hr'
        rw [← hr', hre] at hr1
        injection hr1 with w1 w2 w3 w4 w5 w6
        subst w4; subst w5
        rw [hcp] at hc1
        have hc1 := Option.some.inj hc1
        subst hc1
        exact hgot3 hn1
  · refine q M1 sg1 oL2 oG' dn' hg h' hle fun s0 i cp hs hcp hn hdue hin => ?_
    have hin2 : (⟨(s0 : Int) + cp.1, 1, 0, s0, i, hurtF [(nh s0 : Int), (nh s0 : Int)] cp.2⟩ : Rw) ∈ srtR (uw.filter (isDue (t : Int) 0)) := mem_srtR.mpr (List.mem_filter.mpr ⟨hin, by
      show (decide ((0 : Int) = 0) && decide ((s0 : Int) + cp.1 ≤ (t : Int))) = true
      rw [decide_eq_true hdue]
      rfl⟩)
    obtain ⟨l, hl⟩ := List.mem_iff_getElem?.mp hin2
    have hll := (List.getElem?_eq_some_iff.mp hl).1
    exact hgot l _ (by rw [List.length_map]; exact hll) hl s0 i cp hcp hn rfl
end
end K42
set_option Elab.async false
set_option linter.all false
set_option maxRecDepth 100000
set_option maxHeartbeats 4000000
namespace K42
open PySem L2 PyProof.Rows DL
/-! ### _law_talk: what is told at a tick -/
theorem outG_len (many dn : Nat) : (outG (wsOf many dn) dn).length = min 16 (many - dn) := by
  unfold outG
  rw [List.length_mapIdx, List.length_take, wsOf_len]
theorem outG_at {many dn i : Nat} {d : D} (h : (outG (wsOf many dn) dn)[i]? = some d) : i < min 16 (many - dn) ∧ d = .tup [.int ((dn + i : Nat) : Int), g7 (dn + i)] := by
  have hl := (List.getElem?_eq_some_iff.mp h).1
  rw [outG_len] at hl
  refine ⟨hl, ?_⟩
  unfold outG wsOf at h
  rw [List.getElem?_mapIdx, List.getElem?_take, if_pos (by omega), List.getElem?_map, List.getElem?_range' (by omega), show dn + 1 * i = dn + i by omega] at h
  exact (Option.some.inj h).symm
theorem lo7_snoc (l : List Nat) (n : Nat) : lo7 (l ++ [n]) = lo7 l ++ [(n : Int), (n : Int), 7] := by
  unfold lo7
  rw [List.flatMap_append]
  rfl
theorem iD_app (a b : List Int) : D.tup (a.map .int ++ b.map .int) = iD (a ++ b) := by
  unfold iD
  rw [List.map_append]
/-- the line of the talk: scripts of the two links -/
structure LnT (T B : Sc) (sd cd : DT) (uw : List Rw) (t : Nat) : Prop where
  s1 : sdGet sd [0, 1] = scD T
  s0 : sdGet sd [1, 0] = scD B
  ok : CdOk cd
  len : cd.length ≤ 2 * t
  c1 : cntOf cd [0, 1] = t
  c0 : cntOf cd [1, 0] = t
section
variable {P : Program} {w : World} {K : PySem.W.Frag} {mg : Str → Option Value} {base : Heap} {CL CG CT : Addr}
theorem t_tell {f : Addr} {cdv : Value} {A : Around} {outer : List Env} {s : Shared} {H : Hp} {E : XK} {p : Addr} {T B : Sc} {limit : Int} {t : Nat} {M0 M : Mem} {aL aG aT pf : Addr} {oL oG oT : List Addr} {sd cd : DT} {uw : List Rw} {many dn nx : Nat} {kd : List Nat} {E' : EndsD} (L : TC P w K mg base CL CG CT) (hr : Room 3 (XT P w K mg base f cdv A outer s H E).A) (hT : ScS T) (hB : ScS B) (hm : many ≤ 20) (ht : t ≤ 100) (h : TS M0 M CL CG CT aL aG aT pf oL oG oT sd cd uw many dn nx kd) (hl : LnT T B sd cd uw t) (hz : uw.length ≤ 800)
    (q : ∀ M' sg' oL' cd', Fg (sgT p T B many aL aG aT pf limit (t : Int)) sg' → LnT T B sd cd' (uw ++ newR (t : Int) 0 1 t (pack many dn) (fateAt T t) ++ newR (t : Int) 1 0 t [(nx : Int), (nx : Int)] (fateAt B t)) (t + 1) → TS M0 M' CL CG CT aL aG aT pf oL' oG oT sd cd' (uw ++ newR (t : Int) 0 1 t (pack many dn) (fateAt T t) ++ newR (t : Int) 1 0 t [(nx : Int), (nx : Int)] (fateAt B t)) many dn nx kd → E'.nx sg' M') :
    WSs (XT P w K mg base f cdv A outer s H E) (tickB.drop 2) (sgT p T B many aL aG aT pf limit (t : Int)) M E' := by
  have nd := sc_law_talk.nd
  obtain ⟨gx, g1, g2⟩ := giv_ls h.giv
  have hbl := body_len many dn
  have hpl := pack_len many dn
  refine wss_cons (ws_set 14 nd (EE.to (d := iD []) (ee_tup ea_nil) ?_))
  refine wss_cons (ws_for PassesOwn.never rfl (Qi := fun es C' M2 => es = outG (wsOf many dn) dn ∧ M2 = M ∧ ∀ M1, C' M1) (wi_tup (we_meth0 L.tg.cls L.out (hr.mono (by omega)) (EE.to (ee_v 5 rfl) ⟨aG, _, rfl, g1, rfl, ⟨aG, oG, wsOf many dn, dn, rfl, h.giv, _, rfl, rfl, rfl, fun _ => trivial⟩⟩))) fun es C' M2 ⟨e1, e2, hC⟩ => ?_)
  subst e1; subst e2
  refine ⟨fun i sg1 M1 => i ≤ min 16 (many - dn) ∧ Fg ((sgT p T B many aL aG aT pf limit (t : Int)).set 14 (some (iD (lo7 (List.range' dn i))))) sg1 ∧ M1 = M2, ⟨Nat.zero_le _, ⟨rfl, rfl, rfl, rfl, rfl, rfl, rfl, rfl, rfl, rfl, rfl, trivial⟩, rfl⟩, fun i sg1 M1 _ => hC _, fun i d sg1 M1 hd ⟨_, hg, hM⟩ => ?_, fun sg1 M1 ⟨_, hg, hM⟩ => ?_⟩
  · subst hM
    obtain ⟨hi, rfl⟩ := outG_at hd
    refine ⟨_, _, wg_tup rfl (wgs_cons (wg_name 8 nd) (wgs_cons (wg_name 12 nd) wgs_nil)), wss_fg (fg_set (fg_set hg 8 _) 12 _) ?_⟩
    have l1 : (lo7 (List.range' dn i)).length = 3 * i := by rw [lo7_len, List.length_range']
    refine wss_one (ws_set 14 nd (EE.to (EE.is (d' := iD (lo7 (List.range' dn (i + 1)))) (ee_op op_catA (ee_op op_catA (ee_v 14 (d := iD (lo7 (List.range' dn i))) rfl) (ee_tup (ea_cons (ee_v 8 (d := .int ((dn + i : Nat) : Int)) rfl) ea_nil)) (od_catT (by rw [List.length_map, l1]; exact Nat.le_of_lt (lt1000 (by show 3 * i + 1 < 1000; omega))) ⟨rfl, rfl⟩)) (ee_v 12 (d := g7 (dn + i)) rfl) (od_catT (by rw [List.length_append, List.length_map, l1]; exact Nat.le_of_lt (lt1000 (by show 3 * i + 1 + 2 < 1000; omega))) ⟨rfl, rfl⟩)) ?_) ⟨by omega, ⟨rfl, rfl, rfl, rfl, rfl, rfl, rfl, rfl, rfl, rfl, rfl, trivial⟩, rfl⟩))
    rw [List.range'_concat, lo7_snoc, show dn + 1 * i = dn + i by omega]
    show D.tup (((lo7 (List.range' dn i)).map D.int ++ [D.int ((dn + i : Nat) : Int)]) ++ [D.int ((dn + i : Nat) : Int), D.int 7]) = D.tup ((lo7 (List.range' dn i) ++ [((dn + i : Nat) : Int), ((dn + i : Nat) : Int), 7]).map D.int)
    rw [List.map_append, List.append_assoc]
    rfl
  rw [outG_len] at hg
  subst hM
  rw [← body_lo7] at hg
  refine wss_fg hg ?_
  have ol : ((outG (wsOf many dn) dn).length : Int) = ((min 16 (many - dn) : Nat) : Int) := by rw [outG_len]
  have gw : ((wsOf many dn).length : Int) = ((many - dn : Nat) : Int) := by rw [wsOf_len]
  refine wss_cons (ws_ifE (k := false) (ww_pt (ew_or (p := false) (q := false) (ET.is (et_gt (EE.is (ee_cb call_len L.B.len bi_len (ea_cons (we_meth0 L.tg.cls L.out (hr.mono (by omega)) (EE.to (ee_v 5 rfl) ⟨aG, _, rfl, g1, rfl, ⟨aG, oG, wsOf many dn, dn, rfl, h.giv, rfl, rfl⟩⟩)) ea_nil) (cd_lenT ⟨rfl, rfl⟩)) (congrArg D.int ol)) ee_int) (decide_eq_false (by omega))) fun _ => ww_or1 (ET.is (et_neI (EE.is (ee_cb call_len L.B.len bi_len (ea_cons (we_meth0 L.tg.cls L.out (hr.mono (by omega)) (EE.to (ee_v 5 rfl) ⟨aG, _, rfl, g1, rfl, ⟨aG, oG, wsOf many dn, dn, rfl, h.giv, rfl, rfl⟩⟩)) ea_nil) (cd_lenT ⟨rfl, rfl⟩)) (congrArg D.int ol)) (EE.is (d' := .int ((min 16 (many - dn) : Nat) : Int)) (ee_cb (call_min2 rfl) L.B.min bi_min (ea_cons ee_int (ea_cons (EE.is (we_meth0 L.tg.cls L.wait (hr.mono (by omega)) (EE.to (ee_v 5 rfl) ⟨aG, _, rfl, g1, rfl, ⟨aG, oG, wsOf many dn, dn, rfl, h.giv, rfl, rfl⟩⟩)) (congrArg D.int gw)) ea_nil)) (cd_min2 ⟨rfl, rfl⟩)) ?_)) (by rw [decide_eq_true rfl]; rfl)))) (fun e => Bool.noConfusion e) fun _ => wss_nil ?_)
  · split <;> (congr 1; omega)
  obtain ⟨ps, pc, pu, ow, l1, l2, l3, l4, l5⟩ := h.line.ex
  have sm : (body many dn).sum - (body many dn).sum / 256 * 256 = (body many dn).sum % 256 := by omega
  have hsu := body_len many dn
  have fT := hT.ft _ (fateAt_mem hT.pos t)
  have lN := newR_len (t : Int) 0 1 t (pack many dn) (fateAt T t)
  refine wss_cons (ws_expr (we_meth L.tl.cls L.send (hr.mono (by omega)) (EE.to (ee_v 4 rfl) ⟨aL, _, rfl, l1, rfl, EA.to (ds := [.int (t : Int), iD [0, 1], iD (pack many dn)]) (ea_cons (ee_v 10 rfl) (ea_cons (ee_tup (ea_cons ee_int (ea_cons ee_int ea_nil))) (ea_cons (EE.is (ee_op op_catA (ee_tup (ea_cons (EE.is (ee_sub (ee_cb (cr_sumT rfl) L.B.sum bi_sum (ea_cons (ee_v 14 (d := iD (body many dn)) rfl) ea_nil) (cd_sumT ⟨rfl, rfl⟩)) (ee_mul (ee_fdiv (ee_cb (cr_sumT rfl) L.B.sum bi_sum (ea_cons (ee_v 14 (d := iD (body many dn)) rfl) ea_nil) (cd_sumT ⟨rfl, rfl⟩)) ee_int ⟨by decide, by decide⟩) ee_int (.inr ⟨by decide, by decide⟩))) (congrArg D.int sm)) ea_nil)) (ee_v 14 (d := iD (body many dn)) rfl) (od_catT (by rw [List.length_map, hbl]; exact Nat.le_of_lt (lt1000 (by show 1 + 3 * min 16 (many - dn) < 1000; omega))) ⟨rfl, rfl⟩)) rfl) ea_nil))) ⟨rfl, aL, oL, sd, cd, uw, (t : Int), 0, 1, pack many dn, T, rfl, h.line, hl.ok, hl.s1, hT.g, by have := hl.len; omega, by omega, by have := pack_small many dn; omega, fun M2 hL2 hC2 => ?_⟩⟩)))
  rw [hl.c1] at hL2
  have h2 := h.setL hL2 hC2
  obtain ⟨qs, qc, qu, ow2, m1, m2, m3, m4, m5⟩ := h2.line.ex
  obtain ⟨tp, te, t1, t2⟩ := h2.tak.ex
  have plen := pt_len cd [0, 1] (.int ((t + 1 : Nat) : Int))
  have c0 : cntOf (pt cd [0, 1] (.int ((t + 1 : Nat) : Int))) [1, 0] = t := by rw [cnt_put_ne cd (t + 1) (by decide)]; exact hl.c0
  refine wss_one (ws_expr (we_meth L.tl.cls L.send (hr.mono (by omega)) (EE.to (ee_v 4 rfl) ⟨aL, _, rfl, m1, rfl, EA.to (ds := [.int (t : Int), iD [1, 0], iD [(nx : Int), (nx : Int)]]) (ea_cons (ee_v 10 rfl) (ea_cons (ee_tup (ea_cons ee_int (ea_cons ee_int ea_nil))) (ea_cons (ee_tup (ea_cons (we_meth0 L.tt.cls L.next (hr.mono (by omega)) (EE.to (ee_v 6 rfl) ⟨aT, _, rfl, t1, rfl, ⟨aT, oT, g7, nx, kd, rfl, h2.tak, rfl, rfl⟩⟩)) (ea_cons (we_meth0 L.tt.cls L.next (hr.mono (by omega)) (EE.to (ee_v 6 rfl) ⟨aT, _, rfl, t1, rfl, ⟨aT, oT, g7, nx, kd, rfl, h2.tak, rfl, rfl⟩⟩)) ea_nil))) ea_nil))) ⟨rfl, aL, oL, sd, _, _, (t : Int), 1, 0, [(nx : Int), (nx : Int)], B, rfl, h2.line, cd_put hl.ok _ _, hl.s0, hB.g, by have := hl.len; omega, by rw [List.length_append, lN]; omega, by show 2 ≤ 900; decide, fun M3 hL3 hC3 => ?_⟩⟩)))
  rw [c0] at hL3
  refine q M3 _ oL _ ⟨rfl, rfl, rfl, rfl, rfl, rfl, rfl, rfl, rfl, rfl, trivial⟩ ⟨hl.s1, hl.s0, cd_put (cd_put hl.ok _ _) _ _, ?_, ?_, cnt_put_self _ _ _⟩ (h2.setL hL3 hC3)
  · have := pt_len (pt cd [0, 1] (.int ((t + 1 : Nat) : Int))) [1, 0] (.int ((t + 1 : Nat) : Int))
    have := hl.len
    omega
  · rw [cnt_put_ne _ (t + 1) (by decide)]
    exact cnt_put_self _ _ _
end
end K42
set_option Elab.async false
set_option linter.all false
set_option maxRecDepth 100000
set_option maxHeartbeats 4000000
namespace K42
open PySem L2 PyProof.Rows DL
/-! ### _law_talk: a tick -/
def hset (f : Nat → Nat) (t v : Nat) : Nat → Nat := fun s => if s = t then v else f s
theorem hset_lt {f : Nat → Nat} {t v s : Nat} (h : s < t) : hset f t v s = f s := by
  unfold hset
  rw [if_neg (by omega)]
theorem hset_at (f : Nat → Nat) (t v : Nat) : hset f t v t = v := by
  unfold hset
  rw [if_pos rfl]
abbrev rowT (T : Sc) (many : Nat) (dh : Nat → Nat) (s i : Nat) (cp : Cp) : Rw := ⟨(s : Int) + cp.1, 0, 1, s, i, hurtF (pack many (dh s)) cp.2⟩
abbrev rowB (nh : Nat → Nat) (s i : Nat) (cp : Cp) : Rw := ⟨(s : Int) + cp.1, 1, 0, s, i, hurtF [(nh s : Int), (nh s : Int)] cp.2⟩
structure TI (T B : Sc) (many t : Nat) (dh nh : Nat → Nat) (uw : List Rw) (dn nx : Nat) : Prop where
  hist : Hist T B many dh nh t
  rows : ∀ r ∈ uw, RowT T many dh t r ∨ RowB B nh t r
  full1 : ∀ (s i : Nat) (cp : Cp), s < t → (fateAt T s)[i]? = some cp → (t : Int) ≤ (s : Int) + cp.1 → rowT T many dh s i cp ∈ uw
  full0 : ∀ (s i : Nat) (cp : Cp), s < t → (fateAt B s)[i]? = some cp → (t : Int) ≤ (s : Int) + cp.1 → rowB nh s i cp ∈ uw
  cd : ∀ s, s < t → dh s ≤ dn
  cn : ∀ s, s < t → nh s ≤ nx
  a : ∀ (s : Nat) (d : Int), s < t → (d, none) ∈ fateAt T s → (s : Int) + d < (t : Int) → min (dh s + 16) many ≤ nx
  b : ∀ (s : Nat) (d : Int), s < t → (d, none) ∈ fateAt B s → (s : Int) + d < (t : Int) → nh s ≤ dn
  len : uw.length ≤ 4 * t
theorem TI.zero (T B : Sc) (many : Nat) (dh nh : Nat → Nat) (dn nx : Nat) : TI T B many 0 dh nh [] dn nx :=
  ⟨⟨fun s u _ h => absurd h (Nat.not_lt_zero _), fun s u _ h => absurd h (Nat.not_lt_zero _), fun s h => absurd h (Nat.not_lt_zero _), fun s h => absurd h (Nat.not_lt_zero _), fun u h => absurd h (Nat.not_lt_zero _), fun u h => absurd h (Nat.not_lt_zero _)⟩, fun r h => absurd h List.not_mem_nil, fun s i cp h => absurd h (Nat.not_lt_zero _), fun s i cp h => absurd h (Nat.not_lt_zero _), fun s h => absurd h (Nat.not_lt_zero _), fun s h => absurd h (Nat.not_lt_zero _), fun s d h => absurd h (Nat.not_lt_zero _), fun s d h => absurd h (Nat.not_lt_zero _), Nat.le_refl _⟩
theorem due1 {t : Int} {b : Int} {r : Rw} : isDue t b r = (decide (r.b = b) && decide (r.t ≤ t)) := rfl
theorem TI.step {T B : Sc} {many t : Nat} {dh nh : Nat → Nat} {uw : List Rw} {dn nx dn' nx' : Nat} (h : TI T B many t dh nh uw dn nx) (hT : ScS T) (hB : ScS B) (hd : dn ≤ dn') (hn : nx ≤ nx') (hdn : dn' ≤ nx') (hm : nx' ≤ many)
    (g1 : ∀ (s i : Nat) (cp : Cp), s < t → (fateAt T s)[i]? = some cp → cp.2 = none → (s : Int) + cp.1 ≤ (t : Int) → rowT T many dh s i cp ∈ uw → min (dh s + 16) many ≤ nx')
    (g0 : ∀ (s i : Nat) (cp : Cp), s < t → (fateAt B s)[i]? = some cp → cp.2 = none → (s : Int) + cp.1 ≤ (t : Int) → rowB nh s i cp ∈ uw.filter (fun r => !isDue (t : Int) 1 r) → nh s ≤ dn') :
    TI T B many (t + 1) (hset dh t dn') (hset nh t nx') (((uw.filter fun r => !isDue (t : Int) 1 r).filter fun r => !isDue (t : Int) 0 r) ++ newR (t : Int) 0 1 t (pack many dn') (fateAt T t) ++ newR (t : Int) 1 0 t [(nx' : Int), (nx' : Int)] (fateAt B t)) dn' nx' := by
  have kA : ∀ (s : Nat) (d : Int), s < t → (d, none) ∈ fateAt T s → (s : Int) + d ≤ (t : Int) → min (dh s + 16) many ≤ nx' := fun s d hs hm1 hle => by
    by_cases c : (s : Int) + d < (t : Int)
    · exact Nat.le_trans (h.a s d hs hm1 c) hn
    · obtain ⟨i, hi⟩ := List.mem_iff_getElem?.mp hm1
      exact g1 s i _ hs hi rfl hle (h.full1 s i _ hs hi (by show (t : Int) ≤ (s : Int) + d; omega))
  have kB : ∀ (s : Nat) (d : Int), s < t → (d, none) ∈ fateAt B s → (s : Int) + d ≤ (t : Int) → nh s ≤ dn' := fun s d hs hm1 hle => by
    by_cases c : (s : Int) + d < (t : Int)
    · exact Nat.le_trans (h.b s d hs hm1 c) hd
    · obtain ⟨i, hi⟩ := List.mem_iff_getElem?.mp hm1
      exact g0 s i _ hs hi rfl hle (List.mem_filter.mpr ⟨h.full0 s i _ hs hi (by show (t : Int) ≤ (s : Int) + d; omega), rfl⟩)
  have d1 : ∀ (s i : Nat) (cp : Cp), (fateAt T s)[i]? = some cp → 1 ≤ cp.1 := fun s i cp e => (hT.cp _ (fateAt_mem hT.pos s) _ (List.mem_of_getElem? e)).1
  have d0 : ∀ (s i : Nat) (cp : Cp), (fateAt B s)[i]? = some cp → 1 ≤ cp.1 := fun s i cp e => (hB.cp _ (fateAt_mem hB.pos s) _ (List.mem_of_getElem? e)).1
  refine ⟨⟨fun s u hsu hu => ?_, fun s u hsu hu => ?_, fun s hs => ?_, fun s hs => ?_, fun u hu s d hs hm1 hle => ?_, fun u hu s d hs hm1 hle => ?_⟩, fun r hr => ?_, fun s i cp hs hc hle => ?_, fun s i cp hs hc hle => ?_, fun s hs => ?_, fun s hs => ?_, fun s d hs hm1 hlt => ?_, fun s d hs hm1 hlt => ?_, ?_⟩
  · by_cases eu : u = t
    · subst eu
      rw [hset_at]
      by_cases es : s = u
      · rw [es, hset_at]; exact Nat.le_refl _
      · rw [hset_lt (by omega)]; exact Nat.le_trans (h.cd s (by omega)) hd
    · rw [hset_lt (by omega), hset_lt (by omega)]; exact h.hist.dmono s u hsu (by omega)
  · by_cases eu : u = t
    · subst eu
      rw [hset_at]
      by_cases es : s = u
      · rw [es, hset_at]; exact Nat.le_refl _
      · rw [hset_lt (by omega)]; exact Nat.le_trans (h.cn s (by omega)) hn
    · rw [hset_lt (by omega), hset_lt (by omega)]; exact h.hist.nmono s u hsu (by omega)
  · by_cases es : s = t
    · rw [es, hset_at, hset_at]; exact hdn
    · rw [hset_lt (by omega), hset_lt (by omega)]; exact h.hist.dn s (by omega)
  · by_cases es : s = t
    · rw [es, hset_at]; exact hm
    · rw [hset_lt (by omega)]; exact h.hist.nm s (by omega)
  · by_cases eu : u = t
    · subst eu
      rw [hset_lt hs, hset_at]
      exact kA s d hs hm1 hle
    · rw [hset_lt (by omega), hset_lt (by omega)]
      exact h.hist.a u (by omega) s d hs hm1 hle
  · by_cases eu : u = t
    · subst eu
      rw [hset_lt hs, hset_at]
      exact kB s d hs hm1 hle
    · rw [hset_lt (by omega), hset_lt (by omega)]
      exact h.hist.b u (by omega) s d hs hm1 hle
  · rcases List.mem_append.mp hr with hr | hr
    · rcases List.mem_append.mp hr with hr | hr
      · rcases h.rows r (List.mem_filter.mp (List.mem_filter.mp hr).1).1 with ⟨s, i, cp, hs, hc, e⟩ | ⟨s, i, cp, hs, hc, e⟩
        · exact .inl ⟨s, i, cp, by omega, hc, by rw [hset_lt hs]; exact e⟩
        · exact .inr ⟨s, i, cp, by omega, hc, by rw [hset_lt hs]; exact e⟩
      · obtain ⟨i, cp, hc, e⟩ := newR_mem hr
        exact .inl ⟨t, i, cp, by omega, hc, by rw [hset_at]; exact e⟩
    · obtain ⟨i, cp, hc, e⟩ := newR_mem hr
      exact .inr ⟨t, i, cp, by omega, hc, by rw [hset_at]; exact e⟩
  · by_cases es : s = t
    · subst es
      refine List.mem_append_left _ (List.mem_append_right _ ?_)
      unfold rowT
      rw [hset_at]
      exact List.mem_of_getElem? (newR_at hc)
    · refine List.mem_append_left _ (List.mem_append_left _ ?_)
      unfold rowT
      rw [hset_lt (by omega)]
      refine List.mem_filter.mpr ⟨List.mem_filter.mpr ⟨h.full1 s i cp (by omega) hc (by omega), ?_⟩, rfl⟩
      rw [due1]
      show (!(decide ((1 : Int) = 1) && decide ((s : Int) + cp.1 ≤ (t : Int)))) = true
      rw [decide_eq_false (p := (s : Int) + cp.1 ≤ (t : Int)) (by omega), Bool.and_false]
      rfl
  · by_cases es : s = t
    · subst es
      refine List.mem_append_right _ ?_
      unfold rowB
      rw [hset_at]
      exact List.mem_of_getElem? (newR_at hc)
    · refine List.mem_append_left _ (List.mem_append_left _ ?_)
      unfold rowB
      rw [hset_lt (by omega)]
      refine List.mem_filter.mpr ⟨List.mem_filter.mpr ⟨h.full0 s i cp (by omega) hc (by omega), rfl⟩, ?_⟩
      rw [due1]
      show (!(decide ((0 : Int) = 0) && decide ((s : Int) + cp.1 ≤ (t : Int)))) = true
      rw [decide_eq_false (p := (s : Int) + cp.1 ≤ (t : Int)) (by omega), Bool.and_false]
      rfl
  · by_cases es : s = t
    · rw [es, hset_at]; exact Nat.le_refl _
    · rw [hset_lt (by omega)]; exact Nat.le_trans (h.cd s (by omega)) hd
  · by_cases es : s = t
    · rw [es, hset_at]; exact Nat.le_refl _
    · rw [hset_lt (by omega)]; exact Nat.le_trans (h.cn s (by omega)) hn
  · obtain ⟨i, hi⟩ := List.mem_iff_getElem?.mp hm1
    have : 1 ≤ d := d1 s i _ hi
    rw [hset_lt (by omega)]
    exact kA s d (by omega) hm1 (by omega)
  · obtain ⟨i, hi⟩ := List.mem_iff_getElem?.mp hm1
    have : 1 ≤ d := d0 s i _ hi
    rw [hset_lt (by omega)]
    exact kB s d (by omega) hm1 (by omega)
  · rw [List.length_append, List.length_append, newR_len, newR_len]
    have := hT.ft _ (fateAt_mem hT.pos t)
    have := hB.ft _ (fateAt_mem hB.pos t)
    have := List.length_filter_le (fun r => !isDue (t : Int) 1 r) uw
    have := List.length_filter_le (fun r => !isDue (t : Int) 0 r) (uw.filter fun r => !isDue (t : Int) 1 r)
    have := h.len
    omega
section
variable {P : Program} {w : World} {K : PySem.W.Frag} {mg : Str → Option Value} {base : Heap} {CL CG CT : Addr}
theorem t_tick {f : Addr} {cdv : Value} {A : Around} {outer : List Env} {s : Shared} {H : Hp} {E : XK} {p : Addr} {T B : Sc} {limit : Int} {t : Nat} {dh nh : Nat → Nat} {M0 M : Mem} {aL aG aT pf : Addr} {oL oG oT : List Addr} {sd cd : DT} {uw : List Rw} {many dn nx : Nat} {kd : List Nat} {E' : EndsD} (L : TC P w K mg base CL CG CT) (hr : Room 3 (XT P w K mg base f cdv A outer s H E).A) (hT : ScS T) (hB : ScS B) (hm : many ≤ 20) (ht : t ≤ 100) (h : TS M0 M CL CG CT aL aG aT pf oL oG oT sd cd uw many dn nx kd) (hl : LnT T B sd cd uw t) (hI : TI T B many t dh nh uw dn nx)
    (q : ∀ M' sg' oL' oG' cd' uw' dn' nx' kd' dh' nh', Fg (sgT p T B many aL aG aT pf limit (t : Int)) sg' → TS M0 M' CL CG CT aL aG aT pf oL' oG' oT sd cd' uw' many dn' nx' kd' → LnT T B sd cd' uw' (t + 1) → TI T B many (t + 1) dh' nh' uw' dn' nx' → E'.nx sg' M') :
    WSs (XT P w K mg base f cdv A outer s H E) tickB (sgT p T B many aL aG aT pf limit (t : Int)) M E' := by
  have hz := hI.len
  have f1 := List.length_filter_le (fun r => !isDue (t : Int) 1 r) uw
  have f0 := List.length_filter_le (fun r => !isDue (t : Int) 0 r) (uw.filter fun r => !isDue (t : Int) 1 r)
  show WSs _ (tickB.getD 0 (.Pass ⟨0, 0, 0, 0⟩) :: tickB.getD 1 (.Pass ⟨0, 0, 0, 0⟩) :: tickB.drop 2) _ _ _
  refine wss_cons (t_arr1 (dh := dh) (nh := nh) L hr hT hm h (by omega) hI.rows (fun s hs => Nat.le_trans (hI.hist.dn s hs) (hI.cn s hs)) fun M1 sg1 oL1 nx1 kd1 hg1 h1 hle1 hgot1 => wss_fg hg1 ?_)
  refine wss_cons (t_arr0 (dh := dh) (nh := nh) L hr hB hm h1 (by omega) (fun r hr => hI.rows r (List.mem_filter.mp hr).1) (fun s hs => Nat.le_trans (hI.cn s hs) hle1) fun M2 sg2 oL2 oG2 dn2 hg2 h2 hle2 hgot2 => wss_fg hg2 ?_)
  refine t_tell L hr hT hB hm ht h2 ⟨hl.s1, hl.s0, hl.ok, hl.len, hl.c1, hl.c0⟩ (by omega) fun M3 sg3 oL3 cd3 hg3 hl3 h3 => ?_
  exact q M3 sg3 oL3 oG2 cd3 _ dn2 nx1 kd1 _ _ hg3 h3 hl3 (hI.step hT hB hle2 hle1 h2.dnx h2.nm hgot1 hgot2)
end
end K42
set_option Elab.async false
set_option linter.all false
set_option maxRecDepth 100000
set_option maxHeartbeats 4000000
namespace K42
open PySem L2 PyProof.Rows DL
/-! ### _law_talk: whole -/
theorem Ch.flat {M M' : Mem} (c : Ch M M' [] []) (o : List Addr) : Ch M M' o o := ⟨fun x h _ => c.same x h List.not_mem_nil, fun x h => .inl h⟩
theorem up_ch {M M' : Mem} (h : Up M M') : Ch M M' [] [] := ⟨fun x hx _ => by
  cases e : M x with
  | none => exact absurd e hx
  | some u => exact h x u e, fun x hx => absurd hx List.not_mem_nil⟩
section
variable {M0 M M' : Mem} {CL CG CT aL aG aT pf : Addr} {oL oG oT oG' : List Addr} {sd cd : DT} {uw : List Rw} {many many' dn nx dn' : Nat} {kd : List Nat}
theorem TS.flat (h : TS M0 M CL CG CT aL aG aT pf oL oG oT sd cd uw many dn nx kd) (c : Ch M M' [] []) : TS M0 M' CL CG CT aL aG aT pf oL oG oT sd cd uw many dn nx kd :=
  h.setL (h.line.ch (Ch.flat c []) fun x _ => List.not_mem_nil).1 (Ch.flat c oL)
/-- one more waits -/
theorem TS.more (h : TS M0 M CL CG CT aL aG aT pf oL oG oT sd cd uw many dn nx kd) (hG : GivAt M' CG aG oG' (wsOf many' dn) dn) (c : Ch M M' oG oG') (hm : many ≤ many') : TS M0 M' CL CG CT aL aG aT pf oL oG' oT sd cd uw many' dn nx kd := by
  obtain ⟨g1, g2⟩ := h.line.ch c h.lg
  obtain ⟨t1, t2⟩ := h.tak.ch c fun x hx z => h.gt x z hx
  obtain ⟨p1, p2⟩ := c.at h.fnd h.pg
  refine ⟨g1, hG, t1, p1, g2, h.lt, fun x hx z => t2 x z hx, h.pl, p2, h.pt, fun k hk => Nat.lt_of_lt_of_le (h.kdm k hk) hm, Nat.le_trans h.nm hm, h.dnx, h.base.trans ⟨fun x hx hx2 => c.same x hx fun z => hx2 (by simp [z]), fun x hx => ?_⟩⟩
  simp only [List.mem_cons, List.mem_append] at hx ⊢
  rcases hx with e | e | e | e
  · exact .inl (.inl e)
  · exact .inl (.inr (.inl e))
  · exact (c.old x e).imp (fun z => .inr (.inr (.inl z))) id
  · exact .inl (.inr (.inr (.inr e)))
end
section
variable {P : Program} {w : World} {K : PySem.W.Frag} {mg : Str → Option Value} {base : Heap} {CL CG CT : Addr}
/-- _law_same, of a list that may change -/
def S_sameL (n : Nat) : SpD := fun ds M Q => ∃ (a : D) (as bs : List D), ds = [a, .lst bs] ∧ LsD M a as ∧ as.length ≤ 900 ∧ bs.length ≤ 900 ∧ (∀ d ∈ as, wf 900 n d = true) ∧ (∀ d ∈ bs, wf 900 n d = true) ∧ Q (.bl (eqD (.lst as) (.lst bs))) M
theorem d_sameL {n : Nat} (F : Df K mg "_law_same" s_law_same ["a", "b"]) (B : Blt mg) (C : Cal P w K mg base n "_law_same" 2 (S_same n)) : Cal P w K mg base (n + 1) "_law_same" 2 (S_sameL n) := by
  refine dfn' F sc_law_same rfl fun f cdv A outer s H E ds M Q hr hl hs => ?_
  obtain ⟨a, as, bs, rfl, hL, za, zb, wa, wb, q⟩ := hs
  have nd := sc_law_same.nd
  have e1 : isT a = false := by rcases hL with rfl | ⟨p, rfl, _⟩ <;> rfl
  have e2 : isL a = true := by rcases hL with rfl | ⟨p, rfl, _⟩ <;> rfl
  have la : LkD M a := by
    rcases hL with rfl | ⟨p, rfl, hp⟩
    · exact trivial
    · exact ⟨as, hp⟩
  refine wss_cons (ws_ifE (k := true) (ww_pt (ew_or (p := false) (q := true) (ww_pt (ew_and (p := false) (q := true) (ET.is (et_val (ee_isT B.isinstance B.tuple (ee_v 0 rfl) la)) e1) fun h => Bool.noConfusion h)) fun _ => ww_or1 (ww_pt (ew_and (p := true) (q := true) (ET.is (et_val (ee_isL B.isinstance B.list (ee_v 0 rfl) la)) e2) fun _ => ww_and1 (et_val (ee_isL B.isinstance B.list (ee_v 1 (d := .lst bs) rfl) trivial)))))) (fun _ => ?_) fun h => Bool.noConfusion h)
  have e : eqD (.lst as) (.lst bs) = (decide ((as.length : Int) = (bs.length : Int)) && ((List.range as.length).map fun j => eqD (as.getD j .non) (bs.getD j .non)).all id) := (eqD_of ⟨fun h => congrArg _ (eq_lists.mp h), fun h => eq_lists.mpr (D.lst.inj h)⟩).symm
  rw [e] at q
  refine wss_one (ws_ret (EE.to (ee_and (ee_eqI (ee_cb call_len B.len bi_len (ea_cons (ee_v 0 rfl) ea_nil) (cd_lenL hL ⟨rfl, rfl⟩)) (ee_cb call_len B.len bi_len (ea_cons (ee_v 1 rfl) ea_nil) (cd_lenL (.inl rfl) ⟨rfl, rfl⟩))) fun hl => we_one ?_) q))
  have hl' : as.length = bs.length := by have := of_decide_eq_true hl; omega
  refine ee_cb (cr_all rfl) B.all bi_all (ea_cons (ee_lc1 2 (ds := rngD 0 as.length) (fun d => .bl (eqD (as.getD (intOf d).toNat .non) (bs.getD (intOf d).toNat .non))) rfl nd (wi_rng1 B.range (EA.to (ea_cons (ee_cb call_len B.len bi_len (ea_cons (ee_v 0 rfl) ea_nil) (cd_lenL hL ⟨rfl, rfl⟩)) ea_nil) ⟨_, rfl, by omega, by omega, rfl, rfl, trivial⟩)) (by rw [rngD_len]; exact lt1000 (by omega)) fun j d hd s H C' cl fp => ?_) ea_nil) (cd_all (bs := (List.range as.length).map fun j => eqD (as.getD j .non) (bs.getD j .non)) (.inl ?_) ⟨rfl, rfl⟩)
  · obtain ⟨hj, rfl⟩ := rngD_at hd
    have ej : (intOf (.int (0 + (j : Int)))).toNat = j := by show (0 + (j : Int)).toNat = j; omega
    rw [ej]
    refine we_call C hr (EA.to (ea_cons (ee_ix ix_list (ee_v 0 rfl) (ee_v 2 rfl) (od_ixL hL (atI_of hj) ⟨rfl, rfl⟩)) (ea_cons (ee_ix ix_list (ee_v 1 rfl) (ee_v 2 rfl) (od_ixL (.inl rfl) (atI_of (by omega)) ⟨rfl, rfl⟩)) ea_nil)) ⟨rfl, _, _, rfl, wa _ ?_, wb _ ?_, rfl, rfl⟩)
    · rw [DL.getD_at hj]; exact List.getElem_mem hj
    · rw [DL.getD_at (by omega)]; exact List.getElem_mem _
  · unfold rngD
    rw [List.map_map, List.map_map]
    congr 1
    apply List.map_congr_left
    intro j _
    show D.bl (eqD (as.getD (0 + (j : Int)).toNat .non) (bs.getD (0 + (j : Int)).toNat .non)) = D.bl (eqD (as.getD j .non) (bs.getD j .non))
    rw [show (0 + (j : Int)).toNat = j by omega]
abbrev sg0 (p : Addr) (T B : Sc) (many : Nat) (aL aG aT pf : Addr) : Sg := [some (.ptr p), some (scD T), some (scD B), some (.int (many : Int)), some (.ptr aL), some (.ptr aG), some (.ptr aT), some (.ptr pf), none, none, none, none, none, none, none]
def S_talk : SpD := fun ds M Q => ∃ (p : Addr) (T B : Sc) (many : Nat), ds = [.ptr p, scD T, scD B, .int (many : Int)] ∧ ScS T ∧ ScS B ∧ 1 ≤ many ∧ many ≤ 20 ∧ ∀ (nx : Nat) (M' : Mem) (pf : Addr), nx ≤ many → M' pf = some (.lst (rowsG g7 0 nx)) → Ch M M' [] [pf] → Q (.ptr pf) M'
theorem wsOf_snoc (i : Nat) : wsOf i 0 ++ [g7 i] = wsOf (i + 1) 0 := by
  unfold wsOf
  rw [show i + 1 - 0 = (i - 0) + 1 by omega, List.range'_concat, List.map_append, show 0 + 1 * (i - 0) = i by omega]
  rfl
/-- the ticks, and the end -/
theorem t_ticks {f : Addr} {cdv : Value} {A : Around} {outer : List Env} {s : Shared} {H : Hp} {E : XK} {p : Addr} {T B : Sc} {lim n : Nat} {M0 M : Mem} {aL aG aT pf : Addr} {oL oG oT : List Addr} {sd : DT} {many : Nat} {Q : D → Mem → Prop} (L : TC P w K mg base CL CG CT) (hr : Room 3 (XT P w K mg base f cdv A outer s H E).A) (hT : ScS T) (hB : ScS B) (hm0 : 1 ≤ many) (hm : many ≤ 20) (hlim : lim ≤ 36) (hn : n = if 0 < lim then lim + 1 else 20)
    (hst : 0 < lim → starvedB T = false ∧ starvedB B = false ∧ (lim : Int) = (1 + ((many : Int) - 1) / 16) * (newsI T + newsI B))
    (h : TS M0 M CL CG CT aL aG aT pf oL oG oT sd [] [] many 0 0 []) (hl : LnT T B sd [] [] 0)
    (q : ∀ nx M', nx ≤ many → M' pf = some (.lst (rowsG g7 0 nx)) → Ch M0 M' [] [pf] → Q (.ptr pf) M') :
    WSs (XT P w K mg base f cdv A outer s H E) ((defBody s_law_talk).drop 3) ((sg0 p T B many aL aG aT pf).set 9 (some (.int (lim : Int)))) M { nx := fun _ M' => Q .non M', rt := Q } := by
  have nd := sc_law_talk.nd
  subst hn
  have hlI : ((if 0 < lim then lim + 1 else 20 : Nat) : Int) ≤ 37 := by split <;> omega
  refine wss_cons (ws_for PassesOwn.never rfl (Qi := fun es C' M2 => es = rngD 0 (if 0 < lim then lim + 1 else 20) ∧ M2 = M ∧ ∀ M1, C' M1) (wi_rng1 L.B.range (EA.to (ea_cons (ee_if (k := decide ((0 : Int) < (lim : Int))) (x := .int ((if 0 < lim then lim + 1 else 20 : Nat) : Int)) (et_gt (ee_v 9 rfl) ee_int) (fun hk => EE.is (ee_add (ee_v 9 rfl) ee_int) (congrArg D.int ?_)) (fun hk => EE.is ee_int (congrArg D.int ?_))) ea_nil) ⟨_, rfl, by omega, by omega, by rw [Int.toNat_natCast], rfl, fun _ => trivial⟩)) fun es C' M2 ⟨e1, e2, hC⟩ => ?_)
  · have := of_decide_eq_true hk
    rw [if_pos (by omega)]
    omega
  · have := of_decide_eq_false hk
    rw [if_neg (by omega)]
    rfl
  subst e1; subst e2
  have hle : (if 0 < lim then lim + 1 else 20) ≤ 37 := by split <;> omega
  generalize hnn : (if 0 < lim then lim + 1 else 20) = n at hle ⊢
  refine ⟨fun i sg1 M1 => i ≤ n ∧ ∃ oL oG cd uw dn nx kd dh nh, Fg ((sg0 p T B many aL aG aT pf).set 9 (some (.int (lim : Int)))) sg1 ∧ TS M0 M1 CL CG CT aL aG aT pf oL oG oT sd cd uw many dn nx kd ∧ LnT T B sd cd uw i ∧ TI T B many i dh nh uw dn nx, ⟨Nat.zero_le _, oL, oG, [], [], 0, 0, [], fun _ => 0, fun _ => 0, ⟨rfl, rfl, rfl, rfl, rfl, rfl, rfl, rfl, rfl, trivial⟩, h, hl, TI.zero _ _ _ _ _ _ _⟩, fun i sg1 M1 _ => hC _, fun i d sg1 M1 he ⟨_, oL1, oG1, cd1, uw1, dn1, nx1, kd1, dh1, nh1, hg, h1, hl1, hI1⟩ => ?_, fun sg1 M1 ⟨_, oL1, oG1, cd1, uw1, dn1, nx1, kd1, dh1, nh1, hg, h1, hl1, hI1⟩ => wss_fg hg ?_⟩
  · obtain ⟨hi, rfl⟩ := rngD_at he
    refine ⟨_, _, wg_name 10 nd, wss_fg (fg_set hg 10 _) ?_⟩
    rw [Int.zero_add]
    exact t_tick L hr hT hB hm (by omega) h1 hl1 hI1 fun M3 sg3 oL3 oG3 cd3 uw3 dn3 nx3 kd3 dh3 nh3 hg3 h3 hl3 hI3 => ⟨by omega, oL3, oG3, cd3, uw3, dn3, nx3, kd3, dh3, nh3, fg_trans (b := sgT p T B many aL aG aT pf (lim : Int) (i : Int)) ⟨rfl, rfl, rfl, rfl, rfl, rfl, rfl, rfl, rfl, trivial⟩ hg3, h3, hl3, hI3⟩
  rw [rngD_len] at hl1 hI1
  have hall : 0 < lim → nx1 = many ∧ dn1 = many := fun hp => by
    obtain ⟨sT, sB, hli⟩ := hst hp
    obtain ⟨b1, b2⟩ := news_bd hT sT
    obtain ⟨b3, b4⟩ := news_bd hB sB
    obtain ⟨NT, eT⟩ : ∃ NT : Nat, newsI T = (NT : Int) := ⟨(newsI T).toNat, by omega⟩
    obtain ⟨NB, eB⟩ : ∃ NB : Nat, newsI B = (NB : Int) := ⟨(newsI B).toNat, by omega⟩
    rw [if_pos hp] at hnn
    have hj : ∃ j : Nat, many ≤ 16 * j ∧ j * (NT + NB) = lim := by
      rw [eT, eB] at hli
      by_cases c : many ≤ 16
      · refine ⟨1, by omega, ?_⟩
        rw [show 1 + ((many : Int) - 1) / 16 = 1 by omega] at hli
        omega
      · refine ⟨2, by omega, ?_⟩
        rw [show 1 + ((many : Int) - 1) / 16 = 2 by omega] at hli
        omega
    obtain ⟨j, j1, j2⟩ := hj
    have lv := live hT hB sT sB eT eB hI1.hist j (by omega)
    rw [j2] at lv
    have := hI1.cd lim (by omega)
    have := h1.dnx
    have := h1.nm
    omega
  have lf : ((rowsG g7 0 nx1).length : Int) = (nx1 : Int) := by
    unfold rowsG
    rw [List.length_map, List.length_range']
    rfl
  have lw : ((wsOf many dn1).length : Int) = ((many - dn1 : Nat) : Int) := by rw [wsOf_len]
  obtain ⟨gx, g1, g2⟩ := giv_ls h1.giv
  refine wss_cons (ws_ifE (k := false) (ET.is (ww_pt (ew_and (p := decide ((0 : Int) < (lim : Int))) (q := false) (et_gt (ee_v 9 rfl) ee_int) fun hp => ww_and1 (ww_pt (ew_or (p := false) (q := false) (ET.is (et_neI (EE.is (ee_cb call_len L.B.len bi_len (ea_cons (ee_v 7 rfl) ea_nil) (cd_lenL (.inr ⟨pf, rfl, h1.fnd⟩) ⟨rfl, rfl⟩)) (congrArg D.int lf)) (ee_v 3 rfl)) ?_) fun _ => ww_or1 (ET.is (et_neI (EE.is (we_meth0 L.tg.cls L.wait (hr.mono (by omega)) (EE.to (ee_v 5 rfl) ⟨aG, _, rfl, g1, rfl, ⟨aG, oG1, wsOf many dn1, dn1, rfl, h1.giv, rfl, rfl⟩⟩)) (congrArg D.int lw)) ee_int) ?_))))) (Bool.and_false _)) (fun e => Bool.noConfusion e) fun _ => wss_nil ?_)
  · have := of_decide_eq_true hp
    rw [(hall (by omega)).1, decide_eq_true rfl]
    rfl
  · have := of_decide_eq_true hp
    rw [(hall (by omega)).2, decide_eq_true (by omega)]
    rfl
  exact wss_one (ws_ret (EE.to (ee_v 7 rfl) (q nx1 M1 h1.nm h1.fnd (h1.base.less fun x hx => by rw [List.mem_singleton.mp hx]; exact List.mem_cons_self))))
theorem d_talk (F : Df K mg "_law_talk" s_law_talk ["box", "there", "back", "many"]) (L : TC P w K mg base CL CG CT) : Cal P w K mg base 4 "_law_talk" 4 S_talk := by
  refine dfn' F sc_law_talk rfl fun f cdv A outer s H E ds M Q hr hl hs => ?_
  obtain ⟨p, T, B, many, rfl, hT, hB, hm0, hm, q⟩ := hs
  have nd := sc_law_talk.nd
  have hr2 : Room 2 (XT P w K mg base f cdv A outer s H E).A := hr.mono (by omega)
  refine wss_cons (ws_asg (we_tup (wa_cons (we_make L.makeL (hr.mono (by omega)) (EA.to (ds := [lsD [((0, 1), T), ((1, 0), B)]]) (ea_cons (ee_tup (ea_cons (ee_tup (ea_cons (ee_tup (ea_cons ee_int (ea_cons ee_int ea_nil))) (ea_cons (ee_v 1 rfl) ea_nil))) (ea_cons (ee_tup (ea_cons (ee_tup (ea_cons ee_int (ea_cons ee_int ea_nil))) (ea_cons (ee_v 2 rfl) ea_nil))) ea_nil))) ea_nil) fun aL haL => ⟨rfl, aL, [((0, 1), T), ((1, 0), B)], rfl, (show 2 ≤ 20 by decide), updM_same, fun M1 oL hL hC1 => ⟨rfl, wa_cons (we_make0 L.makeG (hr.mono (by omega)) fun aG haG => ⟨aG, rfl, updM_same, fun M2 oG hG ⟨gp, eG⟩ hC2 => ⟨rfl, wa_cons (we_make0 L.makeT (hr.mono (by omega)) fun aT haT => ⟨aT, rfl, updM_same, fun M3 oT hT3 hC3 => ⟨rfl, wa_cons (we_lstM (wa_nil ⟨Nat.zero_le _, fun pf hpf => wa_nil ⟨Nat.le_of_lt (lt1000 (show 4 < 1000 by decide)), _, _, wg_tup rfl (wgs_cons (wg_name 4 nd) (wgs_cons (wg_name 5 nd) (wgs_cons (wg_name 6 nd) (wgs_cons (wg_name 7 nd) wgs_nil)))), ?_⟩⟩))⟩⟩)⟩⟩)⟩⟩)))))
  have c1 : Ch M M1 [] oL := hC1.made haL
  have c2 : Ch M1 M2 [] oG := hC2.made haG
  have c3 : Ch M2 M3 [] oT := hC3.made haT
  have c4 : Ch M3 (updM M3 pf (some (.lst []))) [] [pf] := Ch.new hpf
  obtain ⟨l2, d2⟩ := hL.ch c2 fun x _ => List.not_mem_nil
  obtain ⟨l3, d3⟩ := l2.ch c3 fun x _ => List.not_mem_nil
  obtain ⟨l4, d4⟩ := l3.ch c4 fun x _ => List.not_mem_nil
  obtain ⟨g3, e3⟩ := hG.ch c3 fun x _ => List.not_mem_nil
  obtain ⟨g4, e4⟩ := g3.ch c4 fun x _ => List.not_mem_nil
  obtain ⟨t4, f4⟩ := (hT3 g7).ch c4 fun x _ => List.not_mem_nil
  have k12 : ∀ x, M1 x = none → M x = none := fun x h => by
    cases e : M x with
    | none => rfl
    | some u => rw [(c1.at e List.not_mem_nil).1] at h; cases h
  have k23 : ∀ x, M2 x = none → M x = none := fun x h => k12 x (by
    cases e : M1 x with
    | none => rfl
    | some u => rw [(c2.at e List.not_mem_nil).1] at h; cases h)
  have k34 : ∀ x, M3 x = none → M x = none := fun x h => k23 x (by
    cases e : M2 x with
    | none => rfl
    | some u => rw [(c3.at e List.not_mem_nil).1] at h; cases h)
  have nn : ∀ x ∈ ([] : List Addr), x ∈ oL := fun x h => absurd h List.not_mem_nil
  have no : ∀ {l : List Addr}, ∀ x ∈ ([] : List Addr), x ∈ l := fun x h => absurd h List.not_mem_nil
  have call : Ch M (updM M3 pf (some (.lst []))) [] [] := (((c1.less no).trans (c2.less no)).trans (c3.less no)).trans (c4.less no)
  have ts : TS M (updM M3 pf (some (.lst []))) CL CG CT aL aG aT pf oL oG oT (sdOf [((0, 1), T), ((1, 0), B)]) [] [] 0 0 0 [] := by
    refine ⟨l4, g4, t4, updM_same, fun x hx => d2 x hx, fun x hx => d3 x hx, fun x hx => e3 x hx, fun z => d4 pf z (List.mem_singleton.mpr rfl), fun z => e4 pf z (List.mem_singleton.mpr rfl), fun z => f4 pf z (List.mem_singleton.mpr rfl), fun k hk => absurd hk List.not_mem_nil, Nat.le_refl _, Nat.le_refl _, ⟨call.same, fun x hx => .inr ?_⟩⟩
    rcases List.mem_cons.mp hx with rfl | hx
    · exact k34 _ hpf
    · rcases List.mem_append.mp hx with hx | hx
      · exact (c1.old x hx).resolve_left List.not_mem_nil
      · rcases List.mem_append.mp hx with hx | hx
        · exact k12 x ((c2.old x hx).resolve_left List.not_mem_nil)
        · exact k23 x ((c3.old x hx).resolve_left List.not_mem_nil)
  have ln : LnT T B (sdOf [((0, 1), T), ((1, 0), B)]) [] [] 0 := ⟨rfl, rfl, fun x hx => absurd hx List.not_mem_nil, Nat.le_refl _, rfl, rfl⟩
  generalize updM M3 pf (some (.lst [])) = M4 at ts ⊢
  subst eG
  -- what is put
  refine wss_cons (ws_for PassesOwn.never rfl (Qi := fun es C' M2 => es = rngD 0 many ∧ M2 = M4 ∧ ∀ M1, C' M1) (wi_rng1 L.B.range (EA.to (ea_cons (ee_v 3 rfl) ea_nil) ⟨(many : Int), rfl, by omega, by omega, by rw [Int.toNat_natCast], rfl, fun _ => trivial⟩)) fun es C' M5 ⟨e1, e2, hC⟩ => ?_)
  subst e1; subst e2
  refine ⟨fun i sg1 M1 => Fg (sg0 p T B many aL aG aT pf) sg1 ∧ TS M M1 CL CG CT aL aG aT pf oL [aG, gp] oT (sdOf [((0, 1), T), ((1, 0), B)]) [] [] i 0 0 [], ⟨⟨rfl, rfl, rfl, rfl, rfl, rfl, rfl, rfl, trivial⟩, ts⟩, fun i sg1 M1 _ => hC _, fun i d sg1 M1 he ⟨hg, h1⟩ => ?_, fun sg1 M1 ⟨hg, h1⟩ => wss_fg hg ?_⟩
  · obtain ⟨hi, rfl⟩ := rngD_at he
    refine ⟨_, _, wg_name 8 nd, wss_fg (fg_set hg 8 _) ?_⟩
    rw [Int.zero_add]
    obtain ⟨gx, q1, q2⟩ := giv_ls h1.giv
    refine wss_one (ws_if (wt_cmp op_ne (Qa := fun d M5 => d = .int (i : Int) ∧ TS M M5 CL CG CT aL aG aT pf oL [aG, gp] oT (sdOf [((0, 1), T), ((1, 0), B)]) [] [] (i + 1) 0 0 []) (we_meth L.tg.cls L.put (hr.mono (by omega)) (EE.to (ee_v 5 rfl) ⟨aG, _, rfl, q1, rfl, EA.to (ds := [g7 i]) (ea_cons (ee_tup (ea_cons (ee_v 8 rfl) (ea_cons ee_int ea_nil))) ea_nil) ⟨rfl, aG, gp, wsOf i 0, 0, g7 i, rfl, h1.giv, by rw [wsOf_len]; omega, fun M5 hG5 hC5 => ⟨by rw [wsOf_len, Nat.zero_add, Nat.sub_zero], h1.more (by rw [← wsOf_snoc]; exact hG5) hC5 (Nat.le_succ i)⟩⟩⟩)) fun x M5 ⟨e1, h5⟩ => ?_))
    subst e1
    refine EE.to (ee_v 8 rfl) (od_neI ⟨_, rfl, ?_, ?_⟩)
    · intro z
      rw [decide_eq_true rfl] at z
      cases z
    · intro _
      exact wss_nil ⟨⟨rfl, rfl, rfl, rfl, rfl, rfl, rfl, rfl, trivial⟩, h5⟩
  rw [rngD_len] at h1
  -- the limit
  have main : ∀ (lim : Nat) (M5 : Mem), Ch M1 M5 [] [] → lim ≤ 36 → (0 < lim → starvedB T = false ∧ starvedB B = false ∧ (lim : Int) = (1 + ((many : Int) - 1) / 16) * (newsI T + newsI B)) → WSs (XT P w K mg base f cdv A outer s H E) ((defBody s_law_talk).drop 3) ((sg0 p T B many aL aG aT pf).set 9 (some (.int (lim : Int)))) M5 { nx := fun _ M' => Q .non M', rt := Q } := fun lim M5 hc hlim hst =>
    t_ticks L hr hT hB hm0 hm hlim rfl hst (h1.flat hc) ln fun nx M6 hnx hf hC6 => q nx M6 pf hnx hf hC6
  refine wss_cons (ws_set 9 nd (we_if (WT.imp (Q := fun k M5 => k = (starvedB T || starvedB B) ∧ M5 = M1) (ww_pt (ew_or (p := starvedB T) (q := starvedB B) (et_val (we_call L.starved (hr.mono (by omega)) (EA.to (ea_cons (ee_v 1 rfl) ea_nil) ⟨rfl, T, rfl, hT.g.ok, rfl, rfl⟩))) fun _ => ww_or1 (et_val (we_call L.starved (hr.mono (by omega)) (EA.to (ea_cons (ee_v 2 rfl) ea_nil) ⟨rfl, B, rfl, hB.g.ok, rfl, rfl⟩))))) fun k M5 ⟨e1, e2⟩ => ?_)))
  subst e2
  refine ⟨fun hk => EE.to ee_int (main 0 M5 (Ch.refl _ _) (by decide) fun z => absurd z (Nat.lt_irrefl _)), fun hk => ?_⟩
  rw [hk] at e1
  obtain ⟨sT, sB⟩ := Bool.or_eq_false_iff.mp e1.symm
  obtain ⟨b1, b2⟩ := news_bd hT sT
  obtain ⟨b3, b4⟩ := news_bd hB sB
  have hnb : 1 + ((many : Int) - 1) / 16 = 1 ∨ 1 + ((many : Int) - 1) / 16 = 2 := by omega
  refine we_op op_mul (Qa := fun d M6 => d = .int (1 + ((many : Int) - 1) / 16) ∧ M6 = M5) (ee_add ee_int (ee_fdiv (ee_sub (ee_v 3 rfl) ee_int) ee_int ⟨by decide, by decide⟩)) fun x M6 ⟨e1, e2⟩ => ?_
  subst e1; subst e2
  refine we_op op_add (Qa := fun d M7 => d = .int (newsI T) ∧ Up M6 M7) (we_call L.news (hr.mono (by omega)) (EA.to (ea_cons (ee_v 1 rfl) ea_nil) ⟨rfl, T, rfl, hT.g.ok, fun M7 hu => ⟨by unfold newsD; rw [sT]; rfl, hu⟩⟩)) fun x M7 ⟨e1, hu⟩ => ?_
  subst e1
  refine we_call L.news (hr.mono (by omega)) (EA.to (ea_cons (ee_v 2 rfl) ea_nil) ⟨rfl, B, rfl, hB.g.ok, fun M8 hu2 => ?_⟩)
  have eb : newsD B = .int (newsI B) := by unfold newsD; rw [sB]; rfl
  rw [eb]
  refine od_I0 (f := fun i j => i + j) (od_I (f := fun i j => i * j) ?_ ?_)
  · rcases hnb with e | e <;> rw [e]
    · exact .inl ⟨by decide, by decide⟩
    · exact .inl ⟨by decide, by decide⟩
  have hle : (1 + ((many : Int) - 1) / 16) * (newsI T + newsI B) ≤ 36 ∧ 0 ≤ (1 + ((many : Int) - 1) / 16) * (newsI T + newsI B) := by
    rcases hnb with e | e <;> rw [e] <;> omega
  have hm' := main ((1 + ((many : Int) - 1) / 16) * (newsI T + newsI B)).toNat M8 (up_ch (hu.trans hu2)) (by omega) fun _ => ⟨sT, sB, by omega⟩
  rw [Int.toNat_of_nonneg hle.2] at hm'
  exact hm'
end
end K42
set_option Elab.async false
set_option linter.all false
set_option maxRecDepth 100000
set_option maxHeartbeats 4000000
namespace K42
open PySem L2 PyProof.Rows DL
/-! ### the law: a turn's scripts -/
theorem bp_int {L n : Nat} {i : Int} (h : 0 ≤ i ∧ i ≤ 999999) : bp L (n + 1) (.int i) = true := Bool.and_eq_true_iff.mpr ⟨decide_eq_true h.1, decide_eq_true h.2⟩
theorem bp_tup {L n : Nat} {ds : List D} (h : ds.length ≤ L) (h2 : ∀ d ∈ ds, bp L n d = true) : bp L (n + 1) (.tup ds) = true := Bool.and_eq_true_iff.mpr ⟨decide_eq_true h, List.all_eq_true.mpr h2⟩
theorem bp_scD {s : Sc} (h : ScS s) : bp 10 5 (scD s) = true := by
  refine bp_tup (by rw [List.length_map]; exact Nat.le_trans h.few (by decide)) fun d hd => ?_
  obtain ⟨f, hf, rfl⟩ := List.mem_map.mp hd
  refine bp_tup (by rw [List.length_map]; exact Nat.le_trans (h.ft f hf) (by decide)) fun d hd => ?_
  obtain ⟨⟨x, y⟩, hc, rfl⟩ := List.mem_map.mp hd
  obtain ⟨h1, h2, h3⟩ := h.cp f hf _ hc
  refine bp_tup (show 2 ≤ 10 by decide) fun d hd => ?_
  simp only [List.mem_cons, List.not_mem_nil, or_false] at hd
  rcases hd with rfl | rfl
  · exact bp_int ⟨by show 0 ≤ x; have : 1 ≤ x := h1; omega, by show x ≤ 999999; have : x ≤ 5 := h2; omega⟩
  · cases y with
    | none => rfl
    | some q =>
      obtain ⟨a, b⟩ := q
      obtain ⟨g1, g2, g3, g4⟩ := h3 (a, b) rfl
      refine bp_tup (show 2 ≤ 10 by decide) fun d hd => ?_
      simp only [List.mem_cons, List.not_mem_nil, or_false] at hd
      rcases hd with rfl | rfl
      · exact bp_int ⟨g1, by have : a ≤ 9 := g2; omega⟩
      · exact bp_int ⟨by have : 1 ≤ b := g3; omega, by have : b ≤ 255 := g4; omega⟩
theorem scD_pl {s : Sc} (h : ScS s) : pl (scD s) = true := wf_pl (bp_wf (bp_scD h))
theorem wholeB_of {i lo hi : Int} (h1 : lo ≤ i) (h2 : i ≤ hi) : wholeB (.int i) lo hi = true := by
  show (true && (decide (lo ≤ i) && decide (i ≤ hi))) = true
  rw [decide_eq_true h1, decide_eq_true h2]
  rfl
theorem scriptB_scD {s : Sc} (h : ScS s) : scriptB (scD s) = true := by
  have hp := h.pos
  have hf := h.few
  refine Bool.and_eq_true_iff.mpr ⟨Bool.and_eq_true_iff.mpr ⟨decide_eq_true (by rw [List.length_map]; omega), decide_eq_true (by rw [List.length_map]; omega)⟩, List.all_eq_true.mpr fun d hd => ?_⟩
  obtain ⟨f, hf, rfl⟩ := List.mem_map.mp hd
  refine Bool.and_eq_true_iff.mpr ⟨decide_eq_true (by rw [List.length_map]; exact Nat.le_trans (h.ft f hf) (by decide)), List.all_eq_true.mpr fun d hd => ?_⟩
  obtain ⟨⟨x, y⟩, hc, rfl⟩ := List.mem_map.mp hd
  obtain ⟨h1, h2, h3⟩ := h.cp f hf _ hc
  refine Bool.and_eq_true_iff.mpr ⟨wholeB_of h1 (by have : x ≤ 5 := h2; show x ≤ 50; omega), ?_⟩
  cases y with
  | none => rfl
  | some q =>
    obtain ⟨a, b⟩ := q
    obtain ⟨g1, g2, g3, g4⟩ := h3 (a, b) rfl
    exact Bool.and_eq_true_iff.mpr ⟨wholeB_of g1 (by have : a ≤ 9 := g2; omega), wholeB_of g3 g4⟩
structure CW (P : Program) (w : World) (K : PySem.W.Frag) (mg : Str → Option Value) (base : Heap) (CT : Addr) : Prop where
  B : Blt mg
  B2 : Bl2 mg
  cc : Cc mg
  tt : HCf K CT tF
  box : Cal P w K mg base 1 "_law_box" 1 S_box
  draw : Cal P w K mg base 2 "_law_draw" 2 S_draw
  same : Cal P w K mg base 4 "_law_same" 2 (S_same 4)
  sameL : Cal P w K mg base 4 "_law_same" 2 (S_sameL 3)
  lscr : Cal P w K mg base 3 "_law_script" 2 S_lscript
  bent : Cal P w K mg base 7 "_law_bent" 2 (S_bent 10 5)
  script : Cal P w K mg base 4 "is_script" 1 (S_bool scriptB)
  lscript : Cal P w K mg base 3 "_law_is_script" 1 (S_bool scriptB)
  copy : Cal P w K mg base 2 "is_copy" 1 (S_bool copyB)
  lcopy : Cal P w K mg base 2 "_law_is_copy" 1 (S_bool copyB)
  fate : Cal P w K mg base 3 "is_fate" 1 (S_bool fateB)
  hurt : Cal P w K mg base 1 "hurt_data" 2 S_hurt
  starved : Cal P w K mg base 2 "is_starved" 1 S_starved
  news : Cal P w K mg base 3 "latest_news" 1 S_news
  course : Cal P w K mg base 5 "_law_course" 2 S_course
  talk : Cal P w K mg base 4 "_law_talk" 4 S_talk
  makeT : CalI P w K mg base 1 "Taker" CT 1 (S_tinit CT)
  next : CalM P w K mg base 1 CT "next_number" 1 (S_tnext CT)
  thear : CalM P w K mg base 1 CT "hear" 3 (S_thear CT)
  lack : CalM P w K mg base 1 CT "lacking" 1 (S_tlack CT)
abbrev NW : List Str := ["script", "box", "turn", "links", "step", "scripts", "link", "one", "some", "whole", "k", "copy", "starved", "row", "waits", "begin", "turned", "j", "delay", "due", "many", "found", "number", "taker", "kept", "given", "fine", "value"]
abbrev XW (P : Program) (w : World) (K : PySem.W.Frag) (mg : Str → Option Value) (base : Heap) (f : Addr) (cdv : Value) (A : Around) (outer : List Env) (s : Shared) (H : Hp) (E : XK) : Cx := (cxOf CX0 P w K mg base NW "law" (defScope s_law) f cdv A outer s H E).nox
abbrev sgW (p : Addr) : Sg := [none, some (.ptr p), none, none, none, none, none, none, none, none, none, none, none, none, none, none, none, none, none, none, none, none, none, none, none, none, none, none]
abbrev turnB : List Stmt := forBody ((defBody s_law).getD 2 (.Pass ⟨0, 0, 0, 0⟩))
def pairT (p : List Int × D) : D := .tup [.tup (p.1.map .int), p.2]
section
variable {P : Program} {w : World} {K : PySem.W.Frag} {mg : Str → Option Value} {base : Heap} {CT : Addr}
theorem w_scr {f : Addr} {cdv : Value} {A : Around} {outer : List Env} {s : Shared} {H : Hp} {E : XK} {p c : Addr} {M : Mem} {E' : EndsD} (L : CW P w K mg base CT) (hr : Room 7 (XW P w K mg base f cdv A outer s H E).A) (hB : Bx M p c)
    (q : ∀ M' sc, ScS sc → Bx M' p c → WSs (XW P w K mg base f cdv A outer s H E) (turnB.drop 4) ((sgW p).set 8 (some (scD sc))) M' E') :
    WSs (XW P w K mg base f cdv A outer s H E) turnB (sgW p) M E' := by
  have nd := sc_law.nd
  have hr2 : Room 2 (XW P w K mg base f cdv A outer s H E).A := hr.mono (by omega)
  -- the links
  refine wss_cons (ws_set 3 nd (we_sortDictT L.B.sorted L.B2.dict rfl (by have := hr.un; omega) (we_lc [("step", 4)] rfl nd (blkOk_by (by with_unfolding_all rfl)) (Qi := fun es C' M2 => es = rngD 0 4 ∧ M2 = M ∧ ∀ M3, C' M3) (wi_rng1 L.B.range (EA.to (ea_cons ee_int ea_nil) ⟨4, rfl, by decide, by decide, rfl, rfl, fun _ => trivial⟩)) fun es C' M2 ⟨e1, e2, hC⟩ => ?_)))
  subst e1; subst e2
  refine ⟨fun i acc M1 => i ≤ 4 ∧ ∃ ps : DT, acc = ps.map pairT ∧ ps.length = i ∧ (∀ q ∈ ps, q.1.length = 2) ∧ Bx M1 p c, ⟨Nat.zero_le _, [], rfl, rfl, fun x hx => absurd hx List.not_mem_nil, hB⟩, fun i acc M1 ⟨hi, ps, e, hl, _⟩ => ⟨hC _, by rw [e, List.length_map]; exact lt1000 (by omega)⟩, fun i d acc M1 hd ⟨hi, ps, e, hl, hx, hB1⟩ => ?_, fun acc M1 ⟨hi, ps, e, hl, hx, hB1⟩ => ⟨ps, .inl (congrArg D.lst e), by rw [hl, rngD_len]; decide, hx, fun ks hk1 hk2 hk3 => ?_⟩⟩
  · obtain ⟨hj, rfl⟩ := rngD_at hd
    refine turn1 4 (List.mem_singleton.mpr rfl) nd (by first | exact Or.inl rfl | exact Or.inr rfl) rfl (fun b M3 => b = true ∧ M3 = M1) (fun _ _ _ _ _ => ⟨rfl, rfl⟩) (fun M3 ⟨_, e2⟩ => ?_) (fun M3 ⟨e, _⟩ => Bool.noConfusion e)
    subst e2
    intro s H C cl fp
    refine we_tup (wa_cons (we_tup (wa_cons (we_dr 1 L.draw hr2 rfl ee_int hB1 (by decide) (by decide) fun r1 M4 _ hB4 hE4 => wa_cons (we_dr 1 L.draw hr2 rfl ee_int hB4 (by decide) (by decide) fun r2 M5 _ hB5 hE5 => wa_nil ⟨Nat.le_of_lt (lt1000 (show 2 < 1000 by decide)), wa_cons (EE.to ee_int (wa_nil ⟨Nat.le_of_lt (lt1000 (show 2 < 1000 by decide)), by omega, ps ++ [([(r1 : Int), (r2 : Int)], .int 1)], ?_, by rw [List.length_append, hl]; rfl, fun x hx2 => ?_, hB5⟩))⟩)))))
    · subst e
      rw [List.map_append]
      rfl
    · rcases List.mem_append.mp hx2 with hx2 | hx2
      · exact hx x hx2
      · rw [List.mem_singleton.mp hx2]; rfl
  have hkz : ks.length ≤ 4 := by
    rw [rngD_len] at hl
    omega
  have hkn : ks ≠ [] := hk3 fun z => by rw [z, rngD_len] at hl; cases hl
  have hk : ∀ k ∈ ks, ∃ a b, k = [a, b] := fun k hk => by
    obtain ⟨x, hx1, rfl⟩ := List.mem_map.mp (hk1 k hk)
    have := hx x hx1
    match x.1, this with
    | [a, b], _ => exact ⟨a, b, rfl⟩
  clear hk1 hk2 hk3 hx hl e
  -- the scripts
  refine wss_cons (ws_set 5 nd (we_ct call_tuple_of L.B.tuple bi_tuple (wa_cons (we_lc [("link", 6)] rfl nd (blkOk_by (by with_unfolding_all rfl)) (Qi := fun es C' M2 => es = ks.map (fun k => .tup (k.map .int)) ∧ M2 = M1 ∧ ∀ M3, C' M3) (wi_lst (EE.to (ee_v 3 rfl) ⟨_, .inl rfl, rfl, rfl, fun _ => .inl rfl⟩)) fun es C' M2 ⟨e1, e2, hC⟩ => ?_))))
  subst e1; subst e2
  refine ⟨fun i acc M1 => i ≤ ks.length ∧ ∃ ls : Ls, acc = ls.map (fun x => .tup [iD [x.1.1, x.1.2], scD x.2]) ∧ ls.length = i ∧ (∀ x ∈ ls, ScS x.2) ∧ Bx M1 p c, ⟨Nat.zero_le _, [], rfl, rfl, fun x hx => absurd hx List.not_mem_nil, hB1⟩, fun i acc M1 ⟨hi, ls, e, hl, _⟩ => ⟨hC _, by rw [e, List.length_map]; exact lt1000 (by omega)⟩, fun i d acc M1 hd ⟨hi, ls, e, hl, hx, hB1⟩ => ?_, fun acc M1 ⟨hi, ls, e, hl, hx, hB1⟩ => wa_nil (cd_tupL (.inl rfl) ?_)⟩
  · obtain ⟨k, hk2, rfl⟩ := at_map hd
    obtain ⟨a, b, rfl⟩ := hk k (List.mem_of_getElem? hk2)
    have hi2 := (List.getElem?_eq_some_iff.mp hk2).1
    refine turn1 6 (List.mem_singleton.mpr rfl) nd (by first | exact Or.inl rfl | exact Or.inr rfl) rfl (fun b M3 => b = true ∧ M3 = M1) (fun _ _ _ _ _ => ⟨rfl, rfl⟩) (fun M3 ⟨_, e2⟩ => ?_) (fun M3 ⟨e, _⟩ => Bool.noConfusion e)
    subst e2
    intro s H C cl fp
    refine we_tup (wa_cons (EE.to (ee_v 6 (d := iD [a, b]) rfl) (wa_cons (we_call L.lscr (hr.mono (by omega)) (EA.to (ea_cons (ee_v 1 rfl) (ea_cons ee_bl ea_nil)) ⟨rfl, p, c, false, rfl, hB1, fun sc M4 hsc _ hB4 hC4 => wa_nil ⟨Nat.le_of_lt (lt1000 (show 2 < 1000 by decide)), by omega, ls ++ [((a, b), sc)], ?_, by rw [List.length_append, hl]; rfl, fun x hx2 => ?_, hB4⟩⟩)))))
    · subst e
      rw [List.map_append]
      rfl
    · rcases List.mem_append.mp hx2 with hx2 | hx2
      · exact hx x hx2
      · rw [List.mem_singleton.mp hx2]; exact hsc
  subst e
  rw [List.length_map] at hl
  show WSs _ _ (((sgW p).set 3 _).set 5 (some (lsD ls))) _ _
  have hln : ls ≠ [] := fun z => hkn (List.length_eq_zero_iff.mp (by rw [← hl, z]; rfl))
  -- taken, and the course
  refine wss_cons (ws_if (ww_pt (ww_or (WT.imp (Q := fun k M5 => k = false ∧ M5 = M1) (ET.is (et_not (et_val (ee_cb (cr_all rfl) L.B.all bi_all (ea_cons (ee_lc2 6 7 (ds := ls.map fun x => .tup [iD [x.1.1, x.1.2], scD x.2]) (fun _ _ => .bl true) rfl nd (wi_tup (EE.to (ee_v 5 (d := lsD ls) rfl) ⟨_, rfl, rfl, rfl, trivial⟩)) (lt1000 (by rw [List.length_map]; omega)) fun l d hd => ?_) ea_nil) (cd_all (bs := ls.map fun _ => true) (.inl ?_) ⟨rfl, rfl⟩)))) ?_) fun k M5 ⟨e1, e2⟩ => ?_))))
  · obtain ⟨x, hx2, rfl⟩ := at_map hd
    have hs := hx x (List.mem_of_getElem? hx2)
    refine ⟨_, _, rfl, fun s H C' cl fp => EE.is (ee_cmp op_isBl (we_call L.script (hr.mono (by omega)) (EA.to (ea_cons (ee_v 7 rfl) ea_nil) ⟨rfl, scD x.2, rfl, scD_pl hs, rfl, rfl⟩)) ee_bl (od_isB ⟨rfl, rfl⟩)) ?_⟩
    rw [scriptB_scD hs]
    rfl
  · rw [List.map_map, List.map_map]
    rfl
  · rw [List.all_map, show (ls.all (id ∘ fun _ => true)) = true from List.all_eq_true.mpr fun _ _ => rfl]
    rfl
  subst e1; subst e2
  refine ⟨fun z => Bool.noConfusion z, fun _ => ww_or1 (wt_not (wt_val (we_call L.course (hr.mono (by omega)) (EA.to (ea_cons (ee_v 1 rfl) (ea_cons (ee_v 5 (d := lsD ls) rfl) ea_nil)) ⟨rfl, p, c, ls, rfl, by omega, fun x hx2 => (hx x hx2).g, hB1, fun M6 hB6 hC6 => ⟨true, rfl, fun z => Bool.noConfusion z, fun _ => wss_nil ?_⟩⟩))))⟩
  obtain ⟨x, ls', rfl⟩ : ∃ x ls', ls = x :: ls' := by
    cases ls with
    | nil => exact absurd rfl hln
    | cons x l => exact ⟨x, l, rfl⟩
  refine wss_cons (ws_set 8 nd (EE.to (ee_ix ix_tup (ee_ix ix_tup (ee_v 5 (d := lsD (x :: ls')) rfl) ee_int (od_ixT (d := .tup [iD [x.1.1, x.1.2], scD x.2]) (by have := atI_nat (xs := (x :: ls').map fun p => D.tup [iD [p.1.1, p.1.2], scD p.2]) (j := 0) (v := .tup [iD [x.1.1, x.1.2], scD x.2]) rfl; exact this) ⟨rfl, rfl⟩)) ee_int (od_ixT (d := scD x.2) rfl ⟨rfl, rfl⟩)) ?_))
  exact wss_fg (sg1 := (sgW p).set 8 (some (scD x.2))) ⟨rfl, rfl, trivial⟩ (q M6 x.2 (hx x List.mem_cons_self) hB6)
end
end K42
set_option Elab.async false
set_option linter.all false
set_option maxRecDepth 100000
set_option maxHeartbeats 4000000
namespace K42
open PySem L2 PyProof.Rows DL
/-! ### the law: starved scripts, the latest news -/
def wrow (s : Sc) (k : Nat) : D := .lst ((wholes (fateAt s k)).map fun d => .tup [.int (k : Int), .int d])
def lenL : D → Nat
  | .lst ds => ds.length
  | _ => 0
theorem wrow_of (f : Ft) (k : D) : ((f.map cpD).filter fun d => isNon (sndD d)).map (fun d => D.tup [k, fstD d]) = (wholes f).map fun d => D.tup [k, .int d] := by
  have h := wholesD_ft f
  have e : ((f.map cpD).filter fun d => isNon (sndD d)).map (fun d => D.tup [k, fstD d]) = (wholesD (ftD f)).map fun e => .tup [k, e] := by
    unfold wholesD
    rw [List.map_map]
    rfl
  rw [e, h, List.map_map]
  rfl
theorem lenL_wrow (s : Sc) (k : Nat) : lenL (wrow s k) = (wholes (fateAt s k)).length := by
  show (List.map _ _).length = _
  rw [List.length_map]
theorem starved_iff {s : Sc} : starvedB s = true ↔ ∀ f ∈ s, wholes f = [] := by
  unfold starvedB
  rw [Bool.not_eq_true', List.any_eq_false]
  constructor
  · intro h f hf
    have := h f hf
    cases e : wholes f with
    | nil => rfl
    | cons x l => rw [e] at this; exact absurd rfl this
  · intro h f hf
    rw [h f hf]
    exact Bool.false_ne_true
theorem starved_all (s : Sc) : ((List.range s.length).map fun k => decide (((wholes (fateAt s k)).length : Int) = 0)).all id = starvedB s := by
  rw [Bool.eq_iff_iff, starved_iff, List.all_map, List.all_eq_true]
  constructor
  · intro h f hf
    obtain ⟨i, hi⟩ := List.mem_iff_getElem?.mp hf
    have hl := (List.getElem?_eq_some_iff.mp hi).1
    have h2 := of_decide_eq_true (h i (List.mem_range.mpr hl))
    have ef : fateAt s i = f := by
      unfold fateAt
      rw [Nat.mod_eq_of_lt hl, List.getD_eq_getElem?_getD, hi]
      rfl
    rw [ef] at h2
    exact List.length_eq_zero_iff.mp (by omega)
  · intro h k hk
    have hl := List.mem_range.mp hk
    refine decide_eq_true ?_
    rw [h _ (fateAt_mem (by omega) k)]
    rfl
def wmin (s : Sc) (b : Nat) : List Int := ((List.range (2 * s.length)).filter fun j => decide (0 < (wholes (fateAt s (b + j))).length)).map fun (j : Nat) => (j : Int) + minI (wholes (fateAt s (b + j)))
theorem wmin_in {s : Sc} {b j : Nat} (hj : j < 2 * s.length) (h : wholes (fateAt s (b + j)) ≠ []) : (j : Int) + minI (wholes (fateAt s (b + j))) ∈ wmin s b :=
  List.mem_map.mpr ⟨j, List.mem_filter.mpr ⟨List.mem_range.mpr hj, decide_eq_true (List.length_pos_iff.mpr h)⟩, rfl⟩
theorem wmin_ne {s : Sc} (h : starvedB s = false) (b : Nat) : wmin s b ≠ [] := by
  obtain ⟨x, hx⟩ := List.exists_mem_of_ne_nil _ (rows_ne h b)
  obtain ⟨k, hk, hx⟩ := List.mem_flatMap.mp hx
  obtain ⟨d, hd, _⟩ := List.mem_map.mp hx
  have := List.mem_range.mp hk
  exact List.ne_nil_of_mem (wmin_in (by omega) (List.ne_nil_of_mem hd))
theorem wmin_min {s : Sc} (h : starvedB s = false) (b : Nat) : minI (wmin s b) = minI (rowsN s b) := by
  obtain ⟨m1, m2⟩ := minI_spec (wmin_ne h b)
  refine minI_of ?_ fun x hx => ?_
  · obtain ⟨j, hj, e⟩ := List.mem_map.mp m1
    obtain ⟨hj, hne⟩ := List.mem_filter.mp hj
    have hj := List.mem_range.mp hj
    have hne := List.length_pos_iff.mp (of_decide_eq_true hne)
    rw [← e]
    by_cases c : j < s.length
    · exact List.mem_flatMap.mpr ⟨j, List.mem_range.mpr c, List.mem_map.mpr ⟨_, (minI_spec hne).1, rfl⟩⟩
    · have ef : fateAt s (b + (j - s.length)) = fateAt s (b + j) := by
        unfold fateAt
        rw [show b + j = b + (j - s.length) + s.length by omega, Nat.add_mod_right]
      have := m2 _ (wmin_in (s := s) (b := b) (j := j - s.length) (by omega) (by rw [ef]; exact hne))
      rw [ef, ← e] at this
      omega
  · obtain ⟨k, hk, hx⟩ := List.mem_flatMap.mp hx
    obtain ⟨d, hd, rfl⟩ := List.mem_map.mp hx
    have hk := List.mem_range.mp hk
    have hne := List.ne_nil_of_mem hd
    have := m2 _ (wmin_in (s := s) (b := b) (j := k) (by omega) hne)
    have := (minI_spec hne).2 d hd
    omega
theorem rng_map {α : Type} (n : Nat) (g : Nat → α) : (rngD 0 n).map (fun d => g (intOf d).toNat) = (List.range n).map g := by
  unfold rngD
  rw [List.map_map]
  refine List.map_congr_left fun k _ => ?_
  show g (0 + (k : Int)).toNat = g k
  rw [show (0 + (k : Int)).toNat = k by omega]
section
variable {P : Program} {w : World} {K : PySem.W.Frag} {mg : Str → Option Value} {base : Heap} {CT : Addr}
theorem w_news {f : Addr} {cdv : Value} {A : Around} {outer : List Env} {s : Shared} {H : Hp} {E : XK} {p c : Addr} {M : Mem} {E' : EndsD} {sc : Sc} (L : CW P w K mg base CT) (hr : Room 7 (XW P w K mg base f cdv A outer s H E).A) (hB : Bx M p c) (hs : ScS sc)
    (q : ∀ M', Bx M' p c → WSs (XW P w K mg base f cdv A outer s H E) (turnB.drop 11) ((sgW p).set 8 (some (scD sc))) M' E') :
    WSs (XW P w K mg base f cdv A outer s H E) (turnB.drop 4) ((sgW p).set 8 (some (scD sc))) M E' := by
  have nd := sc_law.nd
  have hpos := hs.pos
  have hfew := hs.few
  have ln : ((sc.map ftD).length : Int) = (sc.length : Int) := by rw [List.length_map]
  -- the whole copies
  refine wss_cons (ws_set 9 nd (EE.to (EE.is (ee_lc1 10 (ds := rngD 0 sc.length) (fun d => wrow sc (intOf d).toNat) rfl nd (wi_rng1 L.B.range (EA.to (ea_cons (EE.is (ee_cb call_len L.B.len bi_len (ea_cons (ee_v 8 (d := scD sc) rfl) ea_nil) (cd_lenT ⟨rfl, rfl⟩)) (congrArg D.int ln)) ea_nil) ⟨_, rfl, by omega, by omega, by rw [Int.toNat_natCast], rfl, trivial⟩)) (by rw [rngD_len]; exact lt1000 (by omega)) fun j d hd s H C cl fp => ?_) (congrArg D.lst (rng_map _ _))) ?_))
  · obtain ⟨hj, rfl⟩ := rngD_at hd
    rw [Int.zero_add]
    have hft := hs.ft _ (fateAt_mem hs.pos j)
    have efj : sc[j]? = some (fateAt sc j) := by
      have := fateAt_get hs.pos j
      rw [Nat.mod_eq_of_lt hj] at this
      exact this
    refine EE.is (ee_lc1if 11 (ds := (fateAt sc j).map cpD) (fun d => isNon (sndD d)) (fun d => .tup [.int (j : Int), fstD d]) rfl nd (wi_tup (EE.to (ee_ix ix_tup (ee_v 8 (d := scD sc) rfl) (ee_v 10 rfl) (od_ixT (d := ftD (fateAt sc j)) (atI_nat (by rw [List.getElem?_map, efj]; rfl)) ⟨rfl, rfl⟩)) ⟨_, rfl, rfl, rfl, trivial⟩)) (lt1000 (by rw [List.length_map]; omega)) (fun l d hd => ?_) fun l d hd _ => ?_) (congrArg D.lst (wrow_of (fateAt sc j) _))
    · obtain ⟨cp, _, rfl⟩ := at_map hd
      exact fun s H C cl fp => et_cmp op_isN (ee_ix ix_tup (ee_v 11 (d := cpD cp) rfl) ee_int (od_ixT (d := hD cp.2) rfl ⟨rfl, rfl⟩)) ee_non (od_isN ⟨_, rfl, rfl, rfl⟩)
    · obtain ⟨cp, _, rfl⟩ := at_map hd
      exact fun s H C cl fp => ee_tup (ea_cons (ee_v 10 rfl) (ea_cons (ee_ix ix_tup (ee_v 11 (d := cpD cp) rfl) ee_int (od_ixT (d := .int cp.1) rfl ⟨rfl, rfl⟩)) ea_nil))
  -- starved
  refine wss_cons (ws_set 12 nd (EE.to (d := .bl (starvedB sc)) (EE.is (ee_cb (cr_all rfl) L.B.all bi_all (ea_cons (ee_lc1 13 (ds := (List.range sc.length).map (wrow sc)) (fun d => .bl (decide ((lenL d : Int) = 0))) rfl nd (wi_lst (EE.to (ee_v 9 rfl) ⟨_, .inl rfl, rfl, rfl, .inl rfl⟩)) (lt1000 (by rw [List.length_map, List.length_range]; omega)) fun l d hd => ?_) ea_nil) (cd_all (bs := (List.range sc.length).map fun k => decide (((wholes (fateAt sc k)).length : Int) = 0)) (.inl ?_) ⟨rfl, rfl⟩)) (congrArg D.bl (starved_all sc))) ?_))
  · obtain ⟨k, hk, rfl⟩ := at_map hd
    exact fun s H C cl fp => ee_eqI (EE.is (ee_cb call_len L.B.len bi_len (ea_cons (ee_v 13 (d := wrow sc k) rfl) ea_nil) (cd_lenL (.inl rfl) ⟨rfl, rfl⟩)) rfl) ee_int
  · rw [List.map_map, List.map_map]
    refine congrArg D.lst (List.map_congr_left fun k _ => ?_)
    show D.bl (decide ((lenL (wrow sc k) : Int) = 0)) = D.bl (decide (((wholes (fateAt sc k)).length : Int) = 0))
    rw [lenL_wrow]
  refine wss_cons (ws_ifE (k := false) (ET.is (et_not (et_val (we_call L.same (hr.mono (by omega)) (EA.to (ea_cons (we_call L.starved (hr.mono (by omega)) (EA.to (ea_cons (ee_v 8 rfl) ea_nil) ⟨rfl, sc, rfl, hs.g.ok, rfl, rfl⟩)) (ea_cons (ee_v 12 rfl) ea_nil)) ⟨rfl, .bl (starvedB sc), .bl (starvedB sc), rfl, rfl, rfl, rfl, rfl⟩)))) (by rw [eqD_self]; rfl)) (fun e => Bool.noConfusion e) fun _ => wss_nil ?_)
  -- what is waited for
  refine wss_cons (ws_set 14 nd (we_lstM (wa_nil ⟨Nat.zero_le _, fun pw hpw => ?_⟩)))
  obtain ⟨u1, u2⟩ := hB.beside hpw
  refine wss_cons (ws_for PassesOwn.never rfl (Qi := fun es C M0 => es = rngD 0 (if starvedB sc then 0 else sc.length) ∧ M0 = updM M pw (some (.lst [])) ∧ ∀ M1, C M1) (wi_rng1 L.B.range (EA.to (ea_cons (ee_if (k := starvedB sc) (x := .int ((if starvedB sc then 0 else sc.length : Nat) : Int)) (et_val (ee_v 12 rfl)) (fun hk => EE.is ee_int (by rw [hk]; rfl)) fun hk => EE.is (ee_cb call_len L.B.len bi_len (ea_cons (ee_v 8 (d := scD sc) rfl) ea_nil) (cd_lenT ⟨rfl, rfl⟩)) (by rw [hk]; exact congrArg D.int ln)) ea_nil) ⟨_, rfl, by omega, by split <;> omega, by rw [Int.toNat_natCast], rfl, fun _ => trivial⟩)) fun es C M0 ⟨e1, e2, hC⟩ => ?_)
  subst e1; subst e2
  let ms : Nat → List Int := fun i => (List.range i).map fun b => minI (rowsN sc b)
  have ms_s : ∀ i, (ms i).map D.int ++ [.int (minI (rowsN sc i))] = (ms (i + 1)).map D.int := fun i => by
    show List.map D.int ((List.range i).map fun b => minI (rowsN sc b)) ++ [D.int (minI (rowsN sc i))] = List.map D.int ((List.range (i + 1)).map fun b => minI (rowsN sc b))
    rw [List.range_succ, List.map_append, List.map_append]
    rfl
  refine ⟨fun i sg1 M1 => Fg (((((sgW p).set 8 (some (scD sc))).set 9 (some (.lst ((List.range sc.length).map (wrow sc))))).set 12 (some (.bl (starvedB sc)))).set 14 (some (.ptr pw))) sg1 ∧ M1 = updM M pw (some (.lst ((ms i).map .int))), ⟨⟨rfl, rfl, rfl, rfl, rfl, trivial⟩, rfl⟩, fun i sg1 M1 _ => hC _, fun i d sg1 M1 he ⟨hg, hM⟩ => ?_, fun sg1 M1 ⟨hg, hM⟩ => wss_fg hg ?_⟩
  · obtain ⟨hi, rfl⟩ := rngD_at he
    have hst : starvedB sc = false := by
      cases e : starvedB sc with
      | false => rfl
      | true => rw [if_pos e] at hi; exact absurd hi (Nat.not_lt_zero _)
    rw [if_neg (by rw [hst]; exact Bool.false_ne_true)] at hi
    refine ⟨_, _, wg_name 15 nd, wss_fg (fg_set hg 15 _) ?_⟩
    rw [Int.zero_add]
    subst hM
    have tm : ∀ b : Nat, ((b : Int)) - (b : Int) / (sc.length : Int) * (sc.length : Int) = ((b % sc.length : Nat) : Int) := fun b => by
      rw [ediv_nat, ← Int.natCast_mul]
      have := Nat.div_add_mod b sc.length
      rw [Nat.mul_comm] at this
      omega
    refine wss_cons (ws_set 16 nd (EE.to (EE.is (ee_lc1 17 (ds := rngD 0 (2 * sc.length)) (fun d => wrow sc ((i + (intOf d).toNat) % sc.length)) rfl nd (wi_rng1 L.B.range (EA.to (ea_cons (EE.is (ee_mul ee_int (EE.is (ee_cb call_len L.B.len bi_len (ea_cons (ee_v 8 (d := scD sc) rfl) ea_nil) (cd_lenT ⟨rfl, rfl⟩)) (congrArg D.int ln)) (.inl ⟨by decide, by decide⟩)) (d' := .int ((2 * sc.length : Nat) : Int)) (congrArg D.int (by omega))) ea_nil) ⟨_, rfl, by omega, by omega, by rw [Int.toNat_natCast], rfl, trivial⟩)) (by rw [rngD_len]; exact lt1000 (by omega)) fun j d hd s H C cl fp => ?_) (congrArg D.lst (rng_map _ fun j => wrow sc ((i + j) % sc.length)))) ?_))
    · obtain ⟨hj, rfl⟩ := rngD_at hd
      rw [Int.zero_add]
      have hm := Nat.mod_lt (i + j) hpos
      have ea := tm (i + j)
      rw [Int.natCast_add] at ea
      exact ee_ix ix_list (ee_v 9 rfl) (EE.is (ee_sub (ee_add (ee_v 15 rfl) (ee_v 17 rfl)) (ee_mul (ee_fdiv (ee_add (ee_v 15 rfl) (ee_v 17 rfl)) (EE.is (ee_cb call_len L.B.len bi_len (ea_cons (ee_v 8 (d := scD sc) rfl) ea_nil) (cd_lenT ⟨rfl, rfl⟩)) (congrArg D.int ln)) ⟨by omega, by omega⟩) (EE.is (ee_cb call_len L.B.len bi_len (ea_cons (ee_v 8 (d := scD sc) rfl) ea_nil) (cd_lenT ⟨rfl, rfl⟩)) (congrArg D.int ln)) (.inr ⟨by omega, by omega⟩))) (congrArg D.int ea)) (od_ixL (.inl rfl) (atI_nat (by rw [List.getElem?_map, List.getElem?_range hm]; rfl)) ⟨rfl, rfl⟩)
    have hne := wmin_ne hst i
    have hwz : (wmin sc i).length ≤ 10 := by
      unfold wmin
      rw [List.length_map]
      refine Nat.le_trans (List.length_filter_le _ _) ?_
      rw [List.length_range]
      omega
    have efm : ∀ j, fateAt sc ((i + j) % sc.length) = fateAt sc (i + j) := fun j => by
      unfold fateAt
      rw [Nat.mod_mod]
    refine wss_one (ws_expr (we_bm PySem.F.plainAttrs_list PySem.F.slot_list_append PySem.F.type_list_append mt_append (EE.to (ee_v 14 rfl) ⟨ty_lst (.inr ⟨pw, rfl, updM_same⟩), wa_cons (we_cb (cr_min rfl) L.B.min bi_min (EA.to (ea_cons (EE.is (d' := .lst ((wmin sc i).map .int)) (ee_lc1if 17 (ds := rngD 0 (2 * sc.length)) (fun d => decide ((0 : Int) < ((wholes (fateAt sc (i + (intOf d).toNat))).length : Int))) (fun d => .int (intOf d + minI (wholes (fateAt sc (i + (intOf d).toNat))))) rfl nd (wi_rng1 L.B.range (EA.to (ea_cons (EE.is (ee_mul ee_int (EE.is (ee_cb call_len L.B.len bi_len (ea_cons (ee_v 8 (d := scD sc) rfl) ea_nil) (cd_lenT ⟨rfl, rfl⟩)) (congrArg D.int ln)) (.inl ⟨by decide, by decide⟩)) (d' := .int ((2 * sc.length : Nat) : Int)) (congrArg D.int (by omega))) ea_nil) ⟨_, rfl, by omega, by omega, by rw [Int.toNat_natCast], rfl, trivial⟩)) (by rw [rngD_len]; exact lt1000 (by omega)) (fun l d hd => ?_) fun l d hd hp => ?_) ?_) ea_nil) (cd_min (.inl rfl) (List.length_pos_iff.mpr hne) fun m m1 m2 => wa_nil (md_append updM_same (lt1000 (by rw [List.length_map]; show (List.map _ _).length < _; rw [List.length_map, List.length_range]; omega)) ⟨?_, ?_⟩))))⟩)))
    · obtain ⟨hj, rfl⟩ := rngD_at hd
      rw [Int.zero_add]
      intro s H C cl fp
      refine ET.is (et_gt (EE.is (ee_cb call_len L.B.len bi_len (ea_cons (ee_ix ix_list (ee_v 16 rfl) (ee_v 17 rfl) (od_ixL (d := wrow sc ((i + l) % sc.length)) (.inl rfl) (atI_nat (by rw [List.getElem?_map, List.getElem?_range hj]; rfl)) ⟨rfl, rfl⟩)) ea_nil) (cd_lenL (.inl rfl) ⟨rfl, rfl⟩)) rfl) ee_int) ?_
      rw [List.length_map, efm, show (intOf (.int (l : Int))).toNat = l from Int.toNat_natCast l]
    · obtain ⟨hj, rfl⟩ := rngD_at hd
      rw [Int.zero_add] at hp ⊢
      rw [show (intOf (.int (l : Int))).toNat = l from Int.toNat_natCast l] at hp ⊢
      have hp := of_decide_eq_true hp
      have hwl : (wholes (fateAt sc (i + l))).length ≤ 2 := Nat.le_trans (wholes_le _) (hs.ft _ (fateAt_mem hpos _))
      intro s H C cl fp
      refine ee_add (ee_v 17 rfl) (we_cb (cr_min rfl) L.B.min bi_min (EA.to (ea_cons (EE.is (d' := .lst ((wholes (fateAt sc (i + l))).map .int)) (ee_lc2 10 18 (ds := (wholes (fateAt sc ((i + l) % sc.length))).map fun d => .tup [.int (((i + l) % sc.length : Nat) : Int), .int d]) (fun _ b => b) rfl nd (wi_lst (EE.to (ee_ix ix_list (ee_v 16 rfl) (ee_v 17 rfl) (od_ixL (d := wrow sc ((i + l) % sc.length)) (.inl rfl) (atI_nat (by rw [List.getElem?_map, List.getElem?_range hj]; rfl)) ⟨rfl, rfl⟩)) ⟨_, .inl rfl, rfl, rfl, .inl rfl⟩)) (by rw [List.length_map, efm]; exact lt1000 (by omega)) fun a d hd2 => ?_) ?_) ea_nil) (cd_min (.inl rfl) (by omega) fun m m1 m2 => ⟨congrArg D.int (minI_of m1 m2), rfl⟩)))
      · obtain ⟨x, _, rfl⟩ := at_map hd2
        exact ⟨_, _, rfl, fun s H C cl fp => ee_v 18 rfl⟩
      · rw [List.map_map, efm]
        rfl
    · refine congrArg D.lst ?_
      unfold wmin rngD
      rw [List.filter_map, List.map_map, List.map_map]
      have e1 : ∀ j : Nat, (intOf (.int (0 + (j : Int)))).toNat = j := fun j => by show (0 + (j : Int)).toNat = j; omega
      have e2 : ((fun d => decide ((0 : Int) < ((wholes (fateAt sc (i + (intOf d).toNat))).length : Int))) ∘ fun (j : Nat) => D.int (0 + (j : Int))) = fun j => decide (0 < (wholes (fateAt sc (i + j))).length) := funext fun j => by
        show decide ((0 : Int) < ((wholes (fateAt sc (i + (intOf (.int (0 + (j : Int)))).toNat))).length : Int)) = _
        rw [e1, Bool.eq_iff_iff, decide_eq_true_iff, decide_eq_true_iff]
        omega
      rw [e2]
      refine List.map_congr_left fun j _ => ?_
      show D.int ((0 + (j : Int)) + minI (wholes (fateAt sc (i + (intOf (.int (0 + (j : Int)))).toNat)))) = D.int ((j : Int) + minI (wholes (fateAt sc (i + j))))
      rw [e1, Int.zero_add]
    · exact ⟨rfl, rfl, rfl, rfl, rfl, trivial⟩
    · rw [updM_upd, minI_of m1 m2, wmin_min hst, ms_s]
  · rw [rngD_len] at hM
    subst hM
    -- the latest
    have hB1 : Bx (updM M pw (some (.lst ((ms (if starvedB sc then 0 else sc.length)).map .int)))) p c := hB.put u1 u2
    have hml : ∀ n, (ms n).length = n := fun n => by show (List.map _ _).length = _; rw [List.length_map, List.length_range]
    refine wss_cons (ws_set 19 nd (EE.to (d := newsD sc) (ee_if (k := !starvedB sc) (x := newsD sc) (ET.is (et_gt (EE.is (d' := .int ((if starvedB sc then 0 else sc.length : Nat) : Int)) (ee_cb call_len L.B.len bi_len (ea_cons (ee_v 14 rfl) ea_nil) (cd_lenL (.inr ⟨pw, rfl, updM_same⟩) ⟨rfl, rfl⟩)) (by rw [List.length_map, hml])) ee_int) ?_) (fun hk => ?_) fun hk => EE.is ee_non ?_) ?_))
    · cases starvedB sc with
      | true => rfl
      | false => exact decide_eq_true (by show (0 : Int) < (sc.length : Int); omega)
    · have hst : starvedB sc = false := bn1 hk
      have en : newsD sc = .int (newsI sc) := by unfold newsD; rw [hst]; rfl
      rw [en]
      refine we_cb (cr_max rfl) L.B.max bi_max (EA.to (ea_cons (ee_v 14 rfl) ea_nil) (cd_max (.inr ⟨pw, rfl, updM_same⟩) (by rw [hml, hst]; exact hpos) fun m m1 m2 => ⟨congrArg D.int ?_, rfl⟩))
      rw [hst] at m1 m2
      exact maxI_of m1 m2
    · have hst : starvedB sc = true := bn0 hk
      unfold newsD
      rw [hst]
      rfl
    have hwn : wf 900 4 (newsD sc) = true := by
      unfold newsD
      split <;> rfl
    refine wss_cons (ws_if (wt_not (wt_val (we_call L.same (hr.mono (by omega)) (wa_cons (we_call L.news (hr.mono (by omega)) (EA.to (ea_cons (ee_v 8 rfl) ea_nil) ⟨rfl, sc, rfl, hs.g.ok, fun M7 hu => wa_cons (EE.to (ee_v 19 rfl) (wa_nil ⟨rfl, newsD sc, newsD sc, rfl, hwn, hwn, _, rfl, ?_, ?_⟩))⟩)))))))
    · intro z
      rw [eqD_self] at z
      cases z
    · intro _
      refine wss_nil (wss_fg (sg1 := (sgW p).set 8 (some (scD sc))) ⟨rfl, rfl, trivial⟩ (q M7 ?_))
      exact (hB1.ch (up_ch hu) List.not_mem_nil List.not_mem_nil).1
end
end K42
set_option Elab.async false
set_option linter.all false
set_option maxRecDepth 100000
set_option maxHeartbeats 4000000
namespace K42
open PySem L2 PyProof.Rows DL
/-! ### the law: a talk; a taker -/
theorem rows_rng (nx : Nat) : (rngD 0 nx).map (fun d => D.tup [d, .int 7]) = rowsG g7 0 nx := by
  unfold rngD rowsG
  rw [List.map_map, Nat.sub_zero, ← List.range_eq_range']
  refine List.map_congr_left fun k _ => ?_
  show D.tup [.int (0 + (k : Int)), .int 7] = D.tup [.int (k : Int), .int 7]
  rw [Int.zero_add]
theorem wf_rows (n : Nat) : ∀ d ∈ rowsG g7 0 n, wf 900 3 d = true := fun d hd => by
  obtain ⟨k, _, rfl⟩ := List.mem_map.mp hd
  rfl
section
variable {P : Program} {w : World} {K : PySem.W.Frag} {mg : Str → Option Value} {base : Heap} {CT : Addr}
theorem w_talk {f : Addr} {cdv : Value} {A : Around} {outer : List Env} {s : Shared} {H : Hp} {E : XK} {p c : Addr} {M : Mem} {E' : EndsD} {sc : Sc} (L : CW P w K mg base CT) (hr : Room 7 (XW P w K mg base f cdv A outer s H E).A) (hB : Bx M p c)
    (q : ∀ M', Bx M' p c → WSs (XW P w K mg base f cdv A outer s H E) (turnB.drop 14) ((sgW p).set 8 (some (scD sc))) M' E') :
    WSs (XW P w K mg base f cdv A outer s H E) (turnB.drop 11) ((sgW p).set 8 (some (scD sc))) M E' := by
  have nd := sc_law.nd
  have hr2 : Room 2 (XW P w K mg base f cdv A outer s H E).A := hr.mono (by omega)
  refine wss_cons (ws_set 20 nd (we_dr1 1 L.draw hr2 rfl ee_int hB (by decide) (by decide) fun r M1 hr1 hB1 _ => ?_))
  refine wss_cons (ws_set 21 nd (we_call L.talk (hr.mono (by omega)) (wa_cons (EE.to (ee_v 1 rfl) (wa_cons (we_call L.lscr (hr.mono (by omega)) (EA.to (ea_cons (ee_v 1 rfl) (ea_cons ee_bl ea_nil)) ⟨rfl, p, c, true, rfl, hB1, fun T M2 hT _ hB2 _ => wa_cons (we_call L.lscr (hr.mono (by omega)) (wa_cons (EE.to (ee_v 1 rfl) (wa_cons (we_cmp op_gt (Qa := fun d M3 => ∃ r : Nat, d = .int (r : Int) ∧ Bx M3 p c) (we_dr 1 L.draw hr2 rfl ee_int hB2 (by decide) (by decide) fun r M3 _ hB3 _ => ⟨r, rfl, hB3⟩) fun x M3 ⟨r2, e1, hB3⟩ => ?_)))))⟩)))))))
  subst e1
  refine EE.to ee_int (od_B0 (f := fun i j => decide (i > j)) (wa_nil ⟨rfl, p, c, _, rfl, hB3, fun B M4 hTB _ hB4 _ => wa_cons (EE.to (ee_v 20 (d := .int ((1 + r : Nat) : Int)) rfl) (wa_nil ⟨rfl, p, T, B, 1 + r, rfl, hT, hTB, by omega, by omega, fun nx M5 pf hnx hf hC5 => ?_⟩))⟩))
  have hB5 := (hB4.ch hC5 List.not_mem_nil List.not_mem_nil).1
  have lr : (rowsG g7 0 nx).length = nx := by
    unfold rowsG
    rw [List.length_map, List.length_range']
    rfl
  refine wss_cons (ws_ifE (k := false) (ww_pt (ew_or (p := false) (q := false) (et_cmp op_isN (ee_v 21 (d := .ptr pf) rfl) ee_non (od_isN ⟨_, rfl, rfl, rfl⟩)) fun _ => ww_or1 (ET.is (et_not (et_val (we_call L.sameL (hr.mono (by omega)) (EA.to (ea_cons (ee_v 21 (d := .ptr pf) rfl) (ea_cons (EE.is (ee_lc1 22 (ds := rngD 0 nx) (fun d => .tup [d, .int 7]) rfl nd (wi_rng1 L.B.range (EA.to (ea_cons (EE.is (ee_cb call_len L.B.len bi_len (ea_cons (ee_v 21 (d := .ptr pf) rfl) ea_nil) (cd_lenL (.inr ⟨pf, rfl, hf⟩) ⟨rfl, rfl⟩)) (d' := .int (nx : Int)) (by rw [lr])) ea_nil) ⟨_, rfl, by omega, by omega, by rw [Int.toNat_natCast], rfl, trivial⟩)) (by rw [rngD_len]; exact lt1000 (by omega)) fun j d hd s H C cl fp => ee_tup (ea_cons (ee_v 22 rfl) (ea_cons ee_int ea_nil))) (congrArg D.lst (rows_rng nx))) ea_nil)) ⟨rfl, .ptr pf, rowsG g7 0 nx, rowsG g7 0 nx, rfl, .inr ⟨pf, rfl, hf⟩, by rw [lr]; omega, by rw [lr]; omega, wf_rows nx, wf_rows nx, rfl, rfl⟩)))) (by rw [eqD_self]; rfl)))) (fun e => Bool.noConfusion e) fun _ => wss_nil ?_)
  exact wss_fg (sg1 := (sgW p).set 8 (some (scD sc))) ⟨rfl, rfl, trivial⟩ (q M5 hB5)
end
end K42
set_option Elab.async false
set_option linter.all false
set_option maxRecDepth 100000
set_option maxHeartbeats 4000000
namespace K42
open PySem L2 PyProof.Rows DL
/-! ### the law: a taker -/
/-- of the numbers heard: nx is the least one not among them, kd those above -/
structure Kpt (ks : List Nat) (nx : Nat) (kd : List Nat) : Prop where
  lt : ∀ k ∈ ks, k < 6
  got : ∀ k, k < nx → k ∈ ks
  no : nx ∉ ks
  kd : ∀ k, k ∈ kd ↔ k ∈ ks ∧ nx < k
theorem Kpt.small {ks : List Nat} {nx : Nat} {kd : List Nat} (h : Kpt ks nx kd) : nx ≤ 6 := by
  by_cases c : nx ≤ 6
  · exact c
  · have := h.lt _ (h.got 6 (by omega))
    omega
theorem Kpt.hear {ks : List Nat} {nx n nx' : Nat} {kd kd' : List Nat} (h : Kpt ks nx kd) (hn : n < 6) (hh : Heard nx kd n nx' kd') : Kpt (ks ++ [n]) nx' kd' := by
  have hle := hh.le
  refine ⟨fun k hk => ?_, fun k hk => ?_, fun hk => ?_, fun k => ⟨fun hk => ?_, fun ⟨hk, hlt⟩ => ?_⟩⟩
  · rcases List.mem_append.mp hk with hk | hk
    · exact h.lt k hk
    · rw [List.mem_singleton.mp hk]; exact hn
  · by_cases c : k < nx
    · exact List.mem_append_left _ (h.got k c)
    · rcases hh.gone k (by omega) hk with g | g
      · exact List.mem_append_left _ ((h.kd k).mp g).1
      · exact List.mem_append_right _ (List.mem_singleton.mpr g)
  · rcases List.mem_append.mp hk with hk | hk
    · have ne : nx' ≠ nx := fun z => h.no (by rw [← z]; exact hk)
      have := hh.up nx' ((hh.mem nx').mpr ⟨.inl ((h.kd nx').mpr ⟨hk, by omega⟩), Nat.le_refl _⟩)
      omega
    · have e := List.mem_singleton.mp hk
      have := hh.up nx' ((hh.mem nx').mpr ⟨.inr ⟨e, by omega⟩, Nat.le_refl _⟩)
      omega
  · have h1 := (hh.mem k).mp hk
    refine ⟨?_, hh.up k hk⟩
    rcases h1.1 with g | g
    · exact List.mem_append_left _ ((h.kd k).mp g).1
    · exact List.mem_append_right _ (List.mem_singleton.mpr g.1)
  · refine (hh.mem k).mpr ⟨?_, by omega⟩
    rcases List.mem_append.mp hk with hk | hk
    · exact .inl ((h.kd k).mpr ⟨hk, by omega⟩)
    · have e := List.mem_singleton.mp hk
      exact .inr ⟨e, by omega⟩
theorem lack_eq {ks : List Nat} {nx : Nat} {kd : List Nat} (h : Kpt ks nx kd) {m : Int} (e1 : m = (nx : Int) - 1 ∨ ∃ k ∈ kd, m = (k : Int)) (e3 : ∀ k ∈ kd, (k : Int) ≤ m) {mx : Nat} (x1 : mx ∈ ks) (x2 : ∀ k ∈ ks, k ≤ mx) : lackN nx kd m = (List.range mx).filter fun k => !decide (k ∈ ks) := by
  have hne : mx ≠ nx := fun z => h.no (by rw [← z]; exact x1)
  rcases e1 with e1 | ⟨k0, hk0, e1⟩
  · have hlt : mx < nx := by
      by_cases c : nx < mx
      · have := e3 mx ((h.kd mx).mpr ⟨x1, c⟩)
        omega
      · omega
    have l : lackN nx kd m = [] := by
      unfold lackN
      rw [show (m - (nx : Int)).toNat = 0 by omega]
      rfl
    rw [l]
    refine (List.filter_eq_nil_iff.mpr fun k hk => ?_).symm
    have := List.mem_range.mp hk
    rw [decide_eq_true (h.got k (by omega))]
    exact Bool.false_ne_true
  · have hk := (h.kd k0).mp hk0
    have a1 := x2 k0 hk.1
    have a2 := e3 mx ((h.kd mx).mpr ⟨x1, by omega⟩)
    have e : mx = k0 := by omega
    unfold lackN
    rw [show (m - (nx : Int)).toNat = mx - nx by omega]
    have er : List.range mx = List.range nx ++ (List.range (mx - nx)).map (nx + ·) := by
      have := List.range_add (n := nx) (m := mx - nx)
      rw [show nx + (mx - nx) = mx by omega] at this
      exact this
    have hnil : (List.range nx).filter (fun k => !decide (k ∈ ks)) = [] := List.filter_eq_nil_iff.mpr fun k hk => by
      rw [decide_eq_true (h.got k (List.mem_range.mp hk))]
      exact Bool.false_ne_true
    rw [er, List.filter_append, hnil, List.nil_append]
    refine List.filter_congr fun k hk => ?_
    obtain ⟨i, _, rfl⟩ := List.mem_map.mp hk
    congr 1
    rw [Bool.eq_iff_iff, decide_eq_true_iff, decide_eq_true_iff, h.kd]
    constructor
    · exact fun z => z.1
    · intro z
      refine ⟨z, ?_⟩
      have : nx + i ≠ nx := fun y => h.no (by rw [← y]; exact z)
      omega
def g1 (n : Nat) : D := iD [(n : Int)]
def kI (ks : List Nat) : List Int := ks.map fun (k : Nat) => (k : Int)
theorem any_kI (ks : List Nat) (n : Nat) : (((kI ks).map PyData.int).any fun z => PyData.eqv z (.int (n : Int))) = decide (n ∈ ks) := by
  rw [Bool.eq_iff_iff, List.any_eq_true, decide_eq_true_iff]
  constructor
  · rintro ⟨z, hz, e⟩
    obtain ⟨y, hy, rfl⟩ := List.mem_map.mp hz
    obtain ⟨k, hk, rfl⟩ := List.mem_map.mp hy
    rw [eqv_int] at e
    have e := of_decide_eq_true e
    rw [show n = k by omega]
    exact hk
  · intro h
    exact ⟨.int (n : Int), List.mem_map.mpr ⟨_, List.mem_map.mpr ⟨n, h, rfl⟩, rfl⟩, by rw [eqv_int]; exact decide_eq_true rfl⟩
theorem fine_all {ks : List Nat} {nx : Nat} {kd : List Nat} (h : Kpt ks nx kd) (l : Nat) : ((List.range (l + 1)).map fun j => decide (j ∈ ks)).all id = decide (l < nx) := by
  rw [Bool.eq_iff_iff, List.all_map, List.all_eq_true, decide_eq_true_iff]
  constructor
  · intro hh
    by_cases c : l < nx
    · exact c
    · exact absurd (of_decide_eq_true (hh nx (List.mem_range.mpr (by omega)))) h.no
  · intro hl k hk
    have := List.mem_range.mp hk
    exact decide_eq_true (h.got k (by omega))
theorem fine_len {n : Nat} (h : n ≤ 6) : ((((rngD 0 7).filter fun d => decide ((intOf d).toNat < n)).map fun d => d).length : Int) = (n : Int) := by
  have : n = 0 ∨ n = 1 ∨ n = 2 ∨ n = 3 ∨ n = 4 ∨ n = 5 ∨ n = 6 := by omega
  rcases this with e | e | e | e | e | e | e <;> (subst e; rfl)
theorem rows1_rng (nx : Nat) : (rngD 0 nx).map (fun d => D.tup [d]) = rowsG g1 0 nx := by
  unfold rngD rowsG
  rw [List.map_map, Nat.sub_zero, ← List.range_eq_range']
  refine List.map_congr_left fun k _ => ?_
  show D.tup [.int (0 + (k : Int))] = D.tup [.int (k : Int)]
  rw [Int.zero_add]
theorem wf_rows1 (n : Nat) : ∀ d ∈ rowsG g1 0 n, wf 900 3 d = true := fun d hd => by
  obtain ⟨k, _, rfl⟩ := List.mem_map.mp hd
  rfl
theorem rows1_len (n : Nat) : (rowsG g1 0 n).length = n := by
  unfold rowsG
  rw [List.length_map, List.length_range']
  rfl
structure TK (M : Mem) (CT p c aT : Addr) (oT : List Addr) (pk pg : Addr) (ks : List Nat) (nx : Nat) (kd : List Nat) : Prop where
  tak : TakAt M CT aT oT g1 nx kd
  kept : M pk = some (.lst ((kI ks).map .int))
  giv : M pg = some (.lst (rowsG g1 0 nx))
  bx : Bx M p c
  off : p ∉ oT ∧ c ∉ oT ∧ pk ∉ oT ∧ pg ∉ oT
  ne : pk ≠ p ∧ pk ≠ c ∧ pg ≠ p ∧ pg ≠ c ∧ pk ≠ pg
  k : Kpt ks nx kd
abbrev stepB : List Stmt := forBody (turnB.getD 15 (.Pass ⟨0, 0, 0, 0⟩))
section
variable {P : Program} {w : World} {K : PySem.W.Frag} {mg : Str → Option Value} {base : Heap} {CT : Addr}
abbrev sgK (p : Addr) (sc : Sc) (aT pk pg : Addr) : Sg := ((((sgW p).set 8 (some (scD sc))).set 23 (some (.ptr aT))).set 24 (some (.ptr pk))).set 25 (some (.ptr pg))
theorem w_step {f : Addr} {cdv : Value} {A : Around} {outer : List Env} {s : Shared} {H : Hp} {E : XK} {p c : Addr} {M : Mem} {E' : EndsD} {sc : Sc} {aT pk pg : Addr} {oT : List Addr} {ks : List Nat} {nx : Nat} {kd : List Nat} {d0 : D} (L : CW P w K mg base CT) (hr : Room 7 (XW P w K mg base f cdv A outer s H E).A) (h : TK M CT p c aT oT pk pg ks nx kd) (hz : ks.length ≤ 12)
    (q : ∀ M' sg' ks' nx' kd', Fg (sgK p sc aT pk pg) sg' → TK M' CT p c aT oT pk pg ks' nx' kd' → ks'.length = ks.length + 1 → E'.nx sg' M') :
    WSs (XW P w K mg base f cdv A outer s H E) stepB ((sgK p sc aT pk pg).set 4 (some d0)) M E' := by
  have nd := sc_law.nd
  have hr2 : Room 2 (XW P w K mg base f cdv A outer s H E).A := hr.mono (by omega)
  obtain ⟨o1, o2, o3, o4⟩ := h.off
  obtain ⟨n1, n2, n3, n4, n5⟩ := h.ne
  refine wss_cons (ws_set 22 nd (we_dr 1 L.draw hr2 rfl ee_int h.bx (by decide) (by decide) fun r M1 hr6 hB1 hE1 => ?_))
  have hk1 : M1 pk = some (.lst ((kI ks).map .int)) := by rw [hE1 pk n1 n2]; exact h.kept
  have hg1 : M1 pg = some (.lst (rowsG g1 0 nx)) := by rw [hE1 pg n3 n4]; exact h.giv
  have ht1 : TakAt M1 CT aT oT g1 nx kd := (h.tak.ch (Els.ch hE1) fun x hx z => by
    simp only [List.mem_cons, List.not_mem_nil, or_false] at z
    rcases z with rfl | rfl
    · exact o1 hx
    · exact o2 hx).1
  obtain ⟨tp, eo, t1, t2⟩ := ht1.ex
  have hkl : kd.length ≤ 20 := Nat.le_trans (nodup_len 6 kd ht1.nd fun k hk => h.k.lt k ((h.k.kd k).mp hk).1) (by decide)
  have hs6 := h.k.small
  refine wss_cons (ws_expr (we_bm PySem.F.plainAttrs_list PySem.F.slot_list_extend PySem.F.type_list_extend mt_extend (EE.to (ee_v 25 rfl) ⟨ty_lst (.inr ⟨pg, rfl, hg1⟩), wa_cons (we_meth L.tt.cls L.thear (hr.mono (by omega)) (EE.to (ee_v 23 rfl) ⟨aT, _, rfl, t1, rfl, EA.to (ds := [.int (r : Int), g1 r]) (ea_cons (ee_v 22 rfl) (ea_cons (ee_tup (ea_cons (ee_v 22 rfl) ea_nil)) ea_nil)) ⟨rfl, aT, oT, g1, nx, kd, r, rfl, ht1, by omega, fun M3 nx2 kd2 y hT3 hH3 hC3 hl3 hy3 => ?_⟩⟩))⟩)))
  have hK2 := h.k.hear (by omega) hH3
  have hs62 := hK2.small
  obtain ⟨f1, _⟩ := hC3.at hg1 o4
  obtain ⟨f2, _⟩ := hC3.at hk1 o3
  have f3 := (hB1.ch hC3 o1 o2).1
  refine wa_nil (md_extend f1 hl3 (by rw [rows1_len]; unfold rowsG; rw [List.length_map, List.length_range']; exact Nat.le_of_lt (lt1000 (by omega))) ?_)
  rw [rowsG_cat g1 (Nat.zero_le _) hH3.le]
  have hkI : (kI ks).map D.int ++ [.int (r : Int)] = (kI (ks ++ [r])).map .int := by
    unfold kI
    rw [List.map_append, List.map_append]
    rfl
  refine wss_cons (ws_expr (we_bm PySem.F.plainAttrs_list PySem.F.slot_list_append PySem.F.type_list_append mt_append (EE.to (ee_v 24 rfl) ⟨ty_lst (.inr ⟨pk, rfl, by rw [updM_ne n5]; exact f2⟩), EA.to (ds := [.int (r : Int)]) (ea_cons (ee_v 22 rfl) ea_nil) (md_append (by rw [updM_ne n5]; exact f2) (lt1000 (by unfold kI; rw [List.length_map, List.length_map]; omega)) ?_)⟩)))
  rw [hkI]
  obtain ⟨rp, re, r1, r2⟩ := hT3.ex
  have hT : TK (updM (updM M3 pg (some (.lst (rowsG g1 0 nx2)))) pk (some (.lst ((kI (ks ++ [r])).map .int)))) CT p c aT oT pk pg (ks ++ [r]) nx2 kd2 := by
    have ia : aT ∈ oT := by rw [re]; simp
    have ir : rp ∈ oT := by rw [re]; simp
    refine ⟨⟨⟨rp, re, ?_, ?_⟩, hT3.nd, hT3.up⟩, updM_same, by rw [updM_ne n5.symm]; exact updM_same, (f3.put n3 n4).put n1 n2, h.off, h.ne, hK2⟩
    · rw [updM_ne fun z => o3 (by rw [← z]; exact ia), updM_ne fun z => o4 (by rw [← z]; exact ia)]
      exact r1
    · rw [updM_ne fun z => o3 (by rw [← z]; exact ir), updM_ne fun z => o4 (by rw [← z]; exact ir)]
      exact r2
  have hkz : (ks ++ [r]).length = ks.length + 1 := by rw [List.length_append]; rfl
  have hkne : ks ++ [r] ≠ [] := fun z => by rw [z] at hkz; cases hkz
  generalize updM (updM M3 pg (some (.lst (rowsG g1 0 nx2)))) pk (some (.lst ((kI (ks ++ [r])).map .int))) = M5 at hT ⊢
  generalize ks ++ [r] = ks2 at hT hkz hkne
  -- how many are fine
  have hin : ∀ {Y : Cx} {j : Nat} {a b : Expr} {px : Pos} {sg : Sg}, OpR Y (compareOp .In) (rInD Y.K) → EE Y a sg M5 (.int (j : Int)) → EE Y b sg M5 (.ptr pk) → behindInMarks .In b = false → EE Y (.Compare a [.In] [b] px) sg M5 (.bl (decide (j ∈ ks2))) := fun {Y j a b px sg} ho ha hb hm => EE.is (ee_cmp ho ha hb (od_in (d := .int (j : Int)) (.inl ⟨rfl, rfl⟩) (pyd_ints (.inr ⟨pk, rfl, hT.kept⟩)) rfl (shapedL_int _) ⟨rfl, rfl⟩) hm) (congrArg D.bl (any_kI ks2 j))
  refine wss_cons (ws_set 26 nd (EE.to (d := .int (nx2 : Int)) (EE.is (ee_cb call_len L.B.len bi_len (ea_cons (ee_lc1if 10 (ds := rngD 0 7) (fun d => decide ((intOf d).toNat < nx2)) (fun d => d) rfl nd (wi_rng1 L.B.range (EA.to (ea_cons ee_int ea_nil) ⟨7, rfl, by decide, by decide, rfl, rfl, trivial⟩)) (by rw [rngD_len]; exact lt1000 (by decide)) (fun l d hd => ?_) fun l d hd _ s H C cl fp => ee_v 10 rfl) ea_nil) (cd_lenL (.inl rfl) ⟨rfl, rfl⟩)) (congrArg D.int (fine_len hs62))) ?_))
  · obtain ⟨hj, rfl⟩ := rngD_at hd
    rw [Int.zero_add, show (intOf (.int (l : Int))).toNat = l from Int.toNat_natCast l]
    intro s H C cl fp
    refine et_val (EE.is (ee_cb (cr_all rfl) L.B.all bi_all (ea_cons (ee_lc1 17 (ds := rngD 0 (l + 1)) (fun d => .bl (decide ((intOf d).toNat ∈ ks2))) rfl nd (wi_rng1 L.B.range (EA.to (ea_cons (ee_add (ee_v 10 rfl) ee_int) ea_nil) ⟨((l + 1 : Nat) : Int), by rw [Int.natCast_add]; rfl, by omega, by omega, by rw [Int.toNat_natCast], rfl, trivial⟩)) (by rw [rngD_len]; exact lt1000 (by omega)) fun j d hd => ?_) ea_nil) (cd_all (bs := (List.range (l + 1)).map fun j => decide (j ∈ ks2)) (.inl ?_) ⟨rfl, rfl⟩)) (congrArg D.bl (fine_all hT.k l)))
    · obtain ⟨hj2, rfl⟩ := rngD_at hd
      rw [Int.zero_add, show (intOf (.int (j : Int))).toNat = j from Int.toNat_natCast j]
      exact fun s H C cl fp => hin (op_inD (units65 hr)) (ee_v 17 rfl) (ee_v 24 rfl) (by first | exact nomark _ | rfl)
    · rw [rng_map (l + 1) fun j => D.bl (decide (j ∈ ks2)), List.map_map]
      rfl
  -- all as it should be
  obtain ⟨x1, x2⟩ := maxI_spec (l := kI ks2) fun z => hkne (List.map_eq_nil_iff.mp z)
  obtain ⟨mx, mxi, mxe⟩ := List.mem_map.mp x1
  have mx2 : ∀ k ∈ ks2, k ≤ mx := fun k hk => by
    have := x2 _ (List.mem_map.mpr ⟨k, hk, rfl⟩)
    omega
  have mx6 := hT.k.lt mx mxi
  have hkd : ∀ k ∈ kd2, k < 6 := fun k hk => hT.k.lt k ((hT.k.kd k).mp hk).1
  have hkl2 : kd2.length ≤ 6 := nodup_len 6 kd2 hT.tak.nd hkd
  obtain ⟨vp, ve, v1, v2⟩ := hT.tak.ex
  have hrz := rows1_len nx2
  have hwl : wf 900 4 (.tup (((List.range mx).filter fun k => !decide (k ∈ ks2)).map fun (k : Nat) => .int (k : Int))) = true := by
    refine tup_wf (by rw [List.length_map]; exact Nat.le_trans (List.length_filter_le _ _) (by rw [List.length_range]; omega)) fun d hd => ?_
    obtain ⟨k, _, rfl⟩ := List.mem_map.mp hd
    rfl
  refine wss_one (ws_ifE (k := false) (ww_pt (ew_or (p := false) (q := false) (ET.is (et_not (et_val (we_call L.sameL (hr.mono (by omega)) (EA.to (ea_cons (ee_v 25 rfl) (ea_cons (EE.is (ee_lc1 10 (ds := rngD 0 nx2) (fun d => .tup [d]) rfl nd (wi_rng1 L.B.range (EA.to (ea_cons (ee_v 26 rfl) ea_nil) ⟨_, rfl, by omega, by omega, by rw [Int.toNat_natCast], rfl, trivial⟩)) (by rw [rngD_len]; exact lt1000 (by omega)) fun j d hd s H C cl fp => ee_tup (ea_cons (ee_v 10 rfl) ea_nil)) (congrArg D.lst (rows1_rng nx2))) ea_nil)) ⟨rfl, .ptr pg, rowsG g1 0 nx2, rowsG g1 0 nx2, rfl, .inr ⟨pg, rfl, hT.giv⟩, by omega, by omega, wf_rows1 nx2, wf_rows1 nx2, rfl, rfl⟩)))) (by rw [eqD_self]; rfl)) fun _ => ew_or (p := false) (q := false) (ET.is (et_neI (we_meth0 L.tt.cls L.next (hr.mono (by omega)) (EE.to (ee_v 23 rfl) ⟨aT, _, rfl, v1, rfl, ⟨aT, oT, g1, nx2, kd2, rfl, hT.tak, rfl, rfl⟩⟩)) (ee_v 26 rfl)) (by rw [decide_eq_true rfl]; rfl)) fun _ => ww_or1 (ET.is (et_not (et_val (we_call L.same (hr.mono (by omega)) (EA.to (ea_cons (we_meth0 L.tt.cls L.lack (hr.mono (by omega)) (EE.to (ee_v 23 rfl) ⟨aT, _, rfl, v1, rfl, ⟨aT, oT, g1, nx2, kd2, rfl, hT.tak, by omega, by omega, fun k hk => by have := hkd k hk; omega, fun m e1 e2 e3 => ⟨by rw [lack_eq hT.k e1 e3 mxi mx2], rfl⟩⟩⟩)) (ea_cons (EE.is (ee_ct call_tuple_of L.B.tuple bi_tuple (ea_cons (ee_lc1if 10 (ds := rngD 0 mx) (fun d => !decide ((intOf d).toNat ∈ ks2)) (fun d => d) rfl nd (wi_rng1 L.B.range (EA.to (ea_cons (we_cb (cr_max rfl) L.B.max bi_max (EA.to (ea_cons (ee_v 24 rfl) ea_nil) (cd_max (ns := kI ks2) (.inr ⟨pk, rfl, hT.kept⟩) (List.length_pos_iff.mpr fun z => hkne (List.map_eq_nil_iff.mp z)) fun m m1 m2 => ⟨congrArg D.int (maxI_of m1 m2), rfl⟩))) ea_nil) ⟨maxI (kI ks2), rfl, by omega, by omega, by rw [← mxe, Int.toNat_natCast], rfl, trivial⟩)) (by rw [rngD_len]; exact lt1000 (by omega)) (fun l d hd => ?_) fun l d hd _ s H C cl fp => ee_v 10 rfl) ea_nil) (cd_tupL (.inl rfl) ⟨rfl, rfl⟩)) (d' := .tup (((List.range mx).filter fun k => !decide (k ∈ ks2)).map fun (k : Nat) => .int (k : Int))) ?_) ea_nil)) ⟨rfl, _, _, rfl, hwl, hwl, rfl, rfl⟩)))) (by rw [eqD_self]; rfl)))) (fun e => Bool.noConfusion e) fun _ => wss_nil ?_)
  · obtain ⟨hj, rfl⟩ := rngD_at hd
    rw [Int.zero_add, show (intOf (.int (l : Int))).toNat = l from Int.toNat_natCast l]
    intro s H C cl fp
    exact ET.is (et_cmp (op_notInD (units65 hr)) (ee_v 10 rfl) (ee_v 24 rfl) (od_nin (d := .int (l : Int)) (.inl ⟨rfl, rfl⟩) (pyd_ints (.inr ⟨pk, rfl, hT.kept⟩)) rfl (shapedL_int _) ⟨_, rfl, rfl, rfl⟩)) (by rw [any_kI])
  · refine congrArg D.tup ?_
    rw [List.map_id']
    unfold rngD
    rw [List.filter_map]
    have e1 : ∀ j : Nat, (intOf (.int (0 + (j : Int)))).toNat = j := fun j => by show (0 + (j : Int)).toNat = j; omega
    have e2 : ((fun d => !decide ((intOf d).toNat ∈ ks2)) ∘ fun (j : Nat) => D.int (0 + (j : Int))) = fun k => !decide (k ∈ ks2) := funext fun j => by
      show (!decide ((intOf (.int (0 + (j : Int)))).toNat ∈ ks2)) = _
      rw [e1]
    rw [e2]
    exact List.map_congr_left fun j _ => by rw [Int.zero_add]
  · exact q M5 _ ks2 nx2 kd2 ⟨rfl, rfl, rfl, rfl, rfl, trivial⟩ hT hkz
theorem w_taker {f : Addr} {cdv : Value} {A : Around} {outer : List Env} {s : Shared} {H : Hp} {E : XK} {p c : Addr} {M : Mem} {E' : EndsD} {sc : Sc} (L : CW P w K mg base CT) (hr : Room 7 (XW P w K mg base f cdv A outer s H E).A) (hB : Bx M p c)
    (q : ∀ M', Bx M' p c → WSs (XW P w K mg base f cdv A outer s H E) (turnB.drop 16) ((sgW p).set 8 (some (scD sc))) M' E') :
    WSs (XW P w K mg base f cdv A outer s H E) (turnB.drop 14) ((sgW p).set 8 (some (scD sc))) M E' := by
  have nd := sc_law.nd
  refine wss_cons (ws_asg (we_tup (wa_cons (we_make0 L.makeT (hr.mono (by omega)) fun aT haT => ⟨aT, rfl, updM_same, fun M1 oT hT1 hC1 => ⟨rfl, wa_cons (we_lstM (wa_nil ⟨Nat.zero_le _, fun pk hpk => wa_cons (we_lstM (wa_nil ⟨Nat.zero_le _, fun pg hpg => wa_nil ⟨Nat.le_of_lt (lt1000 (show 3 < 1000 by decide)), _, _, wg_tup rfl (wgs_cons (wg_name 23 nd) (wgs_cons (wg_name 24 nd) (wgs_cons (wg_name 25 nd) wgs_nil))), ?_⟩⟩))⟩))⟩⟩))))
  have c1 : Ch M M1 [] oT := hC1.made haT
  obtain ⟨hB1, u1, u2⟩ := hB.ch c1 List.not_mem_nil List.not_mem_nil
  obtain ⟨a1, a2⟩ := hB1.beside hpk
  have hB2 := hB1.put (u := some (.lst [])) a1 a2
  obtain ⟨b1, b2⟩ := hB2.beside hpg
  have ngk : pg ≠ pk := fun z => by rw [z, updM_same] at hpg; cases hpg
  have hpg1 : M1 pg = none := by rw [updM_ne ngk] at hpg; exact hpg
  have t0 := hT1 g1
  have hpk2 : pk ∉ oT := fun z => t0.there pk z hpk
  have hpg2 : pg ∉ oT := fun z => t0.there pg z hpg1
  obtain ⟨tp, te, t1, t2⟩ := t0.ex
  have hTK : TK (updM (updM M1 pk (some (.lst []))) pg (some (.lst []))) CT p c aT oT pk pg [] 0 [] := by
    have ia : aT ∈ oT := by rw [te]; simp
    have ir : tp ∈ oT := by rw [te]; simp
    refine ⟨⟨⟨tp, te, ?_, ?_⟩, t0.nd, t0.up⟩, by rw [updM_ne ngk.symm]; exact updM_same, updM_same, hB2.put b1 b2, ⟨u1, u2, hpk2, hpg2⟩, ⟨a1, a2, b1, b2, ngk.symm⟩, ⟨fun k h => absurd h List.not_mem_nil, fun k h => absurd h (Nat.not_lt_zero _), List.not_mem_nil, fun k => ⟨fun h => absurd h List.not_mem_nil, fun h => absurd h.1 List.not_mem_nil⟩⟩⟩
    · rw [updM_ne fun z => hpg2 (by rw [← z]; exact ia), updM_ne fun z => hpk2 (by rw [← z]; exact ia)]
      exact t1
    · rw [updM_ne fun z => hpg2 (by rw [← z]; exact ir), updM_ne fun z => hpk2 (by rw [← z]; exact ir)]
      exact t2
  show WSs _ _ _ (updM (updM M1 pk (some (.lst []))) pg (some (.lst []))) _
  generalize updM (updM M1 pk (some (.lst []))) pg (some (.lst [])) = M3 at hTK ⊢
  refine wss_cons (ws_for PassesOwn.never rfl (Qi := fun es C' M2 => es = rngD 0 12 ∧ M2 = M3 ∧ ∀ M1, C' M1) (wi_rng1 L.B.range (EA.to (ea_cons ee_int ea_nil) ⟨12, rfl, by decide, by decide, rfl, rfl, fun _ => trivial⟩)) fun es C' M2 ⟨e1, e2, hC⟩ => ?_)
  subst e1; subst e2
  refine ⟨fun i sg1 M1 => Fg (sgK p sc aT pk pg) sg1 ∧ ∃ ks nx kd, ks.length = i ∧ TK M1 CT p c aT oT pk pg ks nx kd, ⟨⟨rfl, rfl, rfl, rfl, rfl, trivial⟩, [], 0, [], rfl, hTK⟩, fun i sg1 M1 _ => hC _, fun i d sg1 M1 he ⟨hg, ks, nx, kd, hl, h1⟩ => ?_, fun sg1 M1 ⟨hg, ks, nx, kd, hl, h1⟩ => wss_fg (sg1 := (sgW p).set 8 (some (scD sc))) (fg_trans (b := sgK p sc aT pk pg) ⟨rfl, rfl, trivial⟩ hg) (q M1 h1.bx)⟩
  obtain ⟨hi, rfl⟩ := rngD_at he
  refine ⟨_, _, wg_name 4 nd, wss_fg (fg_set hg 4 _) ?_⟩
  exact w_step L hr h1 (by omega) fun M2 sg2 ks2 nx2 kd2 hg2 h2 hl2 => ⟨hg2, ks2, nx2, kd2, by omega, h2⟩
end
end K42
set_option Elab.async false
set_option linter.all false
set_option maxRecDepth 100000
set_option maxHeartbeats 4000000
namespace K42
open PySem L2 PyProof.Rows DL
/-! ### the law: values that are nearly scripts, nearly copies; its body -/
theorem fate1 (v : D) : fateB (.tup [v]) = copyB v := by
  show (decide (1 ≤ 3) && (copyB v && true)) = copyB v
  rw [Bool.and_true]
  rfl
theorem pl1 {v : D} (h : pl v = true) : pl (.tup [v]) = true := by
  show (pl v && true) = true
  rw [h]
  rfl
theorem pl_rep {n : Nat} {ds : List D} (h : pl (.tup ds) = true) : pl (.tup (List.replicate n ds).flatten) = true := by
  have e : ∀ {l : List D}, pl (.tup l) = true ↔ ∀ d ∈ l, pl d = true := fun {l} => by
    induction l with
    | nil => exact ⟨fun _ d hd => absurd hd List.not_mem_nil, fun _ => rfl⟩
    | cons x l ih =>
      constructor
      · intro h d hd
        have h := Bool.and_eq_true_iff.mp (show (pl x && pl (.tup l)) = true from h)
        rcases List.mem_cons.mp hd with rfl | hd
        · exact h.1
        · exact ih.mp h.2 d hd
      · intro h
        exact Bool.and_eq_true_iff.mpr ⟨h x List.mem_cons_self, ih.mpr fun d hd => h d (List.mem_cons_of_mem _ hd)⟩
  rw [e] at h ⊢
  intro d hd
  obtain ⟨l, hl, hd⟩ := List.mem_flatten.mp hd
  rw [(List.mem_replicate.mp hl).2] at hd
  exact h d hd
section
variable {P : Program} {w : World} {K : PySem.W.Frag} {mg : Str → Option Value} {base : Heap} {CT : Addr}
/-- values bent, one by one -/
theorem bents {X : Cx} {scope : Scope} {elt : Expr} {sg : Sg} {M : Mem} {n : Nat} {p c : Addr} {px : Pos} {x : Str} (kk : Nat) (hN : X.N.Nodup) (hkk : X.N[kk]? = some x) (hn : n ≤ 100) (hB : Bx M p c) (hk : scope.names.lookup x = some .local ∨ scope.names.lookup x = some .cell) (helt : ∀ v M1, Bx M1 p c → Blk X scope fun Y => WE Y elt ((wipeD sg [kk]).set kk (some v)) M1 (fun d M2 => pl d = true ∧ Bx M2 p c))
    {Q0 : List D → Mem → Prop} {ds : List D} {C : Mem → Prop} {M0 : Mem} (h : ds = rngD 0 n ∧ M0 = M ∧ ∀ M1 : Mem, C M1) (q : ∀ acc M1, acc.length = n → (∀ d ∈ acc, pl d = true) → Bx M1 p c → Q0 acc M1) :
    ∃ Pv : Nat → List D → Mem → Prop, Pv 0 [] M0 ∧ (∀ i acc M1, Pv i acc M1 → C M1 ∧ acc.length < sizeLine) ∧ (∀ i d acc M1, ds[i]? = some d → Pv i acc M1 → LcTurn X scope [kk] (.Name x px) elt [] sg d M1 (fun y M3 => Pv (i + 1) (acc ++ [y]) M3) (fun M3 => Pv (i + 1) acc M3)) ∧
      ∀ acc M1, Pv ds.length acc M1 → Q0 acc M1 := by
  obtain ⟨e1, e2, hC⟩ := h
  subst e1; subst e2
  refine ⟨fun i acc M1 => i ≤ n ∧ acc.length = i ∧ (∀ d ∈ acc, pl d = true) ∧ Bx M1 p c, ⟨Nat.zero_le _, rfl, fun d hd => absurd hd List.not_mem_nil, hB⟩, fun i acc M1 ⟨hi, hl, _⟩ => ⟨hC _, lt1000 (by omega)⟩, fun i d acc M1 hd ⟨hi, hl, hp, hB1⟩ => ?_, fun acc M1 ⟨hi, hl, hp, hB1⟩ => q acc M1 (by rw [rngD_len] at hl; exact hl) hp hB1⟩
  obtain ⟨hj, rfl⟩ := rngD_at hd
  refine turn1 kk (List.mem_singleton.mpr rfl) hN hk hkk (fun b M2 => b = true ∧ M2 = M1) (fun _ _ _ _ _ => ⟨rfl, rfl⟩) (fun M2 ⟨_, e2⟩ => ?_) (fun M2 ⟨e, _⟩ => Bool.noConfusion e)
  subst e2
  intro s H C cl fp
  refine (helt _ _ hB1 s H C cl fp).imp fun d M3 ⟨e3, hB3⟩ => ⟨by omega, by rw [List.length_append, hl]; rfl, fun x hx => ?_, hB3⟩
  rcases List.mem_append.mp hx with hx | hx
  · exact hp x hx
  · rw [List.mem_singleton.mp hx]; exact e3
theorem w_vals1 {f : Addr} {cdv : Value} {A : Around} {outer : List Env} {s : Shared} {H : Hp} {E : XK} {p c : Addr} {M : Mem} {E' : EndsD} {sc : Sc} (L : CW P w K mg base CT) (hr : Room 7 (XW P w K mg base f cdv A outer s H E).A) (hB : Bx M p c) (hs : ScS sc)
    (q : ∀ M', Bx M' p c → WSs (XW P w K mg base f cdv A outer s H E) (turnB.drop 17) ((sgW p).set 8 (some (scD sc))) M' E') :
    WSs (XW P w K mg base f cdv A outer s H E) (turnB.drop 16) ((sgW p).set 8 (some (scD sc))) M E' := by
  have nd := sc_law.nd
  have hpos := hs.pos
  have hfew := hs.few
  have hpl := scD_pl hs
  have hne : sc.map ftD ≠ [] := fun z => by
    have := congrArg List.length z
    rw [List.length_map] at this
    have h0 : sc.length = 0 := this
    omega
  refine wss_cons (ws_for PassesOwn.never rfl (Qi := fun es C' M2 => (∀ d ∈ es, pl d = true) ∧ Bx M2 p c ∧ ∀ M1, C' M1) (wi_lst (we_op op_cat (Qa := fun d M1 => (∃ ls : List D, d = .lst ls ∧ ls.length = 10 ∧ ∀ x ∈ ls, pl x = true) ∧ M1 = M) (EE.to (ee_lst (ea_cons (ee_v 8 rfl) (ea_cons (ee_tup ea_nil) (ea_cons (ee_op op_repA (ee_v 8 (d := scD sc) rfl) ee_int (od_repA (by decide) (by decide) (by rw [List.length_map]; omega) ⟨rfl, rfl⟩)) (ea_cons (ee_tup (ea_cons (ee_tup (ea_cons (ee_tup (ea_cons ee_int (ea_cons ee_non ea_nil))) ea_nil)) ea_nil)) (ea_cons (ee_tup (ea_cons (ee_tup (ea_cons (ee_tup (ea_cons ee_int (ea_cons ee_non ea_nil))) ea_nil)) ea_nil)) (ea_cons (ee_tup (ea_cons (ee_tup (ea_cons (ee_tup (ea_cons ee_int (ea_cons (ee_tup (ea_cons ee_int (ea_cons ee_int ea_nil))) ea_nil))) ea_nil)) ea_nil)) (ea_cons (ee_tup (ea_cons (ee_tup (ea_cons (ee_tup (ea_cons ee_int (ea_cons (ee_tup (ea_cons ee_int (ea_cons ee_int ea_nil))) ea_nil))) ea_nil)) ea_nil)) (ea_cons (ee_tup (ea_cons (ee_op op_repA (ee_tup (ea_cons (ee_tup (ea_cons ee_int (ea_cons ee_non ea_nil))) ea_nil)) ee_int (od_repA (by decide) (by decide) (by decide) ⟨rfl, rfl⟩)) ea_nil)) (ea_cons ee_non (ea_cons ee_int ea_nil))))))))))) ⟨⟨_, rfl, rfl, fun x hx => ?_⟩, rfl⟩) fun x M1 ⟨⟨ls, e1, hl, hls⟩, e2⟩ => ?_)) fun es C' M2 ⟨hes, hB2, hC⟩ => ?_)
  · simp only [List.mem_cons, List.not_mem_nil, or_false] at hx
    rcases hx with rfl | rfl | rfl | rfl | rfl | rfl | rfl | rfl | rfl | rfl
    · exact hpl
    · rfl
    · exact pl_rep hpl
    · rfl
    · rfl
    · rfl
    · rfl
    · rfl
    · rfl
    · rfl
  · subst e1; subst e2
    refine we_lc [("step", 4)] rfl nd (blkOk_by (by with_unfolding_all rfl)) (Qi := fun es C' M2 => es = rngD 0 5 ∧ M2 = M1 ∧ ∀ M3, C' M3) (wi_rng1 L.B.range (EA.to (ea_cons ee_int ea_nil) ⟨5, rfl, by decide, by decide, rfl, rfl, fun _ => trivial⟩)) fun es C' M2 hq => ?_
    refine bents 4 nd rfl (n := 5) (M := M1) (p := p) (c := c) (by decide) hB (by first | exact Or.inl rfl | exact Or.inr rfl) (fun v M3 hB3 s H C cl fp => we_call L.bent (hr.mono (by omega)) (EA.to (ea_cons (ee_v 1 rfl) (ea_cons (ee_v 8 rfl) ea_nil)) ⟨rfl, p, c, scD sc, rfl, hB3, bp_scD hs, fun d M4 hw hB4 _ => ⟨wf_pl hw, hB4⟩⟩)) hq fun acc M3 hal hap hB3 => ?_
    refine od_cat (.inl rfl) (.inl rfl) (Nat.le_of_lt (lt1000 (by omega))) ⟨_, .inl rfl, fun d hd => ?_, hB3, fun _ => .inl rfl⟩
    rcases List.mem_append.mp hd with hd | hd
    · exact hls d hd
    · exact hap d hd
  · refine ⟨fun i sg1 M1 => Fg ((sgW p).set 8 (some (scD sc))) sg1 ∧ M1 = M2, ⟨⟨rfl, rfl, trivial⟩, rfl⟩, fun i sg1 M1 _ => hC _, fun i d sg1 M1 he ⟨hg, hM⟩ => ?_, fun sg1 M1 ⟨hg, hM⟩ => wss_fg hg (q M1 (by rw [hM]; exact hB2))⟩
    subst hM
    have hp := hes d (List.mem_of_getElem? he)
    refine ⟨_, _, wg_name 27 nd, wss_fg (fg_set hg 27 _) ?_⟩
    exact wss_one (ws_ifE (k := false) (ET.is (et_not (et_val (we_call L.same (hr.mono (by omega)) (EA.to (ea_cons (we_call L.script (hr.mono (by omega)) (EA.to (ea_cons (ee_v 27 rfl) ea_nil) ⟨rfl, d, rfl, hp, rfl, rfl⟩)) (ea_cons (we_call L.lscript (hr.mono (by omega)) (EA.to (ea_cons (ee_v 27 rfl) ea_nil) ⟨rfl, d, rfl, hp, rfl, rfl⟩)) ea_nil)) ⟨rfl, .bl (scriptB d), .bl (scriptB d), rfl, rfl, rfl, rfl, rfl⟩)))) (by rw [eqD_self]; rfl)) (fun e => Bool.noConfusion e) fun _ => wss_nil ⟨⟨rfl, rfl, trivial⟩, rfl⟩)
theorem w_vals2 {f : Addr} {cdv : Value} {A : Around} {outer : List Env} {s : Shared} {H : Hp} {E : XK} {p c : Addr} {M : Mem} {E' : EndsD} {sc : Sc} (L : CW P w K mg base CT) (hr : Room 7 (XW P w K mg base f cdv A outer s H E).A) (hB : Bx M p c)
    (q : ∀ M' sg', Fg (sgW p) sg' → Bx M' p c → E'.nx sg' M') :
    WSs (XW P w K mg base f cdv A outer s H E) (turnB.drop 17) ((sgW p).set 8 (some (scD sc))) M E' := by
  have nd := sc_law.nd
  refine wss_one (ws_for PassesOwn.never rfl (Qi := fun es C' M2 => (∀ d ∈ es, pl d = true) ∧ Bx M2 p c ∧ ∀ M1, C' M1) (wi_lst (we_op op_cat (Qa := fun d M1 => (∃ ls : List D, d = .lst ls ∧ ls.length = 6 ∧ ∀ x ∈ ls, pl x = true) ∧ M1 = M) (EE.to (ee_lst (ea_cons (ee_tup (ea_cons ee_int (ea_cons ee_non ea_nil))) (ea_cons (ee_tup (ea_cons ee_int (ea_cons (ee_tup (ea_cons ee_int (ea_cons ee_int ea_nil))) ea_nil))) (ea_cons (ee_tup (ea_cons ee_int (ea_cons (ee_tup (ea_cons ee_int (ea_cons ee_int ea_nil))) ea_nil))) (ea_cons (ee_tup (ea_cons ee_bl (ea_cons ee_non ea_nil))) (ea_cons (ee_tup (ea_cons ee_int ea_nil)) (ea_cons ee_non ea_nil))))))) ⟨⟨_, rfl, rfl, fun x hx => ?_⟩, rfl⟩) fun x M1 ⟨⟨ls, e1, hl, hls⟩, e2⟩ => ?_)) fun es C' M2 ⟨hes, hB2, hC⟩ => ?_)
  · simp only [List.mem_cons, List.not_mem_nil, or_false] at hx
    rcases hx with rfl | rfl | rfl | rfl | rfl | rfl <;> rfl
  · subst e1; subst e2
    refine we_lc [("step", 4)] rfl nd (blkOk_by (by with_unfolding_all rfl)) (Qi := fun es C' M2 => es = rngD 0 3 ∧ M2 = M1 ∧ ∀ M3, C' M3) (wi_rng1 L.B.range (EA.to (ea_cons ee_int ea_nil) ⟨3, rfl, by decide, by decide, rfl, rfl, fun _ => trivial⟩)) fun es C' M2 hq => ?_
    refine bents 4 nd rfl (n := 3) (M := M1) (p := p) (c := c) (by decide) hB (by first | exact Or.inl rfl | exact Or.inr rfl) (fun v M3 hB3 s H C cl fp => we_call L.bent (hr.mono (by omega)) (EA.to (ea_cons (ee_v 1 rfl) (ea_cons (ee_tup (ea_cons ee_int (ea_cons (ee_tup (ea_cons ee_int (ea_cons ee_int ea_nil))) ea_nil))) ea_nil)) ⟨rfl, p, c, .tup [.int 2, .tup [.int 3, .int 4]], rfl, hB3, by decide, fun d M4 hw hB4 _ => ⟨wf_pl hw, hB4⟩⟩)) hq fun acc M3 hal hap hB3 => ?_
    refine od_cat (.inl rfl) (.inl rfl) (Nat.le_of_lt (lt1000 (by omega))) ⟨_, .inl rfl, fun d hd => ?_, hB3, fun _ => .inl rfl⟩
    rcases List.mem_append.mp hd with hd | hd
    · exact hls d hd
    · exact hap d hd
  · refine ⟨fun i sg1 M1 => Fg (sgW p) sg1 ∧ M1 = M2, ⟨⟨rfl, trivial⟩, rfl⟩, fun i sg1 M1 _ => hC _, fun i d sg1 M1 he ⟨hg, hM⟩ => ?_, fun sg1 M1 ⟨hg, hM⟩ => q M1 sg1 hg (by rw [hM]; exact hB2)⟩
    subst hM
    have hp := hes d (List.mem_of_getElem? he)
    refine ⟨_, _, wg_name 27 nd, wss_fg (fg_set hg 27 _) ?_⟩
    exact wss_one (ws_ifE (k := false) (ww_pt (ew_or (p := false) (q := false) (ET.is (et_not (et_val (we_call L.same (hr.mono (by omega)) (EA.to (ea_cons (we_call L.copy (hr.mono (by omega)) (EA.to (ea_cons (ee_v 27 rfl) ea_nil) ⟨rfl, d, rfl, hp, rfl, rfl⟩)) (ea_cons (we_call L.lcopy (hr.mono (by omega)) (EA.to (ea_cons (ee_v 27 rfl) ea_nil) ⟨rfl, d, rfl, hp, rfl, rfl⟩)) ea_nil)) ⟨rfl, .bl (copyB d), .bl (copyB d), rfl, rfl, rfl, rfl, rfl⟩)))) (by rw [eqD_self]; rfl)) fun _ => ww_or1 (ET.is (et_not (et_val (we_call L.same (hr.mono (by omega)) (EA.to (ea_cons (we_call L.fate (hr.mono (by omega)) (EA.to (ea_cons (ee_tup (ea_cons (ee_v 27 rfl) ea_nil)) ea_nil) ⟨rfl, .tup [d], rfl, pl1 hp, rfl, rfl⟩)) (ea_cons (we_call L.lcopy (hr.mono (by omega)) (EA.to (ea_cons (ee_v 27 rfl) ea_nil) ⟨rfl, d, rfl, hp, rfl, rfl⟩)) ea_nil)) ⟨rfl, .bl (fateB (.tup [d])), .bl (copyB d), rfl, rfl, rfl, rfl, rfl⟩)))) (by rw [fate1, eqD_self]; rfl)))) (fun e => Bool.noConfusion e) fun _ => wss_nil ⟨⟨rfl, trivial⟩, rfl⟩)
theorem law_body (L : CW P w K mg base CT) : ∀ (f : Addr) (cdv : Value) (A : Around) (outer : List Env) (s : Shared) (H : Hp) (E : XK) (ds : List D) (M : Mem) (Q : D → Mem → Prop), Room 7 (A.deeper (envOfC "law" (defScope s_law) s.heap.objs.size f cdv)) → ds.length = 1 → S_script ds M Q →
    WSs (cxOf CX0 P w K mg base NW "law" (defScope s_law) f cdv A outer s H E).nox (defBody s_law) (startD NW ds) M { nx := fun _ M' => Q .non M', rt := Q } := by
  intro f cdv A outer s H E ds M Q hr hl hs
  obtain ⟨ns, rfl, hn, q⟩ := hs
  have nd := sc_law.nd
  obtain ⟨tc, hc⟩ := L.cc.copies
  obtain ⟨tD, hD⟩ := L.cc.delay
  obtain ⟨tu, hu⟩ := L.cc.turns
  obtain ⟨to, ho⟩ := L.cc.open_
  refine wss_cons (ws_set 1 nd (we_call L.box (hr.mono (by omega)) (EA.to (ea_cons (ee_v 0 rfl) ea_nil) ⟨rfl, ns, rfl, hn, fun p c M1 hp0 hc0 hB _ => ?_⟩)))
  refine wss_cons (ws_ifE (k := false) (ET.is (et_cmp (op_neD hr.units) (EE.is (d' := iD [3, 50, 32, 16]) (ee_tup (ea_cons (ee_gi hc) (ea_cons (ee_gi hD) (ea_cons (ee_gi hu) (ea_cons (ee_gi ho) ea_nil))))) rfl) (EE.is (d' := iD [3, 50, 32, 16]) (ee_tup (ea_cons ee_int (ea_cons ee_int (ea_cons ee_int (ea_cons ee_int ea_nil))))) rfl) (od_neD (pydT [3, 50, 32, 16]) (pydT [3, 50, 32, 16]) (shapedT_int _) (shapedT_int _) ⟨_, rfl, rfl, rfl⟩)) ?_) (fun e => Bool.noConfusion e) fun _ => wss_nil ?_)
  · show (!PyData.eqvAll _ _) = false
    rw [eqvA_int]
    rfl
  refine wss_cons (ws_for PassesOwn.never rfl (Qi := fun es C M0 => es = rngD 0 3 ∧ M0 = M1 ∧ ∀ M1, C M1) (wi_rng1 L.B.range (EA.to (ea_cons ee_int ea_nil) ⟨3, rfl, by decide, by decide, rfl, rfl, fun _ => trivial⟩)) fun es C M0 ⟨e1, e2, hC⟩ => ?_)
  subst e1; subst e2
  refine ⟨fun i sg1 M1 => Fg (sgW p) sg1 ∧ Bx M1 p c, ⟨⟨rfl, trivial⟩, hB⟩, fun i sg1 M1 _ => hC _, fun i d sg1 M1 he ⟨hg, hB1⟩ => ?_, fun sg1 M1 ⟨hg, hB1⟩ => wss_fg hg ?_⟩
  · obtain ⟨hi, rfl⟩ := rngD_at he
    refine ⟨_, _, wg_name 2 nd, wss_fg (sg1 := sgW p) (fg_trans (b := (sgW p).set 2 (some (.int (0 + (i : Int))))) ⟨rfl, trivial⟩ (fg_set hg 2 _)) ?_⟩
    refine w_scr L hr hB1 fun M2 sc hsc hB2 => ?_
    refine w_news L hr hB2 hsc fun M3 hB3 => ?_
    refine w_talk L hr hB3 fun M4 hB4 => ?_
    refine w_taker L hr hB4 fun M5 hB5 => ?_
    refine w_vals1 L hr hB5 hsc fun M6 hB6 => ?_
    exact w_vals2 L hr hB6 fun M7 sg7 hg7 hB7 => ⟨hg7, hB7⟩
  · refine wss_one (ws_ret (we_call L.same (hr.mono (by omega)) (EA.to (ea_cons (EE.is (d' := .tup [.tup [.int 4], .tup [], .tup [.int 4, .int 5]]) (ee_tup (ea_cons (we_call L.hurt (hr.mono (by omega)) (EA.to (ea_cons (ee_tup (ea_cons ee_int ea_nil)) (ea_cons (ee_tup (ea_cons ee_int (ea_cons ee_int ea_nil))) ea_nil)) ⟨rfl, [250], some (3, 10), rfl, by decide, rfl, rfl⟩)) (ea_cons (we_call L.hurt (hr.mono (by omega)) (EA.to (ea_cons (ee_tup ea_nil) (ea_cons (ee_tup (ea_cons ee_int (ea_cons ee_int ea_nil))) ea_nil)) ⟨rfl, [], some (1, 1), rfl, by decide, rfl, rfl⟩)) (ea_cons (we_call L.hurt (hr.mono (by omega)) (EA.to (ea_cons (ee_tup (ea_cons ee_int (ea_cons ee_int ea_nil))) (ea_cons ee_non ea_nil)) ⟨rfl, [4, 5], none, rfl, by decide, rfl, rfl⟩)) ea_nil)))) ?_) (ea_cons (ee_tup (ea_cons (ee_tup (ea_cons ee_int ea_nil)) (ea_cons (ee_tup ea_nil) (ea_cons (ee_tup (ea_cons ee_int (ea_cons ee_int ea_nil))) ea_nil)))) ea_nil)) ⟨rfl, _, _, rfl, by decide, by decide, ?_⟩)))
    · rfl
    · rw [eqD_self]
      exact q _
end
end K42
set_option Elab.async false
set_option linter.all false
set_option maxRecDepth 100000
set_option maxHeartbeats 4000000
namespace K42
open PySem L2 PyProof.Rows DL
section
variable {w : World} {K : PySem.W.Frag} {mg : Str → Option Value}
set_option maxHeartbeats 0 in
theorem all_mk {P : Program} {h : Heap} {fa : Addr} (X : K.In h) (G : h.Ns mainGlobals mg) (hfa : mg "law" = some (.ref fa)) {f0 : Addr} {od0 an0 : Option Addr} {sl0 : Array (Option Value)} {oc0 kV0 dc0 pm0 cd0 ct0 : Value} {f1 : Addr} {od1 an1 : Option Addr} {sl1 : Array (Option Value)} {oc1 kV1 dc1 pm1 cd1 ct1 : Value} {f2 : Addr} {od2 an2 : Option Addr} {sl2 : Array (Option Value)} {oc2 kV2 dc2 pm2 cd2 ct2 : Value} {f3 : Addr} {od3 an3 : Option Addr} {sl3 : Array (Option Value)} {oc3 kV3 dc3 pm3 cd3 ct3 : Value} {f4 : Addr} {od4 an4 : Option Addr} {sl4 : Array (Option Value)} {oc4 kV4 dc4 pm4 cd4 ct4 : Value} {f5 : Addr} {od5 an5 : Option Addr} {sl5 : Array (Option Value)} {oc5 kV5 dc5 pm5 cd5 ct5 : Value} {f6 : Addr} {od6 an6 : Option Addr} {sl6 : Array (Option Value)} {oc6 kV6 dc6 pm6 cd6 ct6 : Value} {f7 : Addr} {od7 an7 : Option Addr} {sl7 : Array (Option Value)} {oc7 kV7 dc7 pm7 cd7 ct7 : Value} {f8 : Addr} {od8 an8 : Option Addr} {sl8 : Array (Option Value)} {oc8 kV8 dc8 pm8 cd8 ct8 : Value} {f9 : Addr} {od9 an9 : Option Addr} {sl9 : Array (Option Value)} {oc9 kV9 dc9 pm9 cd9 ct9 : Value} {f10 : Addr} {od10 an10 : Option Addr} {sl10 : Array (Option Value)} {oc10 kV10 dc10 pm10 cd10 ct10 : Value} {f11 : Addr} {od11 an11 : Option Addr} {sl11 : Array (Option Value)} {oc11 kV11 dc11 pm11 cd11 ct11 : Value} {f12 : Addr} {od12 an12 : Option Addr} {sl12 : Array (Option Value)} {oc12 kV12 dc12 pm12 cd12 ct12 : Value} {f13 : Addr} {od13 an13 : Option Addr} {sl13 : Array (Option Value)} {oc13 kV13 dc13 pm13 cd13 ct13 : Value} {f14 : Addr} {od14 an14 : Option Addr} {sl14 : Array (Option Value)} {oc14 kV14 dc14 pm14 cd14 ct14 : Value} {f15 : Addr} {od15 an15 : Option Addr} {sl15 : Array (Option Value)} {oc15 kV15 dc15 pm15 cd15 ct15 : Value} {f16 : Addr} {od16 an16 : Option Addr} {sl16 : Array (Option Value)} {oc16 kV16 dc16 pm16 cd16 ct16 : Value} {f17 : Addr} {od17 an17 : Option Addr} {sl17 : Array (Option Value)} {oc17 kV17 dc17 pm17 cd17 ct17 : Value} {f18 : Addr} {od18 an18 : Option Addr} {sl18 : Array (Option Value)} {oc18 kV18 dc18 pm18 cd18 ct18 : Value} {f19 : Addr} {od19 an19 : Option Addr} {sl19 : Array (Option Value)} {oc19 kV19 dc19 pm19 cd19 ct19 : Value} {f20 : Addr} {od20 an20 : Option Addr} {sl20 : Array (Option Value)} {oc20 kV20 dc20 pm20 cd20 ct20 : Value} {f21 : Addr} {od21 an21 : Option Addr} {sl21 : Array (Option Value)} {oc21 kV21 dc21 pm21 cd21 ct21 : Value} {t0 : Tok} {t1 : Tok} {t2 : Tok} {t3 : Tok} {gGOOD : Addr} {CL : Addr} {hL_init : Addr} {odhL_init anhL_init : Option Addr} {slhL_init : Array (Option Value)} {ochL_init kVhL_init dchL_init pmhL_init cdhL_init cthL_init : Value} {hL_script : Addr} {odhL_script anhL_script : Option Addr} {slhL_script : Array (Option Value)} {ochL_script kVhL_script dchL_script pmhL_script cdhL_script cthL_script : Value} {hL_count : Addr} {odhL_count anhL_count : Option Addr} {slhL_count : Array (Option Value)} {ochL_count kVhL_count dchL_count pmhL_count cdhL_count cthL_count : Value} {hL_send : Addr} {odhL_send anhL_send : Option Addr} {slhL_send : Array (Option Value)} {ochL_send kVhL_send dchL_send pmhL_send cdhL_send cthL_send : Value} {hL_arrived : Addr} {odhL_arrived anhL_arrived : Option Addr} {slhL_arrived : Array (Option Value)} {ochL_arrived kVhL_arrived dchL_arrived pmhL_arrived cdhL_arrived cthL_arrived : Value} {hL_under_way : Addr} {odhL_under_way anhL_under_way : Option Addr} {slhL_under_way : Array (Option Value)} {ochL_under_way kVhL_under_way dchL_under_way pmhL_under_way cdhL_under_way cthL_under_way : Value} {CG : Addr} {hG_init : Addr} {odhG_init anhG_init : Option Addr} {slhG_init : Array (Option Value)} {ochG_init kVhG_init dchG_init pmhG_init cdhG_init cthG_init : Value} {hG_put : Addr} {odhG_put anhG_put : Option Addr} {slhG_put : Array (Option Value)} {ochG_put kVhG_put dchG_put pmhG_put cdhG_put cthG_put : Value} {hG_waiting : Addr} {odhG_waiting anhG_waiting : Option Addr} {slhG_waiting : Array (Option Value)} {ochG_waiting kVhG_waiting dchG_waiting pmhG_waiting cdhG_waiting cthG_waiting : Value} {hG_out : Addr} {odhG_out anhG_out : Option Addr} {slhG_out : Array (Option Value)} {ochG_out kVhG_out dchG_out pmhG_out cdhG_out cthG_out : Value} {hG_hear : Addr} {odhG_hear anhG_hear : Option Addr} {slhG_hear : Array (Option Value)} {ochG_hear kVhG_hear dchG_hear pmhG_hear cdhG_hear cthG_hear : Value} {CT : Addr} {hT_init : Addr} {odhT_init anhT_init : Option Addr} {slhT_init : Array (Option Value)} {ochT_init kVhT_init dchT_init pmhT_init cdhT_init cthT_init : Value} {hT_next_number : Addr} {odhT_next_number anhT_next_number : Option Addr} {slhT_next_number : Array (Option Value)} {ochT_next_number kVhT_next_number dchT_next_number pmhT_next_number cdhT_next_number cthT_next_number : Value} {hT_hear : Addr} {odhT_hear anhT_hear : Option Addr} {slhT_hear : Array (Option Value)} {ochT_hear kVhT_hear dchT_hear pmhT_hear cdhT_hear cthT_hear : Value} {hT_lacking : Addr} {odhT_lacking anhT_lacking : Option Addr} {slhT_lacking : Array (Option Value)} {ochT_lacking kVhT_lacking dchT_lacking pmhT_lacking cdhT_lacking cthT_lacking : Value}
    (a0 : PySem.W.nsIn K mainGlobals "is_number" = some (some (.ref f0))) (l0 : K.lookup f0 = some ⟨oc0, od0, .func (PySem.W.fnOf "is_number" "is_number" (defArgs s_is_number) (defBody s_is_number) (defScope s_is_number) .none kV0 dc0 pm0 an0 cd0 ct0), sl0⟩) (c0 : PySem.W.codeIn K cd0 "is_number" = true) (k0 : PySem.W.keepIn K (.ref f0) = true)
    (a1 : PySem.W.nsIn K mainGlobals "is_copy" = some (some (.ref f1))) (l1 : K.lookup f1 = some ⟨oc1, od1, .func (PySem.W.fnOf "is_copy" "is_copy" (defArgs s_is_copy) (defBody s_is_copy) (defScope s_is_copy) .none kV1 dc1 pm1 an1 cd1 ct1), sl1⟩) (c1 : PySem.W.codeIn K cd1 "is_copy" = true) (k1 : PySem.W.keepIn K (.ref f1) = true)
    (a2 : PySem.W.nsIn K mainGlobals "is_fate" = some (some (.ref f2))) (l2 : K.lookup f2 = some ⟨oc2, od2, .func (PySem.W.fnOf "is_fate" "is_fate" (defArgs s_is_fate) (defBody s_is_fate) (defScope s_is_fate) .none kV2 dc2 pm2 an2 cd2 ct2), sl2⟩) (c2 : PySem.W.codeIn K cd2 "is_fate" = true) (k2 : PySem.W.keepIn K (.ref f2) = true)
    (a3 : PySem.W.nsIn K mainGlobals "is_script" = some (some (.ref f3))) (l3 : K.lookup f3 = some ⟨oc3, od3, .func (PySem.W.fnOf "is_script" "is_script" (defArgs s_is_script) (defBody s_is_script) (defScope s_is_script) .none kV3 dc3 pm3 an3 cd3 ct3), sl3⟩) (c3 : PySem.W.codeIn K cd3 "is_script" = true) (k3 : PySem.W.keepIn K (.ref f3) = true)
    (a4 : PySem.W.nsIn K mainGlobals "fate_of" = some (some (.ref f4))) (l4 : K.lookup f4 = some ⟨oc4, od4, .func (PySem.W.fnOf "fate_of" "fate_of" (defArgs s_fate_of) (defBody s_fate_of) (defScope s_fate_of) .none kV4 dc4 pm4 an4 cd4 ct4), sl4⟩) (c4 : PySem.W.codeIn K cd4 "fate_of" = true) (k4 : PySem.W.keepIn K (.ref f4) = true)
    (a5 : PySem.W.nsIn K mainGlobals "hurt_data" = some (some (.ref f5))) (l5 : K.lookup f5 = some ⟨oc5, od5, .func (PySem.W.fnOf "hurt_data" "hurt_data" (defArgs s_hurt_data) (defBody s_hurt_data) (defScope s_hurt_data) .none kV5 dc5 pm5 an5 cd5 ct5), sl5⟩) (c5 : PySem.W.codeIn K cd5 "hurt_data" = true) (k5 : PySem.W.keepIn K (.ref f5) = true)
    (a6 : PySem.W.nsIn K mainGlobals "whole_delays" = some (some (.ref f6))) (l6 : K.lookup f6 = some ⟨oc6, od6, .func (PySem.W.fnOf "whole_delays" "whole_delays" (defArgs s_whole_delays) (defBody s_whole_delays) (defScope s_whole_delays) .none kV6 dc6 pm6 an6 cd6 ct6), sl6⟩) (c6 : PySem.W.codeIn K cd6 "whole_delays" = true) (k6 : PySem.W.keepIn K (.ref f6) = true)
    (a7 : PySem.W.nsIn K mainGlobals "is_starved" = some (some (.ref f7))) (l7 : K.lookup f7 = some ⟨oc7, od7, .func (PySem.W.fnOf "is_starved" "is_starved" (defArgs s_is_starved) (defBody s_is_starved) (defScope s_is_starved) .none kV7 dc7 pm7 an7 cd7 ct7), sl7⟩) (c7 : PySem.W.codeIn K cd7 "is_starved" = true) (k7 : PySem.W.keepIn K (.ref f7) = true)
    (a8 : PySem.W.nsIn K mainGlobals "latest_news" = some (some (.ref f8))) (l8 : K.lookup f8 = some ⟨oc8, od8, .func (PySem.W.fnOf "latest_news" "latest_news" (defArgs s_latest_news) (defBody s_latest_news) (defScope s_latest_news) .none kV8 dc8 pm8 an8 cd8 ct8), sl8⟩) (c8 : PySem.W.codeIn K cd8 "latest_news" = true) (k8 : PySem.W.keepIn K (.ref f8) = true)
    (a9 : PySem.W.nsIn K mainGlobals "_law_box" = some (some (.ref f9))) (l9 : K.lookup f9 = some ⟨oc9, od9, .func (PySem.W.fnOf "_law_box" "_law_box" (defArgs s_law_box) (defBody s_law_box) (defScope s_law_box) .none kV9 dc9 pm9 an9 cd9 ct9), sl9⟩) (c9 : PySem.W.codeIn K cd9 "_law_box" = true) (k9 : PySem.W.keepIn K (.ref f9) = true)
    (a10 : PySem.W.nsIn K mainGlobals "_law_load" = some (some (.ref f10))) (l10 : K.lookup f10 = some ⟨oc10, od10, .func (PySem.W.fnOf "_law_load" "_law_load" (defArgs s_law_load) (defBody s_law_load) (defScope s_law_load) .none kV10 dc10 pm10 an10 cd10 ct10), sl10⟩) (c10 : PySem.W.codeIn K cd10 "_law_load" = true) (k10 : PySem.W.keepIn K (.ref f10) = true)
    (a11 : PySem.W.nsIn K mainGlobals "_law_draw" = some (some (.ref f11))) (l11 : K.lookup f11 = some ⟨oc11, od11, .func (PySem.W.fnOf "_law_draw" "_law_draw" (defArgs s_law_draw) (defBody s_law_draw) (defScope s_law_draw) .none kV11 dc11 pm11 an11 cd11 ct11), sl11⟩) (c11 : PySem.W.codeIn K cd11 "_law_draw" = true) (k11 : PySem.W.keepIn K (.ref f11) = true)
    (a12 : PySem.W.nsIn K mainGlobals "_law_same" = some (some (.ref f12))) (l12 : K.lookup f12 = some ⟨oc12, od12, .func (PySem.W.fnOf "_law_same" "_law_same" (defArgs s_law_same) (defBody s_law_same) (defScope s_law_same) .none kV12 dc12 pm12 an12 cd12 ct12), sl12⟩) (c12 : PySem.W.codeIn K cd12 "_law_same" = true) (k12 : PySem.W.keepIn K (.ref f12) = true)
    (a13 : PySem.W.nsIn K mainGlobals "_law_bent" = some (some (.ref f13))) (l13 : K.lookup f13 = some ⟨oc13, od13, .func (PySem.W.fnOf "_law_bent" "_law_bent" (defArgs s_law_bent) (defBody s_law_bent) (defScope s_law_bent) .none kV13 dc13 pm13 an13 cd13 ct13), sl13⟩) (c13 : PySem.W.codeIn K cd13 "_law_bent" = true) (k13 : PySem.W.keepIn K (.ref f13) = true)
    (a14 : PySem.W.nsIn K mainGlobals "_law_script" = some (some (.ref f14))) (l14 : K.lookup f14 = some ⟨oc14, od14, .func (PySem.W.fnOf "_law_script" "_law_script" (defArgs s_law_script) (defBody s_law_script) (defScope s_law_script) .none kV14 dc14 pm14 an14 cd14 ct14), sl14⟩) (c14 : PySem.W.codeIn K cd14 "_law_script" = true) (k14 : PySem.W.keepIn K (.ref f14) = true)
    (a15 : PySem.W.nsIn K mainGlobals "_law_hurt" = some (some (.ref f15))) (l15 : K.lookup f15 = some ⟨oc15, od15, .func (PySem.W.fnOf "_law_hurt" "_law_hurt" (defArgs s_law_hurt) (defBody s_law_hurt) (defScope s_law_hurt) .none kV15 dc15 pm15 an15 cd15 ct15), sl15⟩) (c15 : PySem.W.codeIn K cd15 "_law_hurt" = true) (k15 : PySem.W.keepIn K (.ref f15) = true)
    (a16 : PySem.W.nsIn K mainGlobals "_law_whole" = some (some (.ref f16))) (l16 : K.lookup f16 = some ⟨oc16, od16, .func (PySem.W.fnOf "_law_whole" "_law_whole" (defArgs s_law_whole) (defBody s_law_whole) (defScope s_law_whole) .none kV16 dc16 pm16 an16 cd16 ct16), sl16⟩) (c16 : PySem.W.codeIn K cd16 "_law_whole" = true) (k16 : PySem.W.keepIn K (.ref f16) = true)
    (a17 : PySem.W.nsIn K mainGlobals "_law_is_copy" = some (some (.ref f17))) (l17 : K.lookup f17 = some ⟨oc17, od17, .func (PySem.W.fnOf "_law_is_copy" "_law_is_copy" (defArgs s_law_is_copy) (defBody s_law_is_copy) (defScope s_law_is_copy) .none kV17 dc17 pm17 an17 cd17 ct17), sl17⟩) (c17 : PySem.W.codeIn K cd17 "_law_is_copy" = true) (k17 : PySem.W.keepIn K (.ref f17) = true)
    (a18 : PySem.W.nsIn K mainGlobals "_law_is_script" = some (some (.ref f18))) (l18 : K.lookup f18 = some ⟨oc18, od18, .func (PySem.W.fnOf "_law_is_script" "_law_is_script" (defArgs s_law_is_script) (defBody s_law_is_script) (defScope s_law_is_script) .none kV18 dc18 pm18 an18 cd18 ct18), sl18⟩) (c18 : PySem.W.codeIn K cd18 "_law_is_script" = true) (k18 : PySem.W.keepIn K (.ref f18) = true)
    (a19 : PySem.W.nsIn K mainGlobals "_law_course" = some (some (.ref f19))) (l19 : K.lookup f19 = some ⟨oc19, od19, .func (PySem.W.fnOf "_law_course" "_law_course" (defArgs s_law_course) (defBody s_law_course) (defScope s_law_course) .none kV19 dc19 pm19 an19 cd19 ct19), sl19⟩) (c19 : PySem.W.codeIn K cd19 "_law_course" = true) (k19 : PySem.W.keepIn K (.ref f19) = true)
    (a20 : PySem.W.nsIn K mainGlobals "_law_talk" = some (some (.ref f20))) (l20 : K.lookup f20 = some ⟨oc20, od20, .func (PySem.W.fnOf "_law_talk" "_law_talk" (defArgs s_law_talk) (defBody s_law_talk) (defScope s_law_talk) .none kV20 dc20 pm20 an20 cd20 ct20), sl20⟩) (c20 : PySem.W.codeIn K cd20 "_law_talk" = true) (k20 : PySem.W.keepIn K (.ref f20) = true)
    (a21 : PySem.W.nsIn K mainGlobals "law" = some (some (.ref f21))) (l21 : K.lookup f21 = some ⟨oc21, od21, .func (PySem.W.fnOf "law" "law" (defArgs s_law) (defBody s_law) (defScope s_law) .none kV21 dc21 pm21 an21 cd21 ct21), sl21⟩) (c21 : PySem.W.codeIn K cd21 "law" = true) (k21 : PySem.W.keepIn K (.ref f21) = true)
    (z0 : PySem.W.nsIn K mainGlobals "isinstance" = some none)
    (z1 : PySem.W.nsIn K mainGlobals "int" = some none)
    (z2 : PySem.W.nsIn K mainGlobals "bool" = some none)
    (z3 : PySem.W.nsIn K mainGlobals "str" = some none)
    (z4 : PySem.W.nsIn K mainGlobals "tuple" = some none)
    (z5 : PySem.W.nsIn K mainGlobals "list" = some none)
    (z6 : PySem.W.nsIn K mainGlobals "len" = some none)
    (z7 : PySem.W.nsIn K mainGlobals "all" = some none)
    (z8 : PySem.W.nsIn K mainGlobals "any" = some none)
    (z9 : PySem.W.nsIn K mainGlobals "sum" = some none)
    (z10 : PySem.W.nsIn K mainGlobals "max" = some none)
    (z11 : PySem.W.nsIn K mainGlobals "min" = some none)
    (z12 : PySem.W.nsIn K mainGlobals "sorted" = some none)
    (z13 : PySem.W.nsIn K mainGlobals "range" = some none)
    (z14 : PySem.W.nsIn K mainGlobals "enumerate" = some none)
    (z15 : PySem.W.nsIn K mainGlobals "zip" = some none)
    (m0 : PySem.W.nsIn K mainGlobals "MOST_DELAY" = some (some (.int 50 t0)))
    (m1 : PySem.W.nsIn K mainGlobals "MOST_COPIES" = some (some (.int 3 t1)))
    (m2 : PySem.W.nsIn K mainGlobals "MOST_TURNS" = some (some (.int 32 t2)))
    (m3 : PySem.W.nsIn K mainGlobals "MOST_OPEN" = some (some (.int 16 t3)))
    (xGOOD : PySem.W.nsIn K mainGlobals "GOOD" = some (some (.ref gGOOD)))
    (yGOOD : kval K 6 (.ref gGOOD) (scD good) = true)
    (xset : PySem.W.nsIn K mainGlobals "set" = some none)
    (xdict : PySem.W.nsIn K mainGlobals "dict" = some none)
    (xCL : PySem.W.nsIn K mainGlobals "Line" = some (some (.ref CL)))
    (xpgL : PySem.W.plainGet K CL Str.empty = true)
    (xhdL : PySem.W.hasDictIn K CL = true)
    (xpoL : PySem.W.plainOver K CL = true)
    (xsaL : PySem.W.findIn K (.ref CL) "__setattr__" = some (some (.builtin "object.__setattr__")))
    (xnL_scripts : PySem.W.findIn K (.ref CL) "_scripts" = some none)
    (xnL_counts : PySem.W.findIn K (.ref CL) "_counts" = some none)
    (xnL_under_way : PySem.W.findIn K (.ref CL) "_under_way" = some none)
    (xmkL : PySem.W.makesIn K CL = true)
    (xkpL : PySem.W.keepIn K (.ref CL) = true)
    (xaL_init : PySem.W.findIn K (.ref CL) "__init__" = some (some (.ref hL_init)))
    (xlL_init : K.lookup hL_init = some ⟨ochL_init, odhL_init, .func (PySem.W.fnOf "__init__" "Line.__init__" (defArgs m_L_init) (defBody m_L_init) (defScope m_L_init) .none kVhL_init dchL_init pmhL_init anhL_init cdhL_init cthL_init), slhL_init⟩)
    (xcL_init : PySem.W.codeIn K cdhL_init "Line.__init__" = true)
    (xkL_init : PySem.W.keepIn K (.ref hL_init) = true)
    (xfL_init : PySem.W.isFn K (.ref hL_init) = true)
    (xaL_script : PySem.W.findIn K (.ref CL) "script" = some (some (.ref hL_script)))
    (xlL_script : K.lookup hL_script = some ⟨ochL_script, odhL_script, .func (PySem.W.fnOf "script" "Line.script" (defArgs m_L_script) (defBody m_L_script) (defScope m_L_script) .none kVhL_script dchL_script pmhL_script anhL_script cdhL_script cthL_script), slhL_script⟩)
    (xcL_script : PySem.W.codeIn K cdhL_script "Line.script" = true)
    (xkL_script : PySem.W.keepIn K (.ref hL_script) = true)
    (xfL_script : PySem.W.isFn K (.ref hL_script) = true)
    (xaL_count : PySem.W.findIn K (.ref CL) "count" = some (some (.ref hL_count)))
    (xlL_count : K.lookup hL_count = some ⟨ochL_count, odhL_count, .func (PySem.W.fnOf "count" "Line.count" (defArgs m_L_count) (defBody m_L_count) (defScope m_L_count) .none kVhL_count dchL_count pmhL_count anhL_count cdhL_count cthL_count), slhL_count⟩)
    (xcL_count : PySem.W.codeIn K cdhL_count "Line.count" = true)
    (xkL_count : PySem.W.keepIn K (.ref hL_count) = true)
    (xfL_count : PySem.W.isFn K (.ref hL_count) = true)
    (xaL_send : PySem.W.findIn K (.ref CL) "send" = some (some (.ref hL_send)))
    (xlL_send : K.lookup hL_send = some ⟨ochL_send, odhL_send, .func (PySem.W.fnOf "send" "Line.send" (defArgs m_L_send) (defBody m_L_send) (defScope m_L_send) .none kVhL_send dchL_send pmhL_send anhL_send cdhL_send cthL_send), slhL_send⟩)
    (xcL_send : PySem.W.codeIn K cdhL_send "Line.send" = true)
    (xkL_send : PySem.W.keepIn K (.ref hL_send) = true)
    (xfL_send : PySem.W.isFn K (.ref hL_send) = true)
    (xaL_arrived : PySem.W.findIn K (.ref CL) "arrived" = some (some (.ref hL_arrived)))
    (xlL_arrived : K.lookup hL_arrived = some ⟨ochL_arrived, odhL_arrived, .func (PySem.W.fnOf "arrived" "Line.arrived" (defArgs m_L_arrived) (defBody m_L_arrived) (defScope m_L_arrived) .none kVhL_arrived dchL_arrived pmhL_arrived anhL_arrived cdhL_arrived cthL_arrived), slhL_arrived⟩)
    (xcL_arrived : PySem.W.codeIn K cdhL_arrived "Line.arrived" = true)
    (xkL_arrived : PySem.W.keepIn K (.ref hL_arrived) = true)
    (xfL_arrived : PySem.W.isFn K (.ref hL_arrived) = true)
    (xaL_under_way : PySem.W.findIn K (.ref CL) "under_way" = some (some (.ref hL_under_way)))
    (xlL_under_way : K.lookup hL_under_way = some ⟨ochL_under_way, odhL_under_way, .func (PySem.W.fnOf "under_way" "Line.under_way" (defArgs m_L_under_way) (defBody m_L_under_way) (defScope m_L_under_way) .none kVhL_under_way dchL_under_way pmhL_under_way anhL_under_way cdhL_under_way cthL_under_way), slhL_under_way⟩)
    (xcL_under_way : PySem.W.codeIn K cdhL_under_way "Line.under_way" = true)
    (xkL_under_way : PySem.W.keepIn K (.ref hL_under_way) = true)
    (xfL_under_way : PySem.W.isFn K (.ref hL_under_way) = true)
    (xCG : PySem.W.nsIn K mainGlobals "Giver" = some (some (.ref CG)))
    (xpgG : PySem.W.plainGet K CG Str.empty = true)
    (xhdG : PySem.W.hasDictIn K CG = true)
    (xpoG : PySem.W.plainOver K CG = true)
    (xsaG : PySem.W.findIn K (.ref CG) "__setattr__" = some (some (.builtin "object.__setattr__")))
    (xnG_waiting : PySem.W.findIn K (.ref CG) "_waiting" = some none)
    (xnG_done : PySem.W.findIn K (.ref CG) "_done" = some none)
    (xmkG : PySem.W.makesIn K CG = true)
    (xkpG : PySem.W.keepIn K (.ref CG) = true)
    (xaG_init : PySem.W.findIn K (.ref CG) "__init__" = some (some (.ref hG_init)))
    (xlG_init : K.lookup hG_init = some ⟨ochG_init, odhG_init, .func (PySem.W.fnOf "__init__" "Giver.__init__" (defArgs m_G_init) (defBody m_G_init) (defScope m_G_init) .none kVhG_init dchG_init pmhG_init anhG_init cdhG_init cthG_init), slhG_init⟩)
    (xcG_init : PySem.W.codeIn K cdhG_init "Giver.__init__" = true)
    (xkG_init : PySem.W.keepIn K (.ref hG_init) = true)
    (xfG_init : PySem.W.isFn K (.ref hG_init) = true)
    (xaG_put : PySem.W.findIn K (.ref CG) "put" = some (some (.ref hG_put)))
    (xlG_put : K.lookup hG_put = some ⟨ochG_put, odhG_put, .func (PySem.W.fnOf "put" "Giver.put" (defArgs m_G_put) (defBody m_G_put) (defScope m_G_put) .none kVhG_put dchG_put pmhG_put anhG_put cdhG_put cthG_put), slhG_put⟩)
    (xcG_put : PySem.W.codeIn K cdhG_put "Giver.put" = true)
    (xkG_put : PySem.W.keepIn K (.ref hG_put) = true)
    (xfG_put : PySem.W.isFn K (.ref hG_put) = true)
    (xaG_waiting : PySem.W.findIn K (.ref CG) "waiting" = some (some (.ref hG_waiting)))
    (xlG_waiting : K.lookup hG_waiting = some ⟨ochG_waiting, odhG_waiting, .func (PySem.W.fnOf "waiting" "Giver.waiting" (defArgs m_G_waiting) (defBody m_G_waiting) (defScope m_G_waiting) .none kVhG_waiting dchG_waiting pmhG_waiting anhG_waiting cdhG_waiting cthG_waiting), slhG_waiting⟩)
    (xcG_waiting : PySem.W.codeIn K cdhG_waiting "Giver.waiting" = true)
    (xkG_waiting : PySem.W.keepIn K (.ref hG_waiting) = true)
    (xfG_waiting : PySem.W.isFn K (.ref hG_waiting) = true)
    (xaG_out : PySem.W.findIn K (.ref CG) "out" = some (some (.ref hG_out)))
    (xlG_out : K.lookup hG_out = some ⟨ochG_out, odhG_out, .func (PySem.W.fnOf "out" "Giver.out" (defArgs m_G_out) (defBody m_G_out) (defScope m_G_out) .none kVhG_out dchG_out pmhG_out anhG_out cdhG_out cthG_out), slhG_out⟩)
    (xcG_out : PySem.W.codeIn K cdhG_out "Giver.out" = true)
    (xkG_out : PySem.W.keepIn K (.ref hG_out) = true)
    (xfG_out : PySem.W.isFn K (.ref hG_out) = true)
    (xaG_hear : PySem.W.findIn K (.ref CG) "hear" = some (some (.ref hG_hear)))
    (xlG_hear : K.lookup hG_hear = some ⟨ochG_hear, odhG_hear, .func (PySem.W.fnOf "hear" "Giver.hear" (defArgs m_G_hear) (defBody m_G_hear) (defScope m_G_hear) .none kVhG_hear dchG_hear pmhG_hear anhG_hear cdhG_hear cthG_hear), slhG_hear⟩)
    (xcG_hear : PySem.W.codeIn K cdhG_hear "Giver.hear" = true)
    (xkG_hear : PySem.W.keepIn K (.ref hG_hear) = true)
    (xfG_hear : PySem.W.isFn K (.ref hG_hear) = true)
    (xCT : PySem.W.nsIn K mainGlobals "Taker" = some (some (.ref CT)))
    (xpgT : PySem.W.plainGet K CT Str.empty = true)
    (xhdT : PySem.W.hasDictIn K CT = true)
    (xpoT : PySem.W.plainOver K CT = true)
    (xsaT : PySem.W.findIn K (.ref CT) "__setattr__" = some (some (.builtin "object.__setattr__")))
    (xnT_next : PySem.W.findIn K (.ref CT) "_next" = some none)
    (xnT_kept : PySem.W.findIn K (.ref CT) "_kept" = some none)
    (xmkT : PySem.W.makesIn K CT = true)
    (xkpT : PySem.W.keepIn K (.ref CT) = true)
    (xaT_init : PySem.W.findIn K (.ref CT) "__init__" = some (some (.ref hT_init)))
    (xlT_init : K.lookup hT_init = some ⟨ochT_init, odhT_init, .func (PySem.W.fnOf "__init__" "Taker.__init__" (defArgs m_T_init) (defBody m_T_init) (defScope m_T_init) .none kVhT_init dchT_init pmhT_init anhT_init cdhT_init cthT_init), slhT_init⟩)
    (xcT_init : PySem.W.codeIn K cdhT_init "Taker.__init__" = true)
    (xkT_init : PySem.W.keepIn K (.ref hT_init) = true)
    (xfT_init : PySem.W.isFn K (.ref hT_init) = true)
    (xaT_next_number : PySem.W.findIn K (.ref CT) "next_number" = some (some (.ref hT_next_number)))
    (xlT_next_number : K.lookup hT_next_number = some ⟨ochT_next_number, odhT_next_number, .func (PySem.W.fnOf "next_number" "Taker.next_number" (defArgs m_T_next_number) (defBody m_T_next_number) (defScope m_T_next_number) .none kVhT_next_number dchT_next_number pmhT_next_number anhT_next_number cdhT_next_number cthT_next_number), slhT_next_number⟩)
    (xcT_next_number : PySem.W.codeIn K cdhT_next_number "Taker.next_number" = true)
    (xkT_next_number : PySem.W.keepIn K (.ref hT_next_number) = true)
    (xfT_next_number : PySem.W.isFn K (.ref hT_next_number) = true)
    (xaT_hear : PySem.W.findIn K (.ref CT) "hear" = some (some (.ref hT_hear)))
    (xlT_hear : K.lookup hT_hear = some ⟨ochT_hear, odhT_hear, .func (PySem.W.fnOf "hear" "Taker.hear" (defArgs m_T_hear) (defBody m_T_hear) (defScope m_T_hear) .none kVhT_hear dchT_hear pmhT_hear anhT_hear cdhT_hear cthT_hear), slhT_hear⟩)
    (xcT_hear : PySem.W.codeIn K cdhT_hear "Taker.hear" = true)
    (xkT_hear : PySem.W.keepIn K (.ref hT_hear) = true)
    (xfT_hear : PySem.W.isFn K (.ref hT_hear) = true)
    (xaT_lacking : PySem.W.findIn K (.ref CT) "lacking" = some (some (.ref hT_lacking)))
    (xlT_lacking : K.lookup hT_lacking = some ⟨ochT_lacking, odhT_lacking, .func (PySem.W.fnOf "lacking" "Taker.lacking" (defArgs m_T_lacking) (defBody m_T_lacking) (defScope m_T_lacking) .none kVhT_lacking dchT_lacking pmhT_lacking anhT_lacking cdhT_lacking cthT_lacking), slhT_lacking⟩)
    (xcT_lacking : PySem.W.codeIn K cdhT_lacking "Taker.lacking" = true)
    (xkT_lacking : PySem.W.keepIn K (.ref hT_lacking) = true)
    (xfT_lacking : PySem.W.isFn K (.ref hT_lacking) = true)
    : ∃ fd : FuncData, (∀ (s : Shared) (v : Value), BindsTo s fd ⟨[v], []⟩ [("script", v)]) ∧ ∀ base : Heap, K.In base → base.Ns mainGlobals mg → FnOk P w K mg base CX0 8 fa fd ["script"] (spLaw K) := by
  have e := hfa.symm.trans (PySem.W.mg_of X G a21)
  cases e
  have B : Blt mg := ⟨PySem.W.mg_none_of X G z0, PySem.W.mg_none_of X G z1, PySem.W.mg_none_of X G z2, PySem.W.mg_none_of X G z3, PySem.W.mg_none_of X G z4, PySem.W.mg_none_of X G z5, PySem.W.mg_none_of X G z6, PySem.W.mg_none_of X G z7, PySem.W.mg_none_of X G z8, PySem.W.mg_none_of X G z9, PySem.W.mg_none_of X G z10, PySem.W.mg_none_of X G z11, PySem.W.mg_none_of X G z12, PySem.W.mg_none_of X G z13, PySem.W.mg_none_of X G z14, PySem.W.mg_none_of X G z15⟩
  have F_is_number : Df K mg "is_number" s_is_number ["value", "least", "most"] := df_mk X G a0 l0 c0 k0 fun _ _ _ _ _ _ us hl => match us, hl with | [_, _, _], _ => rfl
  have F_is_copy : Df K mg "is_copy" s_is_copy ["value"] := df_mk X G a1 l1 c1 k1 fun _ _ _ _ _ _ us hl => match us, hl with | [_], _ => rfl
  have F_is_fate : Df K mg "is_fate" s_is_fate ["value"] := df_mk X G a2 l2 c2 k2 fun _ _ _ _ _ _ us hl => match us, hl with | [_], _ => rfl
  have F_is_script : Df K mg "is_script" s_is_script ["value"] := df_mk X G a3 l3 c3 k3 fun _ _ _ _ _ _ us hl => match us, hl with | [_], _ => rfl
  have F_fate_of : Df K mg "fate_of" s_fate_of ["script", "number"] := df_mk X G a4 l4 c4 k4 fun _ _ _ _ _ _ us hl => match us, hl with | [_, _], _ => rfl
  have F_hurt_data : Df K mg "hurt_data" s_hurt_data ["data", "hurt"] := df_mk X G a5 l5 c5 k5 fun _ _ _ _ _ _ us hl => match us, hl with | [_, _], _ => rfl
  have F_whole_delays : Df K mg "whole_delays" s_whole_delays ["fate"] := df_mk X G a6 l6 c6 k6 fun _ _ _ _ _ _ us hl => match us, hl with | [_], _ => rfl
  have F_is_starved : Df K mg "is_starved" s_is_starved ["script"] := df_mk X G a7 l7 c7 k7 fun _ _ _ _ _ _ us hl => match us, hl with | [_], _ => rfl
  have F_latest_news : Df K mg "latest_news" s_latest_news ["script"] := df_mk X G a8 l8 c8 k8 fun _ _ _ _ _ _ us hl => match us, hl with | [_], _ => rfl
  have F_law_box : Df K mg "_law_box" s_law_box ["script"] := df_mk X G a9 l9 c9 k9 fun _ _ _ _ _ _ us hl => match us, hl with | [_], _ => rfl
  have F_law_load : Df K mg "_law_load" s_law_load ["box"] := df_mk X G a10 l10 c10 k10 fun _ _ _ _ _ _ us hl => match us, hl with | [_], _ => rfl
  have F_law_draw : Df K mg "_law_draw" s_law_draw ["box", "many"] := df_mk X G a11 l11 c11 k11 fun _ _ _ _ _ _ us hl => match us, hl with | [_, _], _ => rfl
  have F_law_same : Df K mg "_law_same" s_law_same ["a", "b"] := df_mk X G a12 l12 c12 k12 fun _ _ _ _ _ _ us hl => match us, hl with | [_, _], _ => rfl
  have F_law_bent : Df K mg "_law_bent" s_law_bent ["box", "value"] := df_mk X G a13 l13 c13 k13 fun _ _ _ _ _ _ us hl => match us, hl with | [_, _], _ => rfl
  have F_law_script : Df K mg "_law_script" s_law_script ["box", "whole"] := df_mk X G a14 l14 c14 k14 fun _ _ _ _ _ _ us hl => match us, hl with | [_, _], _ => rfl
  have F_law_hurt : Df K mg "_law_hurt" s_law_hurt ["data", "hurt"] := df_mk X G a15 l15 c15 k15 fun _ _ _ _ _ _ us hl => match us, hl with | [_, _], _ => rfl
  have F_law_whole : Df K mg "_law_whole" s_law_whole ["value", "low", "high"] := df_mk X G a16 l16 c16 k16 fun _ _ _ _ _ _ us hl => match us, hl with | [_, _, _], _ => rfl
  have F_law_is_copy : Df K mg "_law_is_copy" s_law_is_copy ["value"] := df_mk X G a17 l17 c17 k17 fun _ _ _ _ _ _ us hl => match us, hl with | [_], _ => rfl
  have F_law_is_script : Df K mg "_law_is_script" s_law_is_script ["value"] := df_mk X G a18 l18 c18 k18 fun _ _ _ _ _ _ us hl => match us, hl with | [_], _ => rfl
  have F_law_course : Df K mg "_law_course" s_law_course ["box", "scripts"] := df_mk X G a19 l19 c19 k19 fun _ _ _ _ _ _ us hl => match us, hl with | [_, _], _ => rfl
  have F_law_talk : Df K mg "_law_talk" s_law_talk ["box", "there", "back", "many"] := df_mk X G a20 l20 c20 k20 fun _ _ _ _ _ _ us hl => match us, hl with | [_, _, _, _], _ => rfl
  refine ⟨PySem.W.fnOf "law" "law" (defArgs s_law) (defBody s_law) (defScope s_law) .none kV21 dc21 pm21 an21 cd21 ct21, fun s v => .of_eq rfl, fun base _ _ => ?_⟩
  have hCL : mg "Line" = some (.ref CL) := PySem.W.mg_of X G xCL
  have TL : HCf K CL lF := ⟨⟨xpgL, xhdL, xpoL, xsaL⟩, fun f hf => by simp only [List.mem_cons, List.not_mem_nil, or_false] at hf; rcases hf with rfl | rfl | rfl; exact xnL_scripts; exact xnL_counts; exact xnL_under_way⟩
  have ML_init : Di K mg "Line" CL "Line.__init__" m_L_init ["self", "scripts"] := ⟨_, _, fun_mk xlL_init xcL_init xkL_init, ⟨xmkL, xaL_init, xfL_init, xkpL⟩, hCL, (fun_mk xlL_init xcL_init xkL_init).binds (fun _ _ _ _ _ _ us hl => match us, hl with | [_, _], _ => rfl)⟩
  have ML_script : Dm K CL "script" "Line.script" m_L_script ["self", "link"] := ⟨_, _, fun_mk xlL_script xcL_script xkL_script, ⟨xaL_script, xfL_script, xkL_script⟩, (fun_mk xlL_script xcL_script xkL_script).binds (fun _ _ _ _ _ _ us hl => match us, hl with | [_, _], _ => rfl)⟩
  have ML_count : Dm K CL "count" "Line.count" m_L_count ["self", "link"] := ⟨_, _, fun_mk xlL_count xcL_count xkL_count, ⟨xaL_count, xfL_count, xkL_count⟩, (fun_mk xlL_count xcL_count xkL_count).binds (fun _ _ _ _ _ _ us hl => match us, hl with | [_, _], _ => rfl)⟩
  have ML_send : Dm K CL "send" "Line.send" m_L_send ["self", "tick", "link", "data"] := ⟨_, _, fun_mk xlL_send xcL_send xkL_send, ⟨xaL_send, xfL_send, xkL_send⟩, (fun_mk xlL_send xcL_send xkL_send).binds (fun _ _ _ _ _ _ us hl => match us, hl with | [_, _, _, _], _ => rfl)⟩
  have ML_arrived : Dm K CL "arrived" "Line.arrived" m_L_arrived ["self", "tick", "end"] := ⟨_, _, fun_mk xlL_arrived xcL_arrived xkL_arrived, ⟨xaL_arrived, xfL_arrived, xkL_arrived⟩, (fun_mk xlL_arrived xcL_arrived xkL_arrived).binds (fun _ _ _ _ _ _ us hl => match us, hl with | [_, _, _], _ => rfl)⟩
  have ML_under_way : Dm K CL "under_way" "Line.under_way" m_L_under_way ["self", "end"] := ⟨_, _, fun_mk xlL_under_way xcL_under_way xkL_under_way, ⟨xaL_under_way, xfL_under_way, xkL_under_way⟩, (fun_mk xlL_under_way xcL_under_way xkL_under_way).binds (fun _ _ _ _ _ _ us hl => match us, hl with | [_, _], _ => rfl)⟩
  have hCG : mg "Giver" = some (.ref CG) := PySem.W.mg_of X G xCG
  have TG : HCf K CG gF := ⟨⟨xpgG, xhdG, xpoG, xsaG⟩, fun f hf => by simp only [List.mem_cons, List.not_mem_nil, or_false] at hf; rcases hf with rfl | rfl; exact xnG_waiting; exact xnG_done⟩
  have MG_init : Di K mg "Giver" CG "Giver.__init__" m_G_init ["self"] := ⟨_, _, fun_mk xlG_init xcG_init xkG_init, ⟨xmkG, xaG_init, xfG_init, xkpG⟩, hCG, (fun_mk xlG_init xcG_init xkG_init).binds (fun _ _ _ _ _ _ us hl => match us, hl with | [_], _ => rfl)⟩
  have MG_put : Dm K CG "put" "Giver.put" m_G_put ["self", "data"] := ⟨_, _, fun_mk xlG_put xcG_put xkG_put, ⟨xaG_put, xfG_put, xkG_put⟩, (fun_mk xlG_put xcG_put xkG_put).binds (fun _ _ _ _ _ _ us hl => match us, hl with | [_, _], _ => rfl)⟩
  have MG_waiting : Dm K CG "waiting" "Giver.waiting" m_G_waiting ["self"] := ⟨_, _, fun_mk xlG_waiting xcG_waiting xkG_waiting, ⟨xaG_waiting, xfG_waiting, xkG_waiting⟩, (fun_mk xlG_waiting xcG_waiting xkG_waiting).binds (fun _ _ _ _ _ _ us hl => match us, hl with | [_], _ => rfl)⟩
  have MG_out : Dm K CG "out" "Giver.out" m_G_out ["self"] := ⟨_, _, fun_mk xlG_out xcG_out xkG_out, ⟨xaG_out, xfG_out, xkG_out⟩, (fun_mk xlG_out xcG_out xkG_out).binds (fun _ _ _ _ _ _ us hl => match us, hl with | [_], _ => rfl)⟩
  have MG_hear : Dm K CG "hear" "Giver.hear" m_G_hear ["self", "number"] := ⟨_, _, fun_mk xlG_hear xcG_hear xkG_hear, ⟨xaG_hear, xfG_hear, xkG_hear⟩, (fun_mk xlG_hear xcG_hear xkG_hear).binds (fun _ _ _ _ _ _ us hl => match us, hl with | [_, _], _ => rfl)⟩
  have hCT : mg "Taker" = some (.ref CT) := PySem.W.mg_of X G xCT
  have TT : HCf K CT tF := ⟨⟨xpgT, xhdT, xpoT, xsaT⟩, fun f hf => by simp only [List.mem_cons, List.not_mem_nil, or_false] at hf; rcases hf with rfl | rfl; exact xnT_next; exact xnT_kept⟩
  have MT_init : Di K mg "Taker" CT "Taker.__init__" m_T_init ["self"] := ⟨_, _, fun_mk xlT_init xcT_init xkT_init, ⟨xmkT, xaT_init, xfT_init, xkpT⟩, hCT, (fun_mk xlT_init xcT_init xkT_init).binds (fun _ _ _ _ _ _ us hl => match us, hl with | [_], _ => rfl)⟩
  have MT_next_number : Dm K CT "next_number" "Taker.next_number" m_T_next_number ["self"] := ⟨_, _, fun_mk xlT_next_number xcT_next_number xkT_next_number, ⟨xaT_next_number, xfT_next_number, xkT_next_number⟩, (fun_mk xlT_next_number xcT_next_number xkT_next_number).binds (fun _ _ _ _ _ _ us hl => match us, hl with | [_], _ => rfl)⟩
  have MT_hear : Dm K CT "hear" "Taker.hear" m_T_hear ["self", "number", "data"] := ⟨_, _, fun_mk xlT_hear xcT_hear xkT_hear, ⟨xaT_hear, xfT_hear, xkT_hear⟩, (fun_mk xlT_hear xcT_hear xkT_hear).binds (fun _ _ _ _ _ _ us hl => match us, hl with | [_, _, _], _ => rfl)⟩
  have MT_lacking : Dm K CT "lacking" "Taker.lacking" m_T_lacking ["self"] := ⟨_, _, fun_mk xlT_lacking xcT_lacking xkT_lacking, ⟨xaT_lacking, xfT_lacking, xkT_lacking⟩, (fun_mk xlT_lacking xcT_lacking xkT_lacking).binds (fun _ _ _ _ _ _ us hl => match us, hl with | [_], _ => rfl)⟩
  have CC1 : Cc mg := ⟨⟨_, PySem.W.mg_of X G m0⟩, ⟨_, PySem.W.mg_of X G m1⟩, ⟨_, PySem.W.mg_of X G m2⟩, ⟨_, PySem.W.mg_of X G m3⟩⟩
  have B2 : Bl2 mg := ⟨PySem.W.mg_none_of X G xset, PySem.W.mg_none_of X G xdict⟩
  have hGOOD : mg "GOOD" = some (.ref gGOOD) := PySem.W.mg_of X G xGOOD
  have kGOOD : KT1 K gGOOD (scD good) := kt1 yGOOD
  have load := d_load (P := P) (w := w) (base := base) F_law_load B
  have draw := d_draw F_law_draw B load
  have num := d_number (P := P) (w := w) (base := base) F_is_number B
  have cop := d_copy F_is_copy B CC1 num
  have fat := d_fate F_is_fate B CC1 cop
  have scr := d_script F_is_script B CC1 fat
  have lwh := d_whole (P := P) (w := w) (base := base) F_law_whole B
  have lco := d_lcopy F_law_is_copy B lwh
  have lsc := d_lscript F_law_is_script B lco
  have fof := d_fateof (P := P) (w := w) (base := base) F_fate_of B
  have hur := d_hurt (P := P) (w := w) (base := base) F_hurt_data B
  have who := d_wholes (P := P) (w := w) (base := base) F_whole_delays
  have sta := d_starved F_is_starved B who
  have new := d_news F_latest_news B who sta fof
  have lin := d_linit (P := P) (w := w) (base := base) ML_init TL B B2
  have lsr := d_lscr (P := P) (w := w) (base := base) ML_script TL hGOOD kGOOD
  have lcn := d_lcnt (P := P) (w := w) (base := base) (mg := mg) ML_count TL
  have lse := d_lsend ML_send TL B lcn lsr fof hur
  have lar := d_larr (P := P) (w := w) (base := base) ML_arrived TL B
  have lun := d_lund (P := P) (w := w) (base := base) ML_under_way TL B
  have gin := d_ginit (P := P) (w := w) (base := base) MG_init TG
  have gpu := d_gput (P := P) (w := w) (base := base) MG_put TG B
  have gwa := d_gwait (P := P) (w := w) (base := base) MG_waiting TG B
  have gou := d_gout (P := P) (w := w) (base := base) MG_out TG B CC1
  have ghe := d_ghear (P := P) (w := w) (base := base) MG_hear TG B
  have tin := d_tinit (P := P) (w := w) (base := base) MT_init TT
  have tne := d_tnext (P := P) (w := w) (base := base) (mg := mg) MT_next_number TT
  have the := d_thear (P := P) (w := w) (base := base) (mg := mg) MT_hear TT
  have tla := d_tlack (P := P) (w := w) (base := base) MT_lacking TT B
  have bnt := d_bent (L := 10) (by decide) (by decide) F_law_bent B draw 5
  have lsp := d_lawscr F_law_script B draw
  have lhu := d_lhurt (P := P) (w := w) (base := base) F_law_hurt B
  have sm3 := d_same (P := P) (w := w) (base := base) F_law_same B 3
  have sm4 := d_same (P := P) (w := w) (base := base) F_law_same B 4
  have sml := d_sameL F_law_same B sm3
  have cou := d_course F_law_course { B := B, B2 := B2, t := TL, draw := draw, same := sm4, fate := fof, hurt := lhu, make := lin, cnt := lcn, send := lse, arr := lar, und := lun }
  have tal := d_talk F_law_talk { B := B, tl := TL, tg := TG, tt := TT, starved := sta, news := new, makeL := lin, makeG := gin, makeT := tin, send := lse, arr := lar, put := gpu, wait := gwa, out := gou, ghear := ghe, next := tne, thear := the }
  have LL : CW P w K mg base CT := { B := B, B2 := B2, cc := CC1, tt := TT, box := d_box F_law_box B, draw := draw, same := sm4, sameL := sml, lscr := lsp, bent := bnt, script := scr, lscript := lsc, copy := cop, lcopy := lco, fate := fat, hurt := hur, starved := sta, news := new, course := cou, talk := tal, makeT := tin, next := tne, thear := the, lack := tla }
  exact (dfnF (fun_mk l21 c21 k21) sc_law rfl (law_body LL)).imp fun _ _ _ _ h => spLaw_spD h
end
end K42
open PySem PySem.W PyProof.Rows
set_option maxHeartbeats 0 in
theorem PySem.Challenge.cw_changestold_k42_whole_hurt_lines_holds : PySem.Challenge.rw_changestold_k42_whole_hurt_lines.Holds := by
  w_on; o_law; k_head; (case hw => w_witness2)
  k_fill
  refine L2.walk_of (l := PySem.Challenge.rw_changestold_k42_whole_hurt_lines) (n := 63) (k := 8) (x := "script") (CX := fun _ => L2.CX0) (sp := fun w => DL.spLaw _) rfl (by decide) rfl ⟨rfl, by decide, by decide⟩ (fun w h Y => PySem.W.kIn_of Y) ?F (fun _ _ a ns hl _ hS => ⟨a, ns, rfl, hS, hl, fun _ => rfl⟩) (fun _ _ _ _ _ h => h)
  case F =>
    intro w mg fa h KX G hmg
    refine' K42.all_mk KX G hmg ?a0 ?l0 ?c0 ?k0 ?a1 ?l1 ?c1 ?k1 ?a2 ?l2 ?c2 ?k2 ?a3 ?l3 ?c3 ?k3 ?a4 ?l4 ?c4 ?k4 ?a5 ?l5 ?c5 ?k5 ?a6 ?l6 ?c6 ?k6 ?a7 ?l7 ?c7 ?k7 ?a8 ?l8 ?c8 ?k8 ?a9 ?l9 ?c9 ?k9 ?a10 ?l10 ?c10 ?k10 ?a11 ?l11 ?c11 ?k11 ?a12 ?l12 ?c12 ?k12 ?a13 ?l13 ?c13 ?k13 ?a14 ?l14 ?c14 ?k14 ?a15 ?l15 ?c15 ?k15 ?a16 ?l16 ?c16 ?k16 ?a17 ?l17 ?c17 ?k17 ?a18 ?l18 ?c18 ?k18 ?a19 ?l19 ?c19 ?k19 ?a20 ?l20 ?c20 ?k20 ?a21 ?l21 ?c21 ?k21 ?z0 ?z1 ?z2 ?z3 ?z4 ?z5 ?z6 ?z7 ?z8 ?z9 ?z10 ?z11 ?z12 ?z13 ?z14 ?z15 ?m0 ?m1 ?m2 ?m3 ?xGOOD ?yGOOD ?xset ?xdict ?xCL ?xpgL ?xhdL ?xpoL ?xsaL ?xnL_scripts ?xnL_counts ?xnL_under_way ?xmkL ?xkpL ?xaL_init ?xlL_init ?xcL_init ?xkL_init ?xfL_init ?xaL_script ?xlL_script ?xcL_script ?xkL_script ?xfL_script ?xaL_count ?xlL_count ?xcL_count ?xkL_count ?xfL_count ?xaL_send ?xlL_send ?xcL_send ?xkL_send ?xfL_send ?xaL_arrived ?xlL_arrived ?xcL_arrived ?xkL_arrived ?xfL_arrived ?xaL_under_way ?xlL_under_way ?xcL_under_way ?xkL_under_way ?xfL_under_way ?xCG ?xpgG ?xhdG ?xpoG ?xsaG ?xnG_waiting ?xnG_done ?xmkG ?xkpG ?xaG_init ?xlG_init ?xcG_init ?xkG_init ?xfG_init ?xaG_put ?xlG_put ?xcG_put ?xkG_put ?xfG_put ?xaG_waiting ?xlG_waiting ?xcG_waiting ?xkG_waiting ?xfG_waiting ?xaG_out ?xlG_out ?xcG_out ?xkG_out ?xfG_out ?xaG_hear ?xlG_hear ?xcG_hear ?xkG_hear ?xfG_hear ?xCT ?xpgT ?xhdT ?xpoT ?xsaT ?xnT_next ?xnT_kept ?xmkT ?xkpT ?xaT_init ?xlT_init ?xcT_init ?xkT_init ?xfT_init ?xaT_next_number ?xlT_next_number ?xcT_next_number ?xkT_next_number ?xfT_next_number ?xaT_hear ?xlT_hear ?xcT_hear ?xkT_hear ?xfT_hear ?xaT_lacking ?xlT_lacking ?xcT_lacking ?xkT_lacking ?xfT_lacking
    (case a0 => k_is); (case l0 => k_is); (case c0 => k_is); (case k0 => k_is); (case a1 => k_is); (case l1 => k_is); (case c1 => k_is); (case k1 => k_is); (case a2 => k_is); (case l2 => k_is); (case c2 => k_is); (case k2 => k_is); (case a3 => k_is); (case l3 => k_is); (case c3 => k_is); (case k3 => k_is); (case a4 => k_is); (case l4 => k_is); (case c4 => k_is); (case k4 => k_is); (case a5 => k_is); (case l5 => k_is); (case c5 => k_is); (case k5 => k_is); (case a6 => k_is); (case l6 => k_is); (case c6 => k_is); (case k6 => k_is); (case a7 => k_is); (case l7 => k_is); (case c7 => k_is); (case k7 => k_is); (case a8 => k_is); (case l8 => k_is); (case c8 => k_is); (case k8 => k_is); (case a9 => k_is); (case l9 => k_is); (case c9 => k_is); (case k9 => k_is); (case a10 => k_is); (case l10 => k_is); (case c10 => k_is); (case k10 => k_is); (case a11 => k_is); (case l11 => k_is); (case c11 => k_is); (case k11 => k_is); (case a12 => k_is); (case l12 => k_is); (case c12 => k_is); (case k12 => k_is); (case a13 => k_is); (case l13 => k_is); (case c13 => k_is); (case k13 => k_is); (case a14 => k_is); (case l14 => k_is); (case c14 => k_is); (case k14 => k_is); (case a15 => k_is); (case l15 => k_is); (case c15 => k_is); (case k15 => k_is); (case a16 => k_is); (case l16 => k_is); (case c16 => k_is); (case k16 => k_is); (case a17 => k_is); (case l17 => k_is); (case c17 => k_is); (case k17 => k_is); (case a18 => k_is); (case l18 => k_is); (case c18 => k_is); (case k18 => k_is); (case a19 => k_is); (case l19 => k_is); (case c19 => k_is); (case k19 => k_is); (case a20 => k_is); (case l20 => k_is); (case c20 => k_is); (case k20 => k_is); (case a21 => k_is); (case l21 => k_is); (case c21 => k_is); (case k21 => k_is); (case z0 => k_is); (case z1 => k_is); (case z2 => k_is); (case z3 => k_is); (case z4 => k_is); (case z5 => k_is); (case z6 => k_is); (case z7 => k_is); (case z8 => k_is); (case z9 => k_is); (case z10 => k_is); (case z11 => k_is); (case z12 => k_is); (case z13 => k_is); (case z14 => k_is); (case z15 => k_is); (case m0 => k_is); (case m1 => k_is); (case m2 => k_is); (case m3 => k_is); (case xGOOD => k_is); (case yGOOD => first | rfl | decide +kernel | k_is); (case xset => k_is); (case xdict => k_is); (case xCL => k_is); (case xpgL => k_is); (case xhdL => k_is); (case xpoL => k_is); (case xsaL => k_is); (case xnL_scripts => k_is); (case xnL_counts => k_is); (case xnL_under_way => k_is); (case xmkL => k_is); (case xkpL => k_is); (case xaL_init => k_is); (case xlL_init => k_is); (case xcL_init => k_is); (case xkL_init => k_is); (case xfL_init => k_is); (case xaL_script => k_is); (case xlL_script => k_is); (case xcL_script => k_is); (case xkL_script => k_is); (case xfL_script => k_is); (case xaL_count => k_is); (case xlL_count => k_is); (case xcL_count => k_is); (case xkL_count => k_is); (case xfL_count => k_is); (case xaL_send => k_is); (case xlL_send => k_is); (case xcL_send => k_is); (case xkL_send => k_is); (case xfL_send => k_is); (case xaL_arrived => k_is); (case xlL_arrived => k_is); (case xcL_arrived => k_is); (case xkL_arrived => k_is); (case xfL_arrived => k_is); (case xaL_under_way => k_is); (case xlL_under_way => k_is); (case xcL_under_way => k_is); (case xkL_under_way => k_is); (case xfL_under_way => k_is); (case xCG => k_is); (case xpgG => k_is); (case xhdG => k_is); (case xpoG => k_is); (case xsaG => k_is); (case xnG_waiting => k_is); (case xnG_done => k_is); (case xmkG => k_is); (case xkpG => k_is); (case xaG_init => k_is); (case xlG_init => k_is); (case xcG_init => k_is); (case xkG_init => k_is); (case xfG_init => k_is); (case xaG_put => k_is); (case xlG_put => k_is); (case xcG_put => k_is); (case xkG_put => k_is); (case xfG_put => k_is); (case xaG_waiting => k_is); (case xlG_waiting => k_is); (case xcG_waiting => k_is); (case xkG_waiting => k_is); (case xfG_waiting => k_is); (case xaG_out => k_is); (case xlG_out => k_is); (case xcG_out => k_is); (case xkG_out => k_is); (case xfG_out => k_is); (case xaG_hear => k_is); (case xlG_hear => k_is); (case xcG_hear => k_is); (case xkG_hear => k_is); (case xfG_hear => k_is); (case xCT => k_is); (case xpgT => k_is); (case xhdT => k_is); (case xpoT => k_is); (case xsaT => k_is); (case xnT_next => k_is); (case xnT_kept => k_is); (case xmkT => k_is); (case xkpT => k_is); (case xaT_init => k_is); (case xlT_init => k_is); (case xcT_init => k_is); (case xkT_init => k_is); (case xfT_init => k_is); (case xaT_next_number => k_is); (case xlT_next_number => k_is); (case xcT_next_number => k_is); (case xkT_next_number => k_is); (case xfT_next_number => k_is); (case xaT_hear => k_is); (case xlT_hear => k_is); (case xcT_hear => k_is); (case xkT_hear => k_is); (case xfT_hear => k_is); (case xaT_lacking => k_is); (case xlT_lacking => k_is); (case xcT_lacking => k_is); (case xkT_lacking => k_is); (case xfT_lacking => k_is)
