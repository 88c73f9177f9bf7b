import PyProof.Rows.All
import Wide.All
import OpenK.AllK
import Wide.FinOn
import HandS.ForMost
import HandS.Conv
import HandS.IsInst
import HandS.SortRule
import HandS.SortInts
import HandS.SetFor
import HandS.TupAny
import HandS.Walk
import HandS.Flow
import KE.GoesNew
import KE.KSortedM
import HandS.Codes
import PySem.Challenge.RW_ringbeats_k51_whole_numbered_tournaments
set_option Elab.async false
set_option linter.all false
set_option maxRecDepth 100000
set_option maxHeartbeats 4000000
/-! Rules and words of our own over the hand layer: enumerate of a tuple; deep data kept by new objects. -/
namespace K51
open PySem PySem.Spec PyProof.Rows L2

/-! ### enumerate(tuple) -/
/-- a new enumerate object over the iterator at i -/
def enumO (i : Addr) : Obj := { cls := .type "enumerate", data := .fields #[.none, .bool false, .ref i, rawInt 0, .none, .none] }
/-- enumerate(v) with one argument, whatever v begins: its iterator, then itself -/
theorem enumNew {v : Value} {ob : Obj} {There : Heap → Prop} (B : Begins v ob There) :
    Meets (Builtin.«enumerate.__new__» ⟨[.type "enumerate", v], []⟩) fun _ R st => There st.heap ∧ R (.ok (.ret (.ref (st.heap.push ob).objs.size))) { st with heap := (st.heap.push ob).push (enumO st.heap.objs.size) } := by
  refine .of_wp fun pg wd Ar R st hyp => ?_
  have isub := sub_enumerate
  rcases st with ⟨hp, gn, dr, tk, ou⟩
  have itr : ∀ {Ar' : Around} {Er Qr : Value → Shared → Prop}, Qr (.ref hp.objs.size) ⟨hp.push ob, gn, dr, tk, ou⟩ → wpAny (model pg wd) Ar' (pyIter v) Qr Er ⟨hp, gn, dr, tk, ou⟩ :=
    fun z => B.iter _ _ _ _ _ _ hyp.1 z
  wp_walk using itr
  refine wpAny_stack_any (fun fr => wpAny_pure ?_)
  split
  · rename_i cl _ _ _ _ _
    cases cl == Value.type "enumerate" <;> (wp_walk using itr; exact ⟨_, rfl, hyp.2⟩)
  · wp_walk using itr
    exact ⟨_, rfl, hyp.2⟩
theorem enumCall {pg : Program} {wd : World} {Ar : Around} {Er Qr : Value → Shared → Prop} {st : Shared} {v : Value} {ob : Obj} {There : Heap → Prop} (B : Begins v ob There) (ht : There st.heap)
    (fin : Qr (.ref (st.heap.objs.size + 1)) { st with heap := (st.heap.push ob).push (enumO st.heap.objs.size) }) : wpAny (model pg wd) Ar (call (.type "enumerate") [v]) Qr Er st := by
  have grown : (st.heap.push ob).objs.size = st.heap.objs.size + 1 := Heap.size_push ..
  have there : ((st.heap.push ob).push (enumO st.heap.objs.size)).get? (st.heap.objs.size + 1) = some (enumO st.heap.objs.size) := by
    rw [← grown]
    exact Heap.get?_push_size _ rfl
  refine callType_new F.called_enumerate (by decide) (F.typeCall_enumerate_1 v) (F.newCall_enumerate_1 v) (fun ob2 => F.args_object_init_2 ob2 v) F.entry_enumerate_new (enumNew B) ⟨ht, ?_⟩
  show _ ∧ _
  rw [grown]
  exact ⟨⟨_, there, rfl⟩, fin⟩
/-- the tuple at a, its items one by one in new pairs (place, item) -/
def Itet (K : PySem.W.Frag) (a : Addr) : It where
  go := fun i H => ∃ xs x, SqT K H a xs ∧ xs[i]? = some x
  yld := fun i H v H' => ∃ T x, v = .ref T ∧ H T = none ∧ H' = upd H T (.tup [.int (i : Nat), x]) ∧ ∀ xs, SqT K H a xs → xs[i]? = some x
  stop := fun i H => ∃ xs, SqT K H a xs ∧ xs.length = i
/-- the library's enumerate of what is drawn from a tuple -/
theorem enumTup {X : Cx} {elts : List Expr} {kk : Nat} {tpos : Pos} {h : Heap} {a e it : Addr} {i n : Nat} {items : Array Value} {old : Value} (hc : X.A.handled = none) (he : IsEnum h e it n old) (hi : h.IsTupleIter it a i) (ht : h.IsTuple a items) (ne : e ≠ it) :
    GoesN X.prog X.w X.A (.Tuple elts kk tpos) e [e, it, a] [e, it] items.size (fun i h₀ v h => ∃ T t x, v = .ref T ∧ h₀.objs.size ≤ T ∧ items[i]? = some x ∧ h.IsTuple T #[.int (0 + (i : Int)) t, x])
      (fun i h => (∃ old, IsEnum h e it (0 + (i : Int)) old) ∧ h.IsTupleIter it a i ∧ h.IsTuple a items) := by
  have ait : a ≠ it := fun z => by
    obtain ⟨o1, g1, c1, _⟩ := ht
    obtain ⟨o2, g2, c2, _⟩ := hi
    rw [z, g2] at g1
    rw [Option.some.inj g1] at c2
    exact absurd (c2.symm.trans c1) (by decide)
  have eai : e ≠ a := fun z => by
    obtain ⟨o1, g1, c1, _⟩ := ht
    have g2 : h.get? a = some { cls := .type "enumerate", dict := none, data := .fields #[.none, .bool false, .ref it, rawInt n, .none, old], slots := #[] } := z ▸ he
    rw [g2] at g1
    rw [← Option.some.inj g1] at c1
    exact absurd (show Value.type "enumerate" = Value.type "tuple" from c1) (by decide)
  exact GoesN.enumFrom 0 (Draws.tuple (show X.A.in1.handled = none from hc) it a ait items) e ne (by simp [ne, eai]) (by simp)
theorem turn_enumT {P : Program} {w : World} {K : PySem.W.Frag} {elts : List Expr} {kk : Nat} {tpos : Pos} (a e it : Addr) :
    Turn P w K (.Tuple elts kk tpos) (Itet K a) [e, it] e (fun i h => (∃ old, IsEnum h e it (0 + (i : Int)) old) ∧ h.IsTupleIter it a i ∧ e ≠ it) where
  mem := List.mem_cons_self ..
  obj := fun i h ⟨⟨old, q⟩, ⟨o, ho, _, hd⟩, _⟩ b hb => by
    rcases List.mem_cons.mp hb with rfl | hb
    · exact ⟨_, q, fun v z => nomatch z⟩
    · rw [List.mem_singleton.mp hb]
      exact ⟨o, ho, fun v z => nomatch (hd.symm.trans z)⟩
  keep := fun i h h' ⟨⟨old, q⟩, hi, ne⟩ k => ⟨⟨old, k _ (List.mem_cons_self ..) _ q⟩, hi.at fun o => k it (by simp) o, ne⟩
  item := fun X hP hw hK hc i pins s σ H E I hf ⟨⟨old, q⟩, hi, ne⟩ ⟨xs, x, hs, hx⟩ => by
    cases hP; cases hw; cases hK
    obtain ⟨its, rv, tp, _⟩ := I.tuple hs
    obtain ⟨y, hy, ry⟩ := rv.get hx
    have q0 : IsEnum s.heap e it ((i : Nat) : Int) old := by rw [Int.zero_add] at q; exact q
    refine (enumTup (I.ok.hd hc) q0 hi tp ne).goes i s _ E (by simpa using (List.getElem?_eq_some_iff.mp hy).1) ⟨⟨old, q⟩, hi, tp⟩ fun v h' tk ⟨T, t, z, ev, hT, hz, tT⟩ ⟨en, hi', _⟩ kp _ => ?_
    have ez : z = y := Option.some.inj ((show its[i]? = some z by simpa using hz).symm.trans hy)
    rw [Int.zero_add] at tT
    have fresh : H T = none := I.hok.fresh hT
    have held : ObjOk X.prog X.w (upd H T (.tup [.int (i : Nat), x])) h' T (.tup [.int (i : Nat), x]) := ⟨by show 2 ≤ sizeLine; decide, [.int i t, y], .cons ⟨t, rfl⟩ (.cons ry .nil), ez ▸ tT⟩
    refine ⟨.ref T, upd H T (.tup [.int (i : Nat), x]), I.turnedNew (ch := [e, it]) kp hf hT held, ev ▸ rfl, ⟨T, x, rfl, fresh, rfl, fun ys hys => I.tuple_inj hs hys ▸ hx⟩, ⟨en, hi', ne⟩, fun b hb => ?_⟩
    have old' : ∃ o, s.heap.get? b = some o := by
      rcases List.mem_cons.mp hb with rfl | hb
      · exact ⟨_, q⟩
      · rw [List.mem_singleton.mp hb]
        exact hi.elim fun o z => ⟨o, z.1⟩
    rw [upd_ne (Nat.ne_of_lt (Nat.lt_of_lt_of_le (old'.elim fun o z => Heap.lt_size z) hT))]
    exact (hf b hb).1
  done := fun X hP hw hK hc i pins s σ H E I hf ⟨⟨old, q⟩, hi, ne⟩ ⟨xs, hs, hn⟩ => by
    cases hP; cases hw; cases hK
    obtain ⟨its, rv, tp, _⟩ := I.tuple hs
    have en : its.toArray.size = i := (List.size_toArray ..).trans (rv.length.symm.trans hn)
    have q0 : IsEnum s.heap e it ((i : Nat) : Int) old := by rw [Int.zero_add] at q; exact q
    exact (enumTup (elts := elts) (kk := kk) (tpos := tpos) (I.ok.hd hc) q0 hi tp ne).stops s _ E (by rw [en]; exact ⟨⟨old, q⟩, hi, tp⟩) fun h' tk kp _ => I.turnedL kp hf
  self := fun A i s Q E ⟨⟨old, q⟩, _⟩ h => wpAny_pyIter_enum q h
def iEnumT (K : PySem.W.Frag) (ta : TA) : TI := fun σ H R => ta σ H fun vs H1 => ∃ a xs, vs = [.ref a] ∧ SqT K H1 a xs ∧ R (Itet K a) H1
theorem pi_enumT {X : Cx} {e : Expr} {ta : TA} {p pos tpos : Pos} {elts : List Expr} {kk : Nat} (hg : Gl X "enumerate") (hm : X.mg "enumerate" = none) (ha : PA X [e] ta) (hs : starEach [e] X.env = [(false, eval e X.env)] := by rfl) :
    PI X (.Tuple elts kk tpos) (.Call (.Name "enumerate" p) [e] [] pos) (iEnumT X.K ta) where
  run := fun pins s σ H R I h => by
    refine Call_ (ld_blt I hg hm boot_enumerate (PyProof.Rows.callWith_type1 (thn (ha.run pos pins s σ H _ I h) ?_) hs rfl))
    rintro us st ⟨_, H1, J, rel, a, xs, rfl, tup, fin⟩
    cases rel with
    | cons r0 r1 =>
      cases r1
      cases r0
      obtain ⟨its, _, tp, _⟩ := J.tuple tup
      have kp : ∀ b o, st.heap.get? b = some o → ((st.heap.push { cls := .type "tuple_iterator", data := .fields #[.ref a, .int 0 0] }).push (enumO st.heap.objs.size)).get? b = some o := fun b o z => Heap.get?_push_of_some _ (Heap.get?_push_of_some _ z)
      have grown : (st.heap.push { cls := .type "tuple_iterator", data := .fields #[.ref a, .int 0 0] }).objs.size = st.heap.objs.size + 1 := Heap.size_push ..
      have en : IsEnum ((st.heap.push { cls := .type "tuple_iterator", data := .fields #[.ref a, .int 0 0] }).push (enumO st.heap.objs.size)) (st.heap.objs.size + 1) st.heap.objs.size (0 + ((0 : Nat) : Int)) .none := by
        rw [← grown]
        exact Heap.get?_push_size _ rfl
      refine enumCall (begins_tuple a its.toArray) tp (wpAny_pyIter_enum en ⟨st.heap.objs.size + 1, [st.heap.objs.size + 1, st.heap.objs.size], _, _, H1, rfl, J.kept (t' := st.toks) kp, turn_enumT a (st.heap.objs.size + 1) st.heap.objs.size,
        ⟨⟨_, en⟩, ⟨_, Heap.get?_push_of_some _ (Heap.get?_push_size _ rfl), rfl, rfl⟩, Nat.succ_ne_self _⟩, fun b hb => ?_, fin⟩)
      have above : st.heap.objs.size ≤ b := by
        rcases List.mem_cons.mp hb with rfl | hb
        · exact Nat.le_succ _
        · exact Nat.le_of_eq (List.mem_singleton.mp hb).symm
      exact J.fpOk above (J.hok.fresh above)
theorem walk_enumT {K : PySem.W.Frag} {a : Addr} {xs : List V} : L2.Walk (Itet K a) xs.length (fun H => SqT K H a xs) (YPair (fun i => some (.int (i : Nat))) (fun i => xs[i]?)) := by
  refine ⟨fun i _ hi q => ⟨xs, xs[i], q, by simp [hi]⟩, fun _ q => ⟨xs, q, rfl⟩, fun i H v H' _ q y => ?_⟩
  obtain ⟨T, x, h1, h2, h3, h4⟩ := y
  exact ⟨T, .int (i : Nat), x, h1, h2, h3, rfl, h4 xs q⟩

/-! ### new objects leave what was -/
theorem same_new {H : Hp} {p : Addr} {o : HO} (h : H p = none) : Same H (upd H p o) := fun b u e => by
  rw [upd_ne (ne_of_none e h)]; exact e
theorem seqT {K : PySem.W.Frag} {H H' : Hp} {a : Addr} {xs : List V} (e : Same H H') (h : SqT K H a xs) : SqT K H' a xs := by
  rcases h with (h | ⟨o, h⟩) | h
  · exact .inl (.inl (e _ _ h))
  · exact .inl (.inr ⟨o, e _ _ h⟩)
  · exact .inr h
mutual
theorem dp_ext {K : PySem.W.Frag} {H H' : Hp} (e : Same H H') : ∀ {v : V} {d : PyData}, Dp K H v d → Dp K H' v d
  | _, _, .non => .non
  | _, _, .bl b => .bl b
  | _, _, .int i => .int i
  | _, _, .str x => .str x
  | _, _, .lst hs ha => .lst (e.seq hs) (dpAll_ext e ha)
  | _, _, .tup hs ha => .tup (seqT e hs) (dpAll_ext e ha)
theorem dpAll_ext {K : PySem.W.Frag} {H H' : Hp} (e : Same H H') : ∀ {vs : List V} {ds : List PyData}, DpAll K H vs ds → DpAll K H' vs ds
  | _, _, .nil => .nil
  | _, _, .cons h t => .cons (dp_ext e h) (dpAll_ext e t)
end
section
variable {K : PySem.W.Frag} {H : Hp}
theorem dpAll_len : ∀ {vs : List V} {ds : List PyData}, DpAll K H vs ds → vs.length = ds.length
  | _, _, .nil => rfl
  | _, _, .cons _ t => by rw [List.length_cons, List.length_cons, dpAll_len t]
theorem dpAll_get : ∀ {vs : List V} {ds : List PyData} {i : Nat} {d : PyData}, DpAll K H vs ds → ds[i]? = some d → ∃ v, vs[i]? = some v ∧ Dp K H v d
  | _, _, _, _, .nil, e => by simp at e
  | _, _, 0, d, .cons h _, e => by simp at e; subst e; exact ⟨_, rfl, h⟩
  | _, _, i + 1, d, .cons _ t, e => by
    obtain ⟨v, h1, h2⟩ := dpAll_get (i := i) (d := d) t (by simpa using e)
    exact ⟨v, by simpa using h1, h2⟩
theorem dpAll_app : ∀ {vs ws : List V} {ds es : List PyData}, DpAll K H vs ds → DpAll K H ws es → DpAll K H (vs ++ ws) (ds ++ es)
  | _, _, _, _, .nil, h => h
  | _, _, _, _, .cons h t, g => .cons h (dpAll_app t g)
theorem dpAll_one {v : V} {d : PyData} (h : Dp K H v d) : DpAll K H [v] [d] := .cons h .nil
theorem dpAll_drop : ∀ {vs : List V} {ds : List PyData} (n : Nat), DpAll K H vs ds → DpAll K H (vs.drop n) (ds.drop n)
  | _, _, 0, h => h
  | _, _, _ + 1, .nil => .nil
  | _, _, n + 1, .cons _ t => dpAll_drop n t
theorem dpAll_ints : ∀ (ns : List Int), DpAll K H (ns.map V.int) (ns.map PyData.int)
  | [] => .nil
  | n :: ns => .cons (.int n) (dpAll_ints ns)
theorem ints_of_dpAll : ∀ {vs : List V} {ns : List Int}, DpAll K H vs (ns.map PyData.int) → vs = ns.map V.int
  | _, [], h => by cases h; rfl
  | _, n :: ns, h => by
    cases h with
    | cons h t =>
      cases h
      rw [ints_of_dpAll t]; rfl
end
end K51
/-! The plain part: what the program and the law compute, over plain lists; and the finite check. -/
namespace K51
abbrev Ent := Nat × Bool
abbrev Ord := List Ent
abbrev Tour := List (List Nat)
def push (rows : Tour) (p q : Nat) : Tour := rows.set p (rows.getD p [] ++ [q])
def step (e : Ent) (rows : Tour) (f : Ent) : Tour := if (e.2 == f.2) = true then push rows e.1 f.1 else push rows f.1 e.1
def inner (e : Ent) : Ord → Tour → Tour
  | [], r => r
  | f :: l, r => inner e l (step e r f)
def outer : Ord → Tour → Tour
  | [], r => r
  | e :: l, r => outer l (inner e l r)
def ins (a : Nat) : List Nat → List Nat
  | [] => [a]
  | b :: l => if Nat.ble a b = true then a :: b :: l else b :: ins a l
def isort : List Nat → List Nat
  | [] => []
  | a :: l => ins a (isort l)
def byOrd (o : Ord) : Tour := (outer o (List.replicate o.length [])).map isort
def expand1 (row : Ord) (p : Nat) : List Ord := if (row.map (·.1)).contains p then [] else [row ++ [(p, true)], row ++ [(p, false)]]
def expand (m : Nat) (row : Ord) : List Ord := (List.range' 1 (m - 1)).flatMap (expand1 row)
def level (m : Nat) : Nat → List Ord
  | 0 => [[(0, true)]]
  | t + 1 => (level m t).flatMap (expand m)
def orders (m : Nat) : List Ord := level m (m - 1)
def ow : Nat → Nat
  | 0 => 1
  | n + 1 => ow n * 2 * (n + 1)
def nthLoop : Nat → List Nat → Nat → Ord → Ord
  | 0, _, _, o => o
  | n + 1, left, i, o => nthLoop n (left.eraseIdx (i / ow (left.length - 1) / 2)) (i % ow (left.length - 1))
      (o ++ [(left.getD (i / ow (left.length - 1) / 2) 0, i / ow (left.length - 1) % 2 == 0)])
def nthOrd (m i : Nat) : Ord := nthLoop (m - 1) (List.range' 1 (m - 1)) i [(0, true)]
def idxLoop : Ord → List Nat → Nat → Nat
  | [], _, i => i
  | e :: l, left, i => idxLoop l (left.erase e.1) (i + (2 * left.idxOf e.1 + (if e.2 = true then 0 else 1)) * ow (left.length - 1))
def idxOk : Ord → List Nat → Bool
  | [], _ => true
  | e :: l, left => left.contains e.1 && idxOk l (left.erase e.1)
def index (o : Ord) : Nat := idxLoop (o.drop 1) (List.range' 1 (o.length - 1)) 0
def bt (t : Tour) (a c : Nat) : Bool := (t.getD a []).contains c
def signs (t : Tour) : List Bool := (List.range t.length).map fun p => p == 0 || bt t 0 p
def others (m p : Nat) : List Nat := (List.range' 1 (m - 1)).filter fun q => q != p
def ahead (t : Tour) (sg : List Bool) (p : Nat) : List Nat := (others t.length p).filter fun q => bt t p q == (sg.getD p false == sg.getD q false)
def place (t : Tour) (sg : List Bool) (p : Nat) : Nat × Nat := ((others t.length p).length - (ahead t sg p).length, p)
def places (t : Tour) (sg : List Bool) : List (Nat × Nat) := (List.range' 1 (t.length - 1)).map (place t sg)
def ple (a b : Nat × Nat) : Bool := Nat.blt a.1 b.1 || (a.1 == b.1 && Nat.ble a.2 b.2)
def pins (a : Nat × Nat) : List (Nat × Nat) → List (Nat × Nat)
  | [] => [a]
  | b :: l => if ple a b = true then a :: b :: l else b :: pins a l
def psort : List (Nat × Nat) → List (Nat × Nat)
  | [] => []
  | a :: l => pins a (psort l)
def cand (t : Tour) : Ord := (0, true) :: (psort (places t (signs t))).map fun q => (q.2, (signs t).getD q.2 false)
def asc : List Nat → Bool
  | a :: b :: l => Nat.blt a b && asc (b :: l)
  | _ => true
def rowOk (m : Nat) (r : List Nat) : Bool := Nat.ble r.length 8 && asc r && r.all fun x => Nat.blt x m
def validT (t : Tour) : Bool :=
  Nat.ble 1 t.length && Nat.ble t.length 8 && t.all (fun r => rowOk t.length r) &&
    (List.range t.length).all fun a => !(bt t a a) && (List.range a).all fun c => bt t a c != bt t c a
def okOrd (m : Nat) (o : Ord) : Bool := o.length == m && o.all fun e => Nat.blt e.1 m
def good (t : Tour) : Bool := validT t && okOrd t.length (cand t) && byOrd (cand t) == t && idxOk ((cand t).drop 1) (List.range' 1 ((cand t).length - 1))
def firstT (m : Nat) : Tour := (List.range m).map fun p => List.range' (p + 1) (m - (p + 1))
def lastT (m : Nat) : Tour := (List.range m).map fun p => List.range p
def check1 (m : Nat) (o : Ord) (k : Nat) : Bool :=
  okOrd m o && good (byOrd o) && okOrd m (nthOrd m k) && byOrd (nthOrd m k) == byOrd o && cand (byOrd o) == o && index o == k
def checkL (m : Nat) : List Ord → Nat → Bool
  | [], _ => true
  | o :: l, k => check1 m o k && checkL m l (k + 1)
def check (m : Nat) : Bool := (orders m).length == ow (m - 1) && checkL m (orders m) 0 && byOrd (nthOrd m 0) == firstT m && byOrd (nthOrd m (ow (m - 1) - 1)) == lastT m
theorem check_1 : check 1 = true := by decide +kernel
theorem check_2 : check 2 = true := by decide +kernel
theorem check_3 : check 3 = true := by decide +kernel
theorem check_4 : check 4 = true := by decide +kernel
theorem check_5 : check 5 = true := by decide +kernel
end K51
/-! Deep data of tuples: kept whatever happens to lists; comprehensions over it; the mirror's values as data. -/
namespace K51
open PySem L2

/-! ### data without lists -/
mutual
def noL : PyData → Bool
  | .none => true
  | .bool _ => true
  | .int _ => true
  | .str _ => true
  | .list _ => false
  | .tuple ds => noLs ds
  | .dict _ => false
def noLs : List PyData → Bool
  | [] => true
  | d :: ds => noL d && noLs ds
end
/-- every tuple stays -/
def Tups (H H' : Hp) : Prop := ∀ b xs, Rd H b (.tup xs) → Rd H' b (.tup xs)
theorem Tups.of {H H' : Hp} (e : Same H H') : Tups H H' := fun b xs h => h.elim (fun h => .inl (e _ _ h)) fun ⟨o, h⟩ => .inr ⟨o, e _ _ h⟩
theorem Tups.refl (H : Hp) : Tups H H := fun _ _ h => h
theorem Tups.trans {H H1 H2 : Hp} (a : Tups H H1) (b : Tups H1 H2) : Tups H H2 := fun c xs h => b c xs (a c xs h)
/-- a list is changed -/
theorem Tups.put {H : Hp} {a : Addr} {xs : List V} {o : HO} (h : H a = some (.lst xs)) : Tups H (upd H a o) := fun b ys r => by
  rcases r with r | ⟨u, r⟩
  · exact .inl (by rw [upd_ne (ne_of r h (by intro z; cases z))]; exact r)
  · exact .inr ⟨u, by rw [upd_ne (ne_of r h (by intro z; cases z))]; exact r⟩
theorem Tups.seqT {K : PySem.W.Frag} {H H' : Hp} {a : Addr} {xs : List V} (t : Tups H H') (h : SqT K H a xs) : SqT K H' a xs := h.elim (fun h => .inl (t _ _ h)) .inr
mutual
theorem dp_keep {K : PySem.W.Frag} {H H' : Hp} (t : Tups H H') : ∀ {v : V} {d : PyData}, Dp K H v d → noL d = true → Dp K H' v d
  | _, _, .non, _ => .non
  | _, _, .bl b, _ => .bl b
  | _, _, .int i, _ => .int i
  | _, _, .str x, _ => .str x
  | _, _, .lst hs ha, n => by simp [noL] at n
  | _, _, .tup hs ha, n => .tup (t.seqT hs) (dpAll_keep t ha (by simpa [noL] using n))
theorem dpAll_keep {K : PySem.W.Frag} {H H' : Hp} (t : Tups H H') : ∀ {vs : List V} {ds : List PyData}, DpAll K H vs ds → noLs ds = true → DpAll K H' vs ds
  | _, _, .nil, _ => .nil
  | _, _, .cons h tl, n => by
    have n' := Bool.and_eq_true_iff.mp (show (noL _ && noLs _) = true from n)
    exact .cons (dp_keep t h n'.1) (dpAll_keep t tl n'.2)
end
theorem noLs_all : ∀ {ds : List PyData}, (∀ d ∈ ds, noL d = true) → noLs ds = true
  | [], _ => rfl
  | d :: ds, h => by
    unfold noLs
    rw [h d (List.mem_cons_self ..), noLs_all fun x hx => h x (List.mem_cons_of_mem _ hx)]
    rfl
theorem noLs_map {α : Type} (f : α → PyData) (hf : ∀ x, noL (f x) = true) (l : List α) : noLs (l.map f) = true := noLs_all fun d hd => by
  obtain ⟨x, _, rfl⟩ := List.mem_map.mp hd
  exact hf x
/-! ### the mirror's values as data -/
def iN (r : List Nat) : List Int := r.map fun (n : Nat) => (n : Int)
theorem iN_len (r : List Nat) : (iN r).length = r.length := List.length_map _
theorem iN_get {r : List Nat} {i n : Nat} (h : r[i]? = some n) : ((iN r).map V.int)[i]? = some (V.int n) := by
  unfold iN
  rw [List.getElem?_map, List.getElem?_map, h]
  rfl
theorem iN_get' {r : List Nat} {i : Nat} {x : V} (h : ((iN r).map V.int)[i]? = some x) : ∃ n, r[i]? = some n ∧ x = V.int n := by
  unfold iN at h
  rw [List.getElem?_map, List.getElem?_map] at h
  cases e : r[i]? with
  | none => rw [e] at h; cases h
  | some n => rw [e] at h; exact ⟨n, rfl, (Option.some.inj h).symm⟩
theorem iN_app (a b : List Nat) : iN (a ++ b) = iN a ++ iN b := List.map_append
def rowD (r : List Nat) : PyData := .tuple ((iN r).map PyData.int)
def tourD (t : Tour) : PyData := .tuple (t.map rowD)
def entD (e : Ent) : PyData := .tuple [.int e.1, .bool e.2]
def ordD (o : Ord) : PyData := .tuple (o.map entD)
theorem noL_row (r : List Nat) : noL (rowD r) = true := by
  show noLs _ = true
  exact noLs_map _ (fun _ => rfl) _
theorem noL_tour (t : Tour) : noL (tourD t) = true := by
  show noLs _ = true
  exact noLs_map _ noL_row _
theorem noL_ent (e : Ent) : noL (entD e) = true := rfl
theorem noL_ord (o : Ord) : noL (ordD o) = true := by
  show noLs _ = true
  exact noLs_map _ noL_ent _
section
variable {K : PySem.W.Frag} {H : Hp}
theorem row_of {v : V} {r : List Nat} (h : Dp K H v (rowD r)) : ∃ a, v = .ref a ∧ SqT K H a ((iN r).map V.int) := by
  unfold rowD at h
  cases h with
  | tup hs ha => exact ⟨_, rfl, by rw [← ints_of_dpAll ha]; exact hs⟩
theorem tour_of {v : V} {t : Tour} (h : Dp K H v (tourD t)) : ∃ a xs, v = .ref a ∧ SqT K H a xs ∧ DpAll K H xs (t.map rowD) := by
  unfold tourD at h
  cases h with
  | tup hs ha => exact ⟨_, _, rfl, hs, ha⟩
theorem ord_of {v : V} {o : Ord} (h : Dp K H v (ordD o)) : ∃ a xs, v = .ref a ∧ SqT K H a xs ∧ DpAll K H xs (o.map entD) := by
  unfold ordD at h
  cases h with
  | tup hs ha => exact ⟨_, _, rfl, hs, ha⟩
theorem ent_of {v : V} {e : Ent} (h : Dp K H v (entD e)) : ∃ a, v = .ref a ∧ SqT K H a [.int e.1, .bl e.2] := by
  unfold entD at h
  cases h with
  | tup hs ha =>
    cases ha with
    | cons h1 t1 =>
      cases h1
      cases t1 with
      | cons h2 t2 =>
        cases h2
        cases t2
        exact ⟨_, rfl, hs⟩
theorem row_at {xs : List V} {t : Tour} {i : Nat} {r : List Nat} (h : DpAll K H xs (t.map rowD)) (e : t[i]? = some r) : ∃ b, xs[i]? = some (.ref b) ∧ SqT K H b ((iN r).map V.int) := by
  obtain ⟨v, h1, h2⟩ := dpAll_get (i := i) (d := rowD r) h (by rw [List.getElem?_map, e]; rfl)
  obtain ⟨b, rfl, h3⟩ := row_of h2
  exact ⟨b, h1, h3⟩
theorem ent_at {xs : List V} {o : Ord} {i : Nat} {e : Ent} (h : DpAll K H xs (o.map entD)) (he : o[i]? = some e) : ∃ b, xs[i]? = some (.ref b) ∧ SqT K H b [.int e.1, .bl e.2] := by
  obtain ⟨v, h1, h2⟩ := dpAll_get (i := i) (d := entD e) h (by rw [List.getElem?_map, he]; rfl)
  obtain ⟨b, rfl, h3⟩ := ent_of h2
  exact ⟨b, h1, h3⟩
theorem bools_of : ∀ {vs : List V} {bs : List Bool}, DpAll K H vs (bs.map PyData.bool) → vs = bs.map V.bl
  | _, [], h => by cases h; rfl
  | _, b :: bs, h => by
    cases h with
    | cons h t =>
      cases h
      rw [bools_of t]; rfl
theorem tyX_tup {a : Addr} {xs : List V} (h : SqT K H a xs) : TyX K H (.ref a) (.type "tuple") := by
  rcases h with (h | ⟨o, h⟩) | ⟨o, its, n, hk, hc, _⟩
  · exact .base (.tup h)
  · exact .fTuple h
  · exact .kTuple hk hc
end
theorem inV_nat (c : Nat) : ∀ r : List Nat, inV (.int c) ((iN r).map V.int) = r.contains c
  | [] => rfl
  | n :: r => by
    have ih := inV_nat c r
    unfold inV at ih ⊢
    rw [List.contains_cons]
    show (((n : Int) == (c : Int)) || _) = _
    rw [← ih]
    have e : ((n : Int) == (c : Int)) = (c == n) := by
      by_cases q : n = c
      · subst q; simp
      · have q' : ¬ c = n := fun z => q z.symm
        have q2 : ¬ ((n : Int) = (c : Int)) := by omega
        rw [beq_eq_false_iff_ne.mpr q', beq_eq_false_iff_ne.mpr q2]
    rw [e]
    rfl
theorem flat_ints : ∀ ns : List Int, (ns.map V.int).all flatV = true
  | [] => rfl
  | _ :: ns => by show (true && _) = true; rw [flat_ints ns]; rfl
/-! ### a comprehension whose elements are data without lists -/
theorem lc_gen {J : It} {n : Nat} {G : Hp → Prop} {Y : Nat → Hp → V → Hp → Prop} (w : L2.Walk J n G Y) (K : PySem.W.Frag) {g : TG} {tt : TT} {te : TE} {vs : List Nat} {σ : St} {H1 : Hp} {D : Addr} {Qd : Hp → Prop} (f : Nat → PyData) (p : Nat → Bool)
    (hf : ∀ i, noL (f i) = true) (hD : H1 D = none) (hn : n < sizeLine) (hG : ∀ H, Same H1 H → G H)
    (hs : ∀ i x H H' (R : V → Hp → Prop) (S : Hp → Prop), i < n → Same H1 H → Y i H x H' → (p i = true → ∀ y H4, Same H' H4 → Dp K H4 y (f i) → R y H4) → (p i = false → ∀ H4, Same H' H4 → S H4) →
      g x (wipe σ vs) H' fun σ2 H2 => wipe σ2 vs = wipe σ vs ∧ tt σ2 H2 fun b H3 => if b = true then te σ2 H3 R else S H3)
    (hY : ∀ i x H H', Y i H x H' → Same H H')
    (hd : ∀ H ys, Same H1 H → H D = some (.lst ys) → DpAll K H ys (((List.range n).filter p).map f) → Qd H) :
    ∃ W : Nat → Nat → Hp → Prop, (∃ m, W 0 m (upd H1 D (.lst []))) ∧ ∀ i m H, W i m H →
      (J.stop i H ∧ Qd H) ∨ (J.go i H ∧ ∃ Nx : Hp → Prop, (∀ H', Nx H' → ∃ m', m' < m ∧ W (i + 1) m' H') ∧ ∀ x H', J.yld i H x H' → g x (wipe σ vs) H' fun σ2 H2 => wipe σ2 vs = wipe σ vs ∧ tt σ2 H2 fun b H3 =>
        if b = true then te σ2 H3 fun y H4 => ∃ acc, H4 D = some (.lst acc) ∧ acc.length < sizeLine ∧ Nx (upd H4 D (.lst (acc ++ [y]))) else Nx H3) := by
  refine lc_it w (fun i H => Same H1 H ∧ ∃ ys, H D = some (.lst ys) ∧ DpAll K H ys (((List.range i).filter p).map f) ∧ ys.length ≤ i) ⟨same_new hD, [], upd_same, .nil, Nat.le_refl _⟩ (fun i H _ q => hG H q.1) ?_ (fun H ⟨s, ys, h1, h2, _⟩ => hd H ys s h1 h2)
  rintro i x H H' hi ⟨s, ys, h1, h2, h3⟩ y
  have sy := hY i x H H' y
  refine hs i x H H' _ _ hi s y (fun hp v H4 s4 dv => ?_) (fun hp H4 s4 => ?_)
  · have h4 : H4 D = some (.lst ys) := s4 _ _ (sy _ _ h1)
    refine ⟨ys, h4, by omega, fun b o e => ?_, _, upd_same, ?_, by rw [List.length_append, List.length_singleton]; omega⟩
    · rw [upd_ne (ne_of_none e hD)]
      exact s4 _ _ (sy _ _ (s _ _ e))
    · rw [List.range_succ, List.filter_append, List.map_append]
      have e1 : List.filter p [i] = [i] := by simp [hp]
      rw [e1]
      have t : Tups H4 (upd H4 D (.lst (ys ++ [v]))) := Tups.put h4
      refine dpAll_app (dpAll_keep t (dpAll_ext (fun b o e => s4 _ _ (sy _ _ e)) h2) (noLs_map _ hf _)) (dpAll_one (dp_keep t dv (hf i)))
  · have h4 : H4 D = some (.lst ys) := s4 _ _ (sy _ _ h1)
    refine ⟨fun b o e => s4 _ _ (sy _ _ (s _ _ e)), ys, h4, ?_, by omega⟩
    rw [List.range_succ, List.filter_append, List.map_append]
    have e1 : List.filter p [i] = [] := by simp [hp]
    rw [e1, List.map_nil, List.append_nil]
    exact dpAll_ext (fun b o e => s4 _ _ (sy _ _ e)) h2
theorem yes_el {te : TE} {σ : St} {H : Hp} {R : V → Hp → Prop} {S : Hp → Prop} (h : te σ H R) : tYes σ H fun b H3 => if b = true then te σ H3 R else S H3 := by
  unfold tYes
  exact iteT h
theorem yAt_same {xs : List V} : ∀ i x H H', YAt xs i H x H' → Same H H' := fun _ _ H _ y => y.1 ▸ Same.refl H
theorem yFn_same {f : Nat → V} : ∀ i x H H', YFn f i H x H' → Same H H' := fun _ _ H _ y => y.1 ▸ Same.refl H
theorem range_all (n : Nat) : (List.range n).filter (fun _ => true) = List.range n := List.filter_eq_self.mpr fun _ _ => rfl
theorem map_const {α : Type} (d : α) : ∀ n : Nat, (List.range n).map (fun _ => d) = List.replicate n d := fun n => by
  refine List.ext_getElem? fun i => ?_
  rw [List.getElem?_map]
  by_cases h : i < n
  · rw [List.getElem?_range h, List.getElem?_replicate, if_pos h]; rfl
  · rw [List.getElem?_eq_none (by simp; omega), List.getElem?_eq_none (by simp; omega)]; rfl
end K51
/-! The text by places; what the top has left; the small defs. -/
namespace K51
open PySem L2
def top (i : Nat) : Stmt := PySem.Challenge.pw_ringbeats_k51_whole_numbered_tournaments.main.body.getD i (.Pass ⟨0, 0, 0, 0⟩)
abbrev sWhole : Stmt := top 6
abbrev sClimb : Stmt := top 8
abbrev sIsT : Stmt := top 9
abbrev sBeats : Stmt := top 10
abbrev sCheckT : Stmt := top 12
abbrev sBy : Stmt := top 13
abbrev sOrder : Stmt := top 14
abbrev sWithin : Stmt := top 17
abbrev sMany : Stmt := top 18
abbrev sOw : Stmt := top 19
abbrev sCount : Stmt := top 20
abbrev sNth : Stmt := top 21
abbrev sNthC : Stmt := top 22
abbrev sIdx : Stmt := top 23
abbrev sIdxC : Stmt := top 24
abbrev sTold : Stmt := top 25
abbrev sNext : Stmt := top 26
abbrev sStream : Stmt := top 28
abbrev sDraw : Stmt := top 29
abbrev sLBy : Stmt := top 33
abbrev sAll : Stmt := top 38
abbrev sLaw : Stmt := top 39
/-- the built-in names are the built-in ones; the two bounds -/
structure Txt (mg : Str → Option Value) : Prop where
  isi : mg "isinstance" = none
  int : mg "int" = none
  bool : mg "bool" = none
  tup : mg "tuple" = none
  lst : mg "list" = none
  len : mg "len" = none
  rng : mg "range" = none
  all : mg "all" = none
  srt : mg "sorted" = none
  enm : mg "enumerate" = none
  abs : mg "abs" = none
  m1 : ∃ t, mg "MOST_PLAYERS_rings" = some (.int 8 t)
  m2 : ∃ t, mg "MOST_PLAYERS_numbered" = some (.int 8 t)
/-- a def that stands under its name -/
structure Dfn (K : PySem.W.Frag) (mg : Str → Option Value) (x : Str) (st : Stmt) (ps : List Str) (f : Addr) (fd : FuncData) : Prop where
  fn : Fun K x x st f fd
  mg : mg x = some (.ref f)
  bd : Binds K fd ps []
section
variable {P : Program} {w : World} {K : PySem.W.Frag} {mg : Str → Option Value} {base : Heap} {f : Addr} {fd : FuncData}
/-! ### is_within, is_whole -/
def spWithin : Sp := fun vs H Q _ => ∃ v lo hi : Int, vs = [.int v, .int lo, .int hi] ∧ Q (.bl (decide (lo ≤ v) && decide (v ≤ hi))) H
theorem scWithin : FnScope ["value", "low", "high"] ["value", "low", "high"] (defScope sWithin) := ⟨rfl, rfl, rfl, by decide +kernel, rfl, by decide +kernel, by decide +kernel⟩
theorem ok_within (T : Txt mg) (F : Fun K "is_within" "is_within" sWithin f fd) : FnOk P w K mg base CX0 1 f fd ["value", "low", "high"] spWithin := by
  refine F.ok scWithin (fun vs H Q E h => ?_) (fun cdv A outer s H vs Q E hr h => ?_)
  · obtain ⟨v, lo, hi, rfl, _⟩ := h
    rfl
  · obtain ⟨v, lo, hi, rfl, k⟩ := h
    refine ⟨_, pss_one (ps_ret (pe_and (pe_callB call_isi (by rfl) T.isi (by decide +kernel) (pa_cons (pv 0) (pa_cons (pe_bltn (by rfl) T.int (by decide +kernel) (v := .ty "int") (u := .type "int") rfl) pa_nil)))
      (pe_and (pe_not (pe_callB call_isi (by rfl) T.isi (by decide +kernel) (pa_cons (pv 0) (pa_cons (pe_bltn (by rfl) T.bool (by decide +kernel) (v := .ty "bool") (u := .type "bool") rfl) pa_nil))))
        (pe_one (pe_chain op_le op_le (pv 1) (pv 0) (pv 2)))))), ?_⟩
    refine ⟨_, rfl, .int v, .ty "int", .type "int", .type "int", true, rfl, .ty _, .base (.int _), kit_ty (by decide +kernel), _, rfl, iteT ?_⟩
    refine ⟨_, rfl, .int v, .ty "bool", .type "int", .type "bool", false, rfl, .ty _, .base (.int _), kit_ty (by decide +kernel), _, rfl, _, rfl, iteT ?_⟩
    refine ⟨_, rfl, _, rfl, _, _, rfl, rfl, _, rfl, ?_⟩
    by_cases c : lo ≤ v
    · rw [decide_eq_true c, Bool.true_and] at k
      rw [decide_eq_true c]
      exact iteT ⟨_, rfl, _, _, rfl, rfl, k⟩
    · rw [decide_eq_false c, Bool.false_and] at k
      rw [decide_eq_false c]
      exact iteF k
theorem scWhole : FnScope ["value", "low", "high"] ["value", "low", "high"] (defScope sWhole) := ⟨rfl, rfl, rfl, by decide +kernel, rfl, by decide +kernel, by decide +kernel⟩
theorem ok_whole (T : Txt mg) (F : Fun K "is_whole" "is_whole" sWhole f fd) : FnOk P w K mg base CX0 1 f fd ["value", "low", "high"] spWithin := by
  refine F.ok scWhole (fun vs H Q E h => ?_) (fun cdv A outer s H vs Q E hr h => ?_)
  · obtain ⟨v, lo, hi, rfl, _⟩ := h
    rfl
  · obtain ⟨v, lo, hi, rfl, k⟩ := h
    refine ⟨_, pss_one (ps_ret (pe_and (pe_callB call_isi (by rfl) T.isi (by decide +kernel) (pa_cons (pv 0) (pa_cons (pe_bltn (by rfl) T.int (by decide +kernel) (v := .ty "int") (u := .type "int") rfl) pa_nil)))
      (pe_and (pe_not (pe_callB call_isi (by rfl) T.isi (by decide +kernel) (pa_cons (pv 0) (pa_cons (pe_bltn (by rfl) T.bool (by decide +kernel) (v := .ty "bool") (u := .type "bool") rfl) pa_nil))))
        (pe_one (pe_chain op_le op_le (pv 1) (pv 0) (pv 2)))))), ?_⟩
    refine ⟨_, rfl, .int v, .ty "int", .type "int", .type "int", true, rfl, .ty _, .base (.int _), kit_ty (by decide +kernel), _, rfl, iteT ?_⟩
    refine ⟨_, rfl, .int v, .ty "bool", .type "int", .type "bool", false, rfl, .ty _, .base (.int _), kit_ty (by decide +kernel), _, rfl, _, rfl, iteT ?_⟩
    refine ⟨_, rfl, _, rfl, _, _, rfl, rfl, _, rfl, ?_⟩
    by_cases c : lo ≤ v
    · rw [decide_eq_true c, Bool.true_and] at k
      rw [decide_eq_true c]
      exact iteT ⟨_, rfl, _, _, rfl, rfl, k⟩
    · rw [decide_eq_false c, Bool.false_and] at k
      rw [decide_eq_false c]
      exact iteF k
/-! ### check_many: a number of players it is -/
def spMany : Sp := fun vs H Q _ => ∃ m : Int, vs = [.int m] ∧ 1 ≤ m ∧ m ≤ 8 ∧ Q .non H
theorem scMany : FnScope ["many"] ["many"] (defScope sMany) := ⟨rfl, rfl, rfl, by decide +kernel, rfl, by decide +kernel, by decide +kernel⟩
theorem ok_many (T : Txt mg) (F : Fun K "check_many" "check_many" sMany f fd) {f1 : Addr} {fd1 : FuncData} (D1 : Dfn K mg "is_within" sWithin ["value", "low", "high"] f1 fd1) : FnOk P w K mg base CX0 2 f fd ["many"] spMany := by
  have G1 : FnOk P w K mg base CX0 1 f1 fd1 ["value", "low", "high"] spWithin := ok_within T D1.fn
  refine F.ok scMany (fun vs H Q E h => ?_) (fun cdv A outer s H vs Q E hr h => ?_)
  · obtain ⟨m, rfl, _⟩ := h
    rfl
  · obtain ⟨m, rfl, h1, h8, k⟩ := h
    obtain ⟨t, mt⟩ := T.m2
    refine ⟨_, pss_one (ps_if (pt_not (pt_val (pe_call G1 hr rfl D1.mg D1.fn.kp D1.bd .nil pass0 (pa_cons (pv 0) (pa_cons pe_int (pa_cons (pe_glob (by rfl) mt (v := .int 8) ⟨_, rfl⟩) pa_nil)))))) pss_never pss_nil), ?_⟩
    refine ⟨_, rfl, _, _, _, rfl, _, rfl, ?_⟩
    rw [decide_eq_true h1, decide_eq_true h8]
    exact iteF k
/-! ### orders_with -/
def spOw : Sp := fun vs H Q _ => ∃ n : Nat, vs = [.int n] ∧ n ≤ 100 ∧ Q (.int (ow n)) H
theorem scOw : FnScope ["left", "found", "number"] ["left"] (defScope sOw) := ⟨rfl, rfl, rfl, by decide +kernel, rfl, by decide +kernel, by decide +kernel⟩
theorem ok_ow (T : Txt mg) (F : Fun K "orders_with" "orders_with" sOw f fd) : FnOk P w K mg base CX0 1 f fd ["left"] spOw := by
  refine F.ok scOw (fun vs H Q E h => ?_) (fun cdv A outer s H vs Q E hr h => ?_)
  · obtain ⟨n, rfl, _⟩ := h
    rfl
  · obtain ⟨n, rfl, hn, k⟩ := h
    refine ⟨_, pss_cons (ps_set (i := 1) scOw.nd rfl (Or.inl rfl) pe_int)
      (pss_cons (ps_for PassesOwn.never rfl (pi_range2 rfl T.rng (pa_cons pe_int (pa_cons (pe_op op_add (pv 0) pe_int) pa_nil))) (pg_name (i := 2) scOw.nd rfl (Or.inl rfl))
        (pss_one (ps_set (i := 1) scOw.nd rfl (Or.inl rfl) (pe_op op_mul (pe_op op_mul (pv 1) pe_int) (pv 2)))))
      (pss_one (ps_ret (pv 1)))), ?_⟩
    refine ⟨_, rfl, _, _, rfl, rfl, 1, (n : Int) + 1, rfl, by omega, ?_⟩
    have e1 : (((n : Int) + 1) - 1).toNat = n := by omega
    rw [e1]
    refine for_range (lo := 1) (n := n) (fun i σ H' => H' = H ∧ ∃ z : Option V, σ = [some (.int n), some (.int (ow i)), z]) ⟨rfl, none, rfl⟩ ?_ ?_
    · rintro i σ H' hi ⟨rfl, z, rfl⟩
      refine ⟨_, rfl, _, _, rfl, rfl, .inr ⟨by decide, by decide⟩, _, rfl, _, _, rfl, rfl, .inr ⟨by omega, by omega⟩, rfl, some (.int (1 + i)), ?_⟩
      have e : (ow i : Int) * 2 * (1 + (i : Int)) = ((ow (i + 1) : Nat) : Int) := by
        show _ = ((ow i * 2 * (i + 1) : Nat) : Int)
        rw [Int.natCast_mul, Int.natCast_mul, Int.natCast_add, Int.add_comm 1]
        rfl
      show [some (V.int n), some (V.int ((ow i : Int) * 2 * (1 + (i : Int)))), some (V.int (1 + i))] = _
      rw [e]
    · rintro σ H' ⟨rfl, z, rfl⟩
      exact ⟨_, rfl, k⟩
/-! ### count_circular -/
def spCount : Sp := fun vs H Q _ => ∃ m : Nat, vs = [.int m] ∧ 1 ≤ m ∧ m ≤ 8 ∧ Q (.int (ow (m - 1))) H
theorem scCount : FnScope ["many"] ["many"] (defScope sCount) := ⟨rfl, rfl, rfl, by decide +kernel, rfl, by decide +kernel, by decide +kernel⟩
theorem ok_count (F : Fun K "count_circular" "count_circular" sCount f fd) {f1 f2 : Addr} {fd1 fd2 : FuncData} (D1 : Dfn K mg "check_many" sMany ["many"] f1 fd1) (D2 : Dfn K mg "orders_with" sOw ["left"] f2 fd2)
    (G1 : FnOk P w K mg base CX0 2 f1 fd1 ["many"] spMany) (G2 : FnOk P w K mg base CX0 1 f2 fd2 ["left"] spOw) : FnOk P w K mg base CX0 3 f fd ["many"] spCount := by
  refine F.ok scCount (fun vs H Q E h => ?_) (fun cdv A outer s H vs Q E hr h => ?_)
  · obtain ⟨m, rfl, _⟩ := h
    rfl
  · obtain ⟨m, rfl, h1, h8, k⟩ := h
    refine ⟨_, pss_cons (ps_expr (pe_call G1 hr rfl D1.mg D1.fn.kp D1.bd .nil pass0 (pa_cons (pv 0) pa_nil)))
      (pss_one (ps_ret (pe_call G2 (hr.mono (by decide)) rfl D2.mg D2.fn.kp D2.bd .nil pass0 (pa_cons (pe_op op_sub (pv 0) pe_int) pa_nil)))), ?_⟩
    refine ⟨_, rfl, _, rfl, by omega, by omega, _, rfl, _, _, rfl, rfl, m - 1, ?_, by omega, k⟩
    have e : (m : Int) - 1 = ((m - 1 : Nat) : Int) := by omega
    show [V.int ((m : Int) - 1)] = _
    rw [e]
end
end K51
/-! The judges: beats, is_climbing, is_tournament, check_tournament. -/
namespace K51
open PySem L2
theorem asc_get : ∀ {r : List Nat} {i a b : Nat}, asc r = true → r[i]? = some a → r[i + 1]? = some b → a < b
  | [], _, _, _, _, h, _ => by simp at h
  | [_], i, _, _, _, _, h => by simp at h
  | x :: y :: l, 0, a, b, h, h1, h2 => by
    have q := Bool.and_eq_true_iff.mp (show (Nat.blt x y && asc (y :: l)) = true from h)
    simp at h1 h2
    subst h1 h2
    exact Nat.le_of_ble_eq_true q.1
  | x :: y :: l, i + 1, a, b, h, h1, h2 => by
    have q := Bool.and_eq_true_iff.mp (show (Nat.blt x y && asc (y :: l)) = true from h)
    exact asc_get (r := y :: l) (i := i) q.2 (by simpa using h1) (by simpa using h2)
structure RowOk (m : Nat) (r : List Nat) : Prop where
  len : r.length ≤ 8
  asc : asc r = true
  lt : ∀ x ∈ r, x < m
theorem rowOk_of {m : Nat} {r : List Nat} (h : rowOk m r = true) : RowOk m r := by
  unfold rowOk at h
  rw [Bool.and_eq_true, Bool.and_eq_true, List.all_eq_true] at h
  exact ⟨Nat.le_of_ble_eq_true h.1.1, h.1.2, fun x hx => Nat.le_of_ble_eq_true (h.2 x hx)⟩
structure ValidT (t : Tour) : Prop where
  one : 1 ≤ t.length
  len : t.length ≤ 8
  row : ∀ r ∈ t, rowOk t.length r = true
  self : ∀ a, a < t.length → bt t a a = false
  pair : ∀ a c, a < t.length → c < a → (bt t a c != bt t c a) = true
theorem validT_of {t : Tour} (h : validT t = true) : ValidT t := by
  unfold validT at h
  rw [Bool.and_eq_true, Bool.and_eq_true, Bool.and_eq_true, List.all_eq_true, List.all_eq_true] at h
  obtain ⟨⟨⟨h1, h2⟩, h3⟩, h4⟩ := h
  refine ⟨Nat.le_of_ble_eq_true h1, Nat.le_of_ble_eq_true h2, h3, fun a ha => ?_, fun a c ha hc => ?_⟩
  · have q := Bool.and_eq_true_iff.mp (h4 a (List.mem_range.mpr ha))
    simpa using q.1
  · have q := Bool.and_eq_true_iff.mp (h4 a (List.mem_range.mpr ha))
    exact List.all_eq_true.mp q.2 c (List.mem_range.mpr hc)
section
variable {P : Program} {w : World} {K : PySem.W.Frag} {mg : Str → Option Value} {base : Heap} {f : Addr} {fd : FuncData}
/-! ### beats -/
def spBeats (K : PySem.W.Frag) : Sp := fun vs H Q _ => ∃ (v : V) (t : Tour) (a c : Nat), vs = [v, .int a, .int c] ∧ Dp K H v (tourD t) ∧ a < t.length ∧ Q (.bl (bt t a c)) H
theorem scBeats : FnScope ["tournament", "one", "other"] ["tournament", "one", "other"] (defScope sBeats) := ⟨rfl, rfl, rfl, by decide +kernel, rfl, by decide +kernel, by decide +kernel⟩
theorem ok_beats (F : Fun K "beats" "beats" sBeats f fd) : FnOk P w K mg base CX0 1 f fd ["tournament", "one", "other"] (spBeats K) := by
  refine F.ok scBeats (fun vs H Q E h => ?_) (fun cdv A outer s H vs Q E hr h => ?_)
  · obtain ⟨v, t, a, c, rfl, _⟩ := h
    rfl
  · obtain ⟨v, t, a, c, rfl, hd, ha, k⟩ := h
    obtain ⟨ad, xs, rfl, hs, hx⟩ := tour_of hd
    refine ⟨_, pss_one (ps_ret (pe_cmpR op_in_seq (pv 2) (pe_ix ix_tup (pv 0) (pv 1) (fun _ _ => rfl)) rfl)), ?_⟩
    have e : t[a]? = some t[a] := by simp [ha]
    obtain ⟨b, h1, h2⟩ := row_at hx e
    refine ⟨_, rfl, _, rfl, _, rfl, ad, xs, _, _, rfl, rfl, hs, atI_nat h1, b, _, rfl, .inr h2, rfl, flat_ints _, ?_⟩
    show Q (V.bl (inV (V.int c) ((iN t[a]).map V.int))) _
    rw [inV_nat]
    have e2 : bt t a c = (t[a]).contains c := by
      unfold bt
      rw [List.getD_eq_getElem?_getD, e]
      rfl
    rw [← e2]
    exact k
/-! ### is_climbing, of a row that is all right -/
def spClimb (K : PySem.W.Frag) : Sp := fun vs H Q _ => ∃ (v : V) (r : List Nat) (m : Nat), vs = [v, .int m] ∧ Dp K H v (rowD r) ∧ rowOk m r = true ∧ ∀ H', Same H H' → Q (.bl true) H'
theorem scClimb : FnScope ["value", "many", "one", "at"] ["value", "many"] (defScope sClimb) := ⟨rfl, rfl, rfl, by decide +kernel, rfl, by decide +kernel, by decide +kernel⟩
theorem trues_of {K : PySem.W.Frag} {H : Hp} {ys : List V} {n : Nat} (h : DpAll K H ys (((List.range n).filter fun _ => true).map fun _ => PyData.bool true)) : ys = (List.replicate n true).map V.bl := by
  rw [range_all, map_const] at h
  refine bools_of (K := K) (H := H) ?_
  rw [List.map_replicate]
  exact h
theorem all_trues (n : Nat) : (List.replicate n true).all id = true := List.all_eq_true.mpr fun x hx => (List.mem_replicate.mp hx).2
theorem ok_climb (T : Txt mg) (F : Fun K "is_climbing" "is_climbing" sClimb f fd) {f1 : Addr} {fd1 : FuncData} (D1 : Dfn K mg "is_whole" sWhole ["value", "low", "high"] f1 fd1) : FnOk P w K mg base CX0 2 f fd ["value", "many"] (spClimb K) := by
  have G1 : FnOk P w K mg base CX0 1 f1 fd1 ["value", "low", "high"] spWithin := ok_whole T D1.fn
  refine F.ok scClimb (fun vs H Q E h => ?_) (fun cdv A outer s H vs Q E hr h => ?_)
  · obtain ⟨v, r, m, rfl, _⟩ := h
    rfl
  · obtain ⟨v, r, m, rfl, hd, hk, k⟩ := h
    obtain ⟨ad, rfl, hs⟩ := row_of hd
    have R := rowOk_of hk
    refine ⟨_, pss_cons (ps_if (pw_or (pt_not (pt_val (pe_callB call_isi (by rfl) T.isi (by decide +kernel) (pa_cons (pv 0) (pa_cons (pe_bltn (by rfl) T.tup (by decide +kernel) (v := .ty "tuple") (u := .type "tuple") rfl) pa_nil)))))
        (pw_or1 (pt_not (pt_val (pe_callB (cr_all rfl) (by rfl) T.all (by decide +kernel) (pa_cons
          (pe_lc (own := [("one", 2)]) (g := gName 2) (tt := tYes) rfl scClimb.nd (pi_tup (pv 0)) (blkOk_by (N := ["value", "many", "one", "at"]) (sc := defScope sClimb) (by decide +kernel))
            (fun _ _ _ _ _ => pg_name (i := 2) scClimb.nd rfl (Or.inl rfl)) (fun _ _ _ _ _ => pts_nil)
            (fun _ _ _ _ _ => by exact (pe_call G1 hr rfl D1.mg D1.fn.kp D1.bd .nil pass0 (pa_cons (pv 2) (pa_cons pe_int (pa_cons (pe_op op_sub (pv 1) pe_int) pa_nil))))))
          pa_nil)))))).pt pss_never pss_nil)
      (pss_one (ps_ret (pe_callB (cr_all rfl) (by rfl) T.all (by decide +kernel) (pa_cons
          (pe_lc (own := [("at", 3)]) (g := gName 3) (tt := tYes) rfl scClimb.nd (pi_range1 rfl T.rng (pa_cons (pe_op op_sub (pe_callB call_len_seq (by rfl) T.len PySem.boot_len (pa_cons (pv 0) pa_nil)) pe_int) pa_nil)) (blkOk_by (N := ["value", "many", "one", "at"]) (sc := defScope sClimb) (by decide +kernel))
            (fun _ _ _ _ _ => pg_name (i := 3) scClimb.nd rfl (Or.inl rfl)) (fun _ _ _ _ _ => pts_nil)
            (fun _ _ _ _ _ => by exact (pe_cmpR op_lt (pe_ix (r := rIxT K) (by exact ix_tup) (pv 0) (pv 3) (fun _ _ => rfl)) (pe_ix (r := rIxT K) (by exact ix_tup) (pv 0) (pe_op op_add (pv 3) pe_int) (fun _ _ => rfl)) (nomark _))))
          pa_nil)))), ?_⟩
    refine ⟨_, rfl, .ref ad, .ty "tuple", .type "tuple", .type "tuple", true, rfl, .ty _, tyX_tup hs, kit_ty (by decide +kernel), _, rfl, iteF ?_⟩
    refine ⟨_, rfl, ad, rfl, ⟨_, hs⟩, fun D hD => ?_⟩
    refine lc_gen walk_tup K (fun _ => PyData.bool true) (fun _ => true) (fun _ => rfl) hD (by rw [List.length_map, iN_len]; exact small1000 (by have := R.len; omega)) (fun H2 s2 => seqT s2 hs) ?_ yAt_same ?_
    · rintro i x H2 H3 RR SS hi s2 ⟨rfl, hx⟩ ky ks
      obtain ⟨n, hn, rfl⟩ := iN_get' hx
      refine ⟨rfl, yes_el ?_⟩
      refine ⟨_, rfl, _, rfl, _, _, rfl, rfl, (n : Int), 0, (m : Int) - 1, rfl, ?_⟩
      have q : n < m := R.lt n (List.mem_of_getElem? hn)
      rw [decide_eq_true (by omega : (0 : Int) ≤ n), decide_eq_true (by omega : (n : Int) ≤ (m : Int) - 1)]
      exact ky rfl _ _ (Same.refl _) (.bl true)
    · intro H2 ys s2 hD2 hy
      have ey := trues_of hy
      subst ey
      refine ⟨D, _, rfl, SqL.of hD2, _, rfl, ?_⟩
      rw [all_trues]
      refine iteF ?_
      refine ⟨_, rfl, ad, _, rfl, .inr (seqT s2 hs), _, _, rfl, rfl, _, rfl, ?_⟩
      rw [List.length_map, iN_len]
      refine ⟨by have := R.len; omega, by have := R.len; omega, fun D2 hD3 => ?_⟩
      refine lc_gen walk_range K (fun _ => PyData.bool true) (fun _ => true) (fun _ => rfl) hD3 (small1000 (by have := R.len; omega)) (fun _ _ => trivial) ?_ yFn_same ?_
      · rintro i x H3 H4 RR SS hi s3 ⟨rfl, rfl⟩ ky ks
        have hi2 : i + 1 < r.length := by omega
        have e1 : r[i]? = some (r[i]'(by omega)) := by simp [show i < r.length by omega]
        have e2 : r[i + 1]? = some (r[i + 1]'hi2) := by simp [hi2]
        have q := asc_get R.asc e1 e2
        have hs4 := seqT s3 (seqT s2 hs)
        refine ⟨rfl, yes_el ?_⟩
        refine ⟨_, rfl, _, rfl, ad, _, _, _, rfl, rfl, hs4, at_of (j := i) (by omega) (iN_get e1), _, rfl, _, rfl, _, _, rfl, rfl, ad, _, _, _, rfl, rfl, hs4, at_of (j := i + 1) (by omega) (iN_get e2), _, _, rfl, rfl, ?_⟩
        have ed : decide (((r[i]'(by omega) : Nat) : Int) < ((r[i + 1]'hi2 : Nat) : Int)) = true := decide_eq_true (by omega)
        show RR (V.bl (decide (((r[i]'(by omega) : Nat) : Int) < ((r[i + 1]'hi2 : Nat) : Int)))) _
        rw [ed]
        exact ky rfl _ _ (Same.refl _) (.bl true)
      · intro H3 zs s3 hD4 hz
        have ez := trues_of hz
        subst ez
        refine ⟨D2, _, rfl, SqL.of hD4, ?_⟩
        rw [all_trues]
        exact k _ (s2.trans s3)
end
end K51
/-! is_tournament, check_tournament. -/
namespace K51
open PySem L2
theorem bt_row {t : Tour} {a : Nat} (ha : a < t.length) (c : Nat) : inV (.int c) ((iN (t[a]'ha)).map V.int) = bt t a c := by
  rw [inV_nat]
  unfold bt
  rw [List.getD_eq_getElem?_getD, List.getElem?_eq_getElem ha]
  rfl
section
variable {P : Program} {w : World} {K : PySem.W.Frag} {mg : Str → Option Value} {base : Heap} {f : Addr} {fd : FuncData}
def spIsT (K : PySem.W.Frag) : Sp := fun vs H Q _ => ∃ (v : V) (t : Tour), vs = [v] ∧ Dp K H v (tourD t) ∧ validT t = true ∧ ∀ H', Same H H' → Q (.bl true) H'
theorem scIsT : FnScope ["value", "one", "row", "other"] ["value"] (defScope sIsT) := ⟨rfl, rfl, rfl, by decide +kernel, rfl, by decide +kernel, by decide +kernel⟩
theorem ok_isT (T : Txt mg) (F : Fun K "is_tournament" "is_tournament" sIsT f fd) {f1 : Addr} {fd1 : FuncData} (D1 : Dfn K mg "is_climbing" sClimb ["value", "many"] f1 fd1)
    (G1 : FnOk P w K mg base CX0 2 f1 fd1 ["value", "many"] (spClimb K)) : FnOk P w K mg base CX0 3 f fd ["value"] (spIsT K) := by
  refine F.ok scIsT (fun vs H Q E h => ?_) (fun cdv A outer s H vs Q E hr h => ?_)
  · obtain ⟨v, t, rfl, _⟩ := h
    rfl
  · obtain ⟨v, t, rfl, hd, hv, k⟩ := h
    obtain ⟨ad, xs, rfl, hs, hx⟩ := tour_of hd
    have R := validT_of hv
    have hl : xs.length = t.length := by rw [dpAll_len hx, List.length_map]
    obtain ⟨tk, mt⟩ := T.m1
    refine ⟨_, pss_cons (ps_if (pw_or (pt_not (pt_val (pe_callB call_isi (by rfl) T.isi (by decide +kernel) (pa_cons (pv 0) (pa_cons (pe_bltn (by rfl) T.tup (by decide +kernel) (v := .ty "tuple") (u := .type "tuple") rfl) pa_nil)))))
        (pw_or1 (pt_not (pt_chain op_le op_le pe_int (pe_callB call_len_seq (by rfl) T.len PySem.boot_len (pa_cons (pv 0) pa_nil)) (pe_glob (by rfl) mt (v := .int 8) ⟨_, rfl⟩))))).pt pss_never pss_nil)
      (pss_cons (ps_if (pt_not (pt_val (pe_callB (cr_all rfl) (by rfl) T.all (by decide +kernel) (pa_cons
          (pe_lc (own := [("row", 2)]) (g := gName 2) (tt := tYes) rfl scIsT.nd (pi_tup (pv 0)) (blkOk_by (N := ["value", "one", "row", "other"]) (sc := defScope sIsT) (by decide +kernel))
            (fun _ _ _ _ _ => pg_name (i := 2) scIsT.nd rfl (Or.inl rfl)) (fun _ _ _ _ _ => pts_nil)
            (fun _ _ _ _ _ => by exact (pe_call G1 hr rfl D1.mg D1.fn.kp D1.bd .nil pass0 (pa_cons (pv 2) (pa_cons (pe_callB (r := fun xs H Q => ∃ p ys, xs = [.ref p] ∧ (SqL K H p ys ∨ SqT K H p ys) ∧ Q (.int ys.length) H) (by exact call_len_seq) (by rfl) T.len PySem.boot_len (pa_cons (pv 0) pa_nil)) pa_nil)))))
          pa_nil)))) pss_never pss_nil)
      (pss_cons (ps_for PassesOwn.never rfl (pi_range1 rfl T.rng (pa_cons (pe_callB call_len_seq (by rfl) T.len PySem.boot_len (pa_cons (pv 0) pa_nil)) pa_nil)) (pg_name (i := 1) scIsT.nd rfl (Or.inr rfl))
        (pss_one (ps_if (pw_or (pt_cmpR op_in_seq (pv 1) (pe_ix ix_tup (pv 0) (pv 1) (fun _ _ => rfl)) rfl)
          (pw_or1 (pt_not (pt_val (pe_callB (cr_all rfl) (by rfl) T.all (by decide +kernel) (pa_cons
            (pe_lc (own := [("other", 3)]) (g := gName 3) (tt := tYes) rfl scIsT.nd (pi_range1 (by rfl) T.rng (pa_cons (pv 1) pa_nil)) (blkOk_by (N := ["value", "one", "row", "other"]) (sc := defScope sIsT) (by decide +kernel))
              (fun _ _ _ _ _ => pg_name (i := 3) scIsT.nd rfl (Or.inl rfl)) (fun _ _ _ _ _ => pts_nil)
              (fun _ _ _ _ _ => by exact (pe_cmpR op_ne (pe_cmpR (r := rIn K false) (by exact op_in_seq) (pv 3) (pe_ix (r := rIxT K) (by exact ix_tup) (pv 0) (pv 1) (fun _ _ => rfl)) rfl)
                (pe_cmpR (r := rIn K false) (by exact op_in_seq) (pv 1) (pe_ix (r := rIxT K) (by exact ix_tup) (pv 0) (pv 3) (fun _ _ => rfl)) rfl) (nomark _))))
            pa_nil)))))).pt pss_never pss_nil)))
      (pss_one (ps_ret pe_bl)))), ?_⟩
    refine ⟨_, rfl, .ref ad, .ty "tuple", .type "tuple", .type "tuple", true, rfl, .ty _, tyX_tup hs, kit_ty (by decide +kernel), _, rfl, iteF ?_⟩
    refine ⟨_, rfl, ad, _, rfl, .inr hs, _, _, rfl, rfl, _, rfl, ?_⟩
    have e1 : decide ((1 : Int) ≤ (xs.length : Int)) = true := decide_eq_true (by have := R.one; omega)
    have e8 : decide ((xs.length : Int) ≤ (8 : Int)) = true := decide_eq_true (by have := R.len; omega)
    rw [e1]
    refine iteT ⟨_, _, rfl, rfl, _, rfl, ?_⟩
    show if (!decide ((xs.length : Int) ≤ (8 : Int))) = true then _ else _
    rw [e8]
    refine iteF ?_
    -- the rows
    refine ⟨_, rfl, ad, rfl, ⟨_, hs⟩, fun D hD => ?_⟩
    refine lc_gen walk_tup K (fun _ => PyData.bool true) (fun _ => true) (fun _ => rfl) hD (by rw [hl]; exact small1000 (by have := R.len; omega)) (fun H2 s2 => seqT s2 hs) ?_ yAt_same ?_
    · rintro i x H2 H3 RR SS hi s2 ⟨rfl, hxi⟩ ky ks
      have hi' : i < t.length := by omega
      have et : t[i]? = some (t[i]'hi') := List.getElem?_eq_getElem hi'
      obtain ⟨y, h1, h2⟩ := dpAll_get (i := i) (d := rowD (t[i]'hi')) hx (by rw [List.getElem?_map, et]; rfl)
      rw [hxi] at h1
      cases h1
      refine ⟨rfl, yes_el ?_⟩
      refine ⟨_, rfl, _, rfl, ad, _, rfl, .inr (seqT s2 hs), x, t[i]'hi', t.length, by rw [hl]; rfl, dp_ext s2 h2, R.row _ (List.getElem_mem hi'), fun H4 s4 => ?_⟩
      exact ky rfl _ _ s4 (.bl true)
    · intro H2 ys s2 hD2 hy
      have ey := trues_of hy
      subst ey
      refine ⟨D, _, rfl, SqL.of hD2, _, rfl, ?_⟩
      rw [all_trues]
      refine iteF ?_
      refine ⟨_, rfl, ad, _, rfl, .inr (seqT s2 hs), _, rfl, by have := R.len; omega, by have := R.len; omega, ?_⟩
      rw [Int.toNat_natCast]
      refine for_range (fun i σ H' => Same H H' ∧ ∃ z : Option V, σ = [some (.ref ad), z, none, none]) ⟨s2, none, rfl⟩ ?_ ?_
      · rintro i σ H3 hi ⟨s3, z, rfl⟩
        have hi' : i < t.length := by omega
        have et : t[i]? = some (t[i]'hi') := List.getElem?_eq_getElem hi'
        obtain ⟨b, h1, h2⟩ := row_at hx et
        have hs3 := seqT s3 hs
        refine ⟨_, rfl, _, rfl, _, rfl, ad, _, _, _, rfl, rfl, hs3, at_of (j := i) (by omega) h1, b, _, rfl, .inr (seqT s3 h2), rfl, flat_ints _, _, rfl, ?_⟩
        have eb : inV (V.int (0 + (i : Int))) ((iN (t[i]'hi')).map V.int) = false := by
          rw [Int.zero_add, bt_row hi', R.self i hi']
        show if (inV (V.int (0 + (i : Int))) ((iN (t[i]'hi')).map V.int)) = true then _ else _
        rw [eb]
        refine iteF ?_
        refine ⟨_, rfl, _, rfl, by have := R.len; omega, by have := R.len; omega, fun D2 hD3 => ?_⟩
        have en : ((0 : Int) + (i : Int)).toNat = i := by omega
        rw [en]
        refine lc_gen walk_range K (fun _ => PyData.bool true) (fun _ => true) (fun _ => rfl) hD3 (small1000 (by have := R.len; omega)) (fun _ _ => trivial) ?_ yFn_same ?_
        · rintro j x H4 H5 RR SS hj s4 ⟨rfl, rfl⟩ ky ks
          have hj' : j < t.length := by omega
          have etj : t[j]? = some (t[j]'hj') := List.getElem?_eq_getElem hj'
          obtain ⟨b2, h3, h4⟩ := row_at hx etj
          have hs5 := seqT s4 hs3
          refine ⟨rfl, yes_el ?_⟩
          refine ⟨_, rfl, _, rfl, _, rfl, ad, _, _, _, rfl, rfl, hs5, at_of (j := i) (by omega) h1, b, _, rfl, .inr (seqT s4 (seqT s3 h2)), rfl, flat_ints _, ?_⟩
          refine ⟨_, rfl, _, rfl, _, rfl, ad, _, _, _, rfl, rfl, hs5, at_of (j := j) (by omega) h3, b2, _, rfl, .inr (seqT s4 (seqT s3 h4)), rfl, flat_ints _, rfl, ?_⟩
          have ev : (V.bl (!decide (V.bl (inV (V.int (0 + (j : Int))) ((iN (t[i]'hi')).map V.int)) = V.bl (inV (V.int (0 + (i : Int))) ((iN (t[j]'hj')).map V.int))))) = V.bl true := by
            rw [Int.zero_add, Int.zero_add, bt_row hi', bt_row hj']
            have q := R.pair i j hi' hj
            cases h5 : bt t i j <;> cases h6 : bt t j i <;> simp [h5, h6] at q ⊢
          show RR (V.bl (!decide (V.bl (inV (V.int (0 + (j : Int))) ((iN (t[i]'hi')).map V.int)) = V.bl (inV (V.int (0 + (i : Int))) ((iN (t[j]'hj')).map V.int))))) _
          rw [ev]
          exact ky rfl _ _ (Same.refl _) (.bl true)
        · intro H4 zs s4 hD4 hz
          have ez := trues_of hz
          subst ez
          refine ⟨D2, _, rfl, SqL.of hD4, _, rfl, ?_⟩
          rw [all_trues]
          exact iteF ⟨s3.trans s4, _, rfl⟩
      · rintro σ H3 ⟨s3, z, rfl⟩
        exact k _ s3
/-! ### check_tournament, of a tournament -/
def spCheckT (K : PySem.W.Frag) : Sp := fun vs H Q _ => ∃ (v : V) (t : Tour), vs = [v] ∧ Dp K H v (tourD t) ∧ validT t = true ∧ ∀ H', Same H H' → Q .non H'
theorem scCheckT : FnScope ["value"] ["value"] (defScope sCheckT) := ⟨rfl, rfl, rfl, by decide +kernel, rfl, by decide +kernel, by decide +kernel⟩
theorem ok_checkT (F : Fun K "check_tournament" "check_tournament" sCheckT f fd) {f1 : Addr} {fd1 : FuncData} (D1 : Dfn K mg "is_tournament" sIsT ["value"] f1 fd1)
    (G1 : FnOk P w K mg base CX0 3 f1 fd1 ["value"] (spIsT K)) : FnOk P w K mg base CX0 4 f fd ["value"] (spCheckT K) := by
  refine F.ok scCheckT (fun vs H Q E h => ?_) (fun cdv A outer s H vs Q E hr h => ?_)
  · obtain ⟨v, t, rfl, _⟩ := h
    rfl
  · obtain ⟨v, t, rfl, hd, hv, k⟩ := h
    refine ⟨_, pss_one (ps_if (pt_not (pt_val (pe_call G1 hr rfl D1.mg D1.fn.kp D1.bd .nil pass0 (pa_cons (pv 0) pa_nil)))) pss_never pss_nil), ?_⟩
    exact ⟨_, rfl, v, t, rfl, hd, hv, fun H' s' => ⟨_, rfl, iteF (k H' s')⟩⟩
end
end K51
/-! Rows that grow: a list of lists; tournament_by, _law_by_order. -/
namespace K51
open PySem L2
/-! ### sorting -/
theorem ins_perm (a : Nat) : ∀ l : List Nat, (ins a l).Perm (a :: l)
  | [] => List.Perm.refl _
  | b :: l => by
    unfold ins
    by_cases c : Nat.ble a b = true
    · rw [if_pos c]
    · rw [if_neg c]
      exact ((ins_perm a l).cons b).trans (List.Perm.swap a b l)
theorem isort_perm : ∀ l : List Nat, (isort l).Perm l
  | [] => List.Perm.refl _
  | a :: l => (ins_perm a (isort l)).trans ((isort_perm l).cons a)
theorem ins_sorted (a : Nat) : ∀ {l : List Nat}, l.Pairwise (· ≤ ·) → (ins a l).Pairwise (· ≤ ·)
  | [], _ => List.pairwise_singleton _ _
  | b :: l, h => by
    have q := List.pairwise_cons.mp h
    unfold ins
    by_cases c : Nat.ble a b = true
    · rw [if_pos c]
      have c' : a ≤ b := Nat.le_of_ble_eq_true c
      exact List.pairwise_cons.mpr ⟨fun x hx => by
        rcases List.mem_cons.mp hx with rfl | hx
        · exact c'
        · exact Nat.le_trans c' (q.1 x hx), h⟩
    · rw [if_neg c]
      have c' : ¬ a ≤ b := fun z => c (Nat.ble_eq_true_of_le z)
      refine List.pairwise_cons.mpr ⟨fun x hx => ?_, ins_sorted a q.2⟩
      rcases List.mem_cons.mp ((ins_perm a l).mem_iff.mp hx) with rfl | hx
      · omega
      · exact q.1 x hx
theorem isort_sorted : ∀ l : List Nat, (isort l).Pairwise (· ≤ ·)
  | [] => .nil
  | a :: l => ins_sorted a (isort_sorted l)
theorem sort_uniq {ns : List Int} {r : List Nat} (hp : ns.Perm (iN r)) (hs : ns.Pairwise (· ≤ ·)) : ns = iN (isort r) := by
  refine PySem.W.ksm_same (hp.trans ((isort_perm r).symm.map _)) hs ?_
  exact List.pairwise_map.mpr ((isort_sorted r).imp fun {a b} h => by omega)
/-! ### the rows -/
theorem push_len (rows : Tour) (p q : Nat) : (push rows p q).length = rows.length := List.length_set
theorem step_len (e : Ent) (rows : Tour) (f : Ent) : (step e rows f).length = rows.length := by
  unfold step
  by_cases c : (e.2 == f.2) = true
  · rw [if_pos c, push_len]
  · rw [if_neg c, push_len]
theorem push_most {rows : Tour} {n : Nat} (h : ∀ r ∈ rows, r.length ≤ n) (p q : Nat) : ∀ r ∈ push rows p q, r.length ≤ n + 1 := fun r hr => by
  unfold push at hr
  rcases List.mem_or_eq_of_mem_set hr with hr | rfl
  · have := h r hr; omega
  · rw [List.length_append, List.length_singleton, List.getD_eq_getElem?_getD]
    cases e : rows[p]? with
    | none => simp
    | some u =>
      have := h u (List.mem_of_getElem? e)
      simp only [Option.getD_some]
      omega
/-- new lists at ads, listed at R, hold the rows -/
structure RowsAt (H0 H : Hp) (R : Addr) (ads : List Addr) (rows : Tour) : Prop where
  same : Same H0 H
  free : H0 R = none
  at_ : H R = some (.lst (ads.map V.ref))
  len : ads.length = rows.length
  nd : ads.Nodup
  new : ∀ a ∈ ads, H0 a = none ∧ a ≠ R
  row : ∀ (i : Nat) (a : Addr) (r : List Nat), ads[i]? = some a → rows[i]? = some r → H a = some (.lst ((iN r).map V.int))
theorem RowsAt.ext {H0 H H1 : Hp} {R : Addr} {ads : List Addr} {rows : Tour} (h : RowsAt H0 H R ads rows) (e : Same H H1) : RowsAt H0 H1 R ads rows :=
  ⟨h.same.trans e, h.free, e _ _ h.at_, h.len, h.nd, h.new, fun i a r h1 h2 => e _ _ (h.row i a r h1 h2)⟩
theorem RowsAt.start {H : Hp} {R : Addr} (h : H R = none) : RowsAt H (upd H R (.lst [])) R [] [] :=
  ⟨same_new h, h, upd_same, rfl, List.nodup_nil, fun a ha => (by simp at ha), fun i a r h1 => (by simp at h1)⟩
theorem RowsAt.grow {H0 H : Hp} {R p : Addr} {ads : List Addr} {rows : Tour} (h : RowsAt H0 H R ads rows) (hp : H p = none) :
    RowsAt H0 (upd (upd H p (.lst [])) R (.lst (ads.map V.ref ++ [V.ref p]))) R (ads ++ [p]) (rows ++ [[]]) := by
  have hpR : p ≠ R := fun z => by rw [z, h.at_] at hp; cases hp
  have hp0 : H0 p = none := h.same.free hp
  have hnp : ∀ a ∈ ads, a ≠ p := fun a ha z => by
    obtain ⟨i, hi, e⟩ := List.mem_iff_getElem.mp ha
    have hi2 : i < rows.length := by rw [← h.len]; exact hi
    have q := h.row i a (rows[i]'hi2) (by rw [← e]; exact List.getElem?_eq_getElem hi) (List.getElem?_eq_getElem hi2)
    rw [z, hp] at q
    cases q
  refine ⟨fun b o e => ?_, h.free, ?_, by rw [List.length_append, List.length_append, h.len]; rfl, ?_, ?_, ?_⟩
  · rw [upd_ne (ne_of_none e h.free), upd_ne (ne_of_none e hp0)]
    exact h.same _ _ e
  · rw [upd_same, List.map_append]; rfl
  · exact List.nodup_append.mpr ⟨h.nd, List.nodup_cons.mpr ⟨by simp, List.nodup_nil⟩, fun a ha b hb => by
      have e : b = p := by simpa using hb
      subst e
      exact hnp a ha⟩
  · intro a ha
    rcases List.mem_append.mp ha with ha | ha
    · exact h.new a ha
    · have e : a = p := by simpa using ha
      subst e
      exact ⟨hp0, hpR⟩
  · intro i a r h1 h2
    by_cases hi : i < ads.length
    · rw [List.getElem?_append_left hi] at h1
      rw [List.getElem?_append_left (by rw [← h.len]; exact hi)] at h2
      have ha := List.mem_of_getElem? h1
      rw [upd_ne (h.new a ha).2, upd_ne (hnp a ha)]
      exact h.row i a r h1 h2
    · rw [List.getElem?_append_right (by omega)] at h1
      rw [List.getElem?_append_right (by rw [← h.len]; omega)] at h2
      rw [h.len] at h1
      have hz : i - rows.length = 0 := by
        have q : i - rows.length < [p].length := (List.getElem?_eq_some_iff.mp h1).1
        rw [List.length_singleton] at q
        omega
      rw [hz] at h1 h2
      have e1 : p = a := Option.some.inj h1
      have e2 : [] = r := Option.some.inj h2
      subst e1 e2
      rw [upd_ne hpR, upd_same]
      rfl
theorem RowsAt.push {H0 H : Hp} {R : Addr} {ads : List Addr} {rows : Tour} (h : RowsAt H0 H R ads rows) {p : Nat} (hp : p < rows.length) (q : Nat) :
    ∃ a r, (ads.map V.ref)[p]? = some (.ref a) ∧ r ∈ rows ∧ H a = some (.lst ((iN r).map V.int)) ∧ RowsAt H0 (upd H a (.lst ((iN r).map V.int ++ [V.int q]))) R ads (push rows p q) := by
  have hpa : p < ads.length := by rw [h.len]; exact hp
  have e1 : ads[p]? = some (ads[p]'hpa) := List.getElem?_eq_getElem hpa
  have e2 : rows[p]? = some (rows[p]'hp) := List.getElem?_eq_getElem hp
  have ha := h.row p _ _ e1 e2
  have hn := h.new _ (List.mem_of_getElem? e1)
  refine ⟨ads[p]'hpa, rows[p]'hp, by rw [List.getElem?_map, e1]; rfl, List.getElem_mem hp, ha, fun b o e => ?_, h.free, ?_, by rw [push_len]; exact h.len, h.nd, h.new, ?_⟩
  · rw [upd_ne (ne_of_none e hn.1)]
    exact h.same _ _ e
  · rw [upd_ne (Ne.symm hn.2)]
    exact h.at_
  · intro i a r h1 h2
    unfold K51.push at h2
    by_cases hi : i = p
    · subst hi
      rw [e1] at h1
      have ea : ads[i]'hpa = a := Option.some.inj h1
      rw [List.getElem?_set_self hp] at h2
      have er := Option.some.inj h2
      rw [← ea, ← er, upd_same, List.getD_eq_getElem?_getD, e2, iN_app, List.map_append]
      rfl
    · rw [List.getElem?_set_ne (Ne.symm hi)] at h2
      have hne : a ≠ ads[p]'hpa := fun z => hi (nd_ix h.nd h1 (by rw [z]; exact e1))
      rw [upd_ne hne]
      exact h.row i a r h1 h2
/-- every row of the list is read, sorted, made a tuple -/
theorem RowsAt.item {H0 H : Hp} {R : Addr} {ads : List Addr} {rows : Tour} (h : RowsAt H0 H R ads rows) {i : Nat} {x : V} (e : (ads.map V.ref)[i]? = some x) : ∃ a, x = .ref a ∧ i < rows.length ∧ H a = some (.lst ((iN (rows.getD i [])).map V.int)) := by
  rw [List.getElem?_map] at e
  cases q : ads[i]? with
  | none => rw [q] at e; cases e
  | some a =>
    rw [q] at e
    have hi : i < rows.length := by rw [← h.len]; exact (List.getElem?_eq_some_iff.mp q).1
    refine ⟨a, (Option.some.inj e).symm, hi, ?_⟩
    rw [List.getD_eq_getElem?_getD, List.getElem?_eq_getElem hi]
    exact h.row i a _ q (List.getElem?_eq_getElem hi)
theorem dataRows (rows : Tour) : (List.range rows.length).map (fun i => rowD (isort (rows.getD i []))) = (rows.map isort).map rowD := by
  refine List.ext_getElem? fun i => ?_
  rw [List.getElem?_map, List.getElem?_map, List.getElem?_map]
  by_cases h : i < rows.length
  · rw [List.getElem?_range h, List.getElem?_eq_getElem h]
    show some (rowD (isort (rows.getD i []))) = _
    rw [List.getD_eq_getElem?_getD, List.getElem?_eq_getElem h]; rfl
  · rw [List.getElem?_eq_none (by rw [List.length_range]; omega), List.getElem?_eq_none (by omega)]; rfl
end K51
/-! tournament_by, _law_by_order. -/
namespace K51
open PySem L2
def rTupOf (K : PySem.W.Frag) : List V → Hp → VK → Prop := fun xs H Q => ∃ p ys, xs = [.ref p] ∧ ((SqL K H p ys ∧ ∀ l, H l = none → Q (.ref l) (upd H l (.tup ys))) ∨ (SqT K H p ys ∧ Q (.ref p) H))
theorem cr_tupOf {X : Cx} : CallR X (.type "tuple") (rTupOf X.K) := call_tuple_of
/-- [[] for x in ..] -/
theorem lc_rows {J : It} {n : Nat} {G : Hp → Prop} {Y : Nat → Hp → V → Hp → Prop} (w : L2.Walk J n G Y) {g : TG} {vs : List Nat} {σ : St} {H1 : Hp} {D : Addr} {Qd : Hp → Prop} (hD : H1 D = none) (hn : n < sizeLine) (hG : ∀ H, Same H1 H → G H)
    (hY : ∀ i x H H', Y i H x H' → Same H H') (hg : ∀ x H' (R : St → Hp → Prop), (∀ σ2, wipe σ2 vs = wipe σ vs → R σ2 H') → g x (wipe σ vs) H' R)
    (hd : ∀ H ads, RowsAt H1 H D ads (List.replicate n []) → Qd H) :
    ∃ W : Nat → Nat → Hp → Prop, (∃ m, W 0 m (upd H1 D (.lst []))) ∧ ∀ i m H, W i m H →
      (J.stop i H ∧ Qd H) ∨ (J.go i H ∧ ∃ Nx : Hp → Prop, (∀ H', Nx H' → ∃ m', m' < m ∧ W (i + 1) m' H') ∧ ∀ x H', J.yld i H x H' → g x (wipe σ vs) H' fun σ2 H2 => wipe σ2 vs = wipe σ vs ∧ tYes σ2 H2 fun b H3 =>
        if b = true then tLst tNil σ2 H3 fun y H4 => ∃ acc, H4 D = some (.lst acc) ∧ acc.length < sizeLine ∧ Nx (upd H4 D (.lst (acc ++ [y]))) else Nx H3) := by
  refine lc_it w (fun i H => ∃ ads, RowsAt H1 H D ads (List.replicate i [])) ⟨[], RowsAt.start hD⟩ (fun i H _ ⟨_, q⟩ => hG H q.same) ?_ (fun H ⟨ads, q⟩ => hd H ads q)
  rintro i x H H' hi ⟨ads, q⟩ y
  have q' := q.ext (hY i x H H' y)
  refine hg x H' _ fun σ2 e => ⟨e, yes_el ?_⟩
  refine ⟨Nat.zero_le _, fun p hp => ?_⟩
  have hpD : D ≠ p := fun z => by rw [← z, q'.at_] at hp; cases hp
  refine ⟨ads.map V.ref, by rw [upd_ne hpD]; exact q'.at_, ?_, ads ++ [p], ?_⟩
  · rw [List.length_map, q'.len, List.length_replicate]; omega
  · rw [List.replicate_succ']
    exact q'.grow hp
/-- [tuple(sorted(row)) for row in rows] -/
theorem lc_sorted {K : PySem.W.Frag} {σ : St} {j : Nat} (hj : j < σ.length) {H0 H1 : Hp} {R D : Addr} {ads : List Addr} {rows : Tour} {Qd : Hp → Prop} (h : RowsAt H0 H1 R ads rows) (hl : rows.length < sizeLine) (hD : H1 D = none)
    (hd : ∀ H ys, Same H1 H → H D = some (.lst ys) → DpAll K H ys ((rows.map isort).map rowD) → Qd H) :
    ∃ W : Nat → Nat → Hp → Prop, (∃ m, W 0 m (upd H1 D (.lst []))) ∧ ∀ i m H, W i m H →
      ((Itl K R).stop i H ∧ Qd H) ∨ ((Itl K R).go i H ∧ ∃ Nx : Hp → Prop, (∀ H', Nx H' → ∃ m', m' < m ∧ W (i + 1) m' H') ∧ ∀ x H', (Itl K R).yld i H x H' → gName j x (wipe σ [j]) H' fun σ2 H2 => wipe σ2 [j] = wipe σ [j] ∧ tYes σ2 H2 fun b H3 =>
        if b = true then tCB (rTupOf K) (tCons (tCB (rSortedI K) (tCons (tVar j) tNil)) tNil) σ2 H3 fun y H4 => ∃ acc, H4 D = some (.lst acc) ∧ acc.length < sizeLine ∧ Nx (upd H4 D (.lst (acc ++ [y]))) else Nx H3) := by
  have hal : (ads.map V.ref).length = rows.length := by rw [List.length_map, h.len]
  refine lc_gen (walk_list (K := K) (a := R) (xs := ads.map V.ref)) K (fun i => rowD (isort (rows.getD i []))) (fun _ => true) (fun i => noL_row _) hD (by rw [hal]; exact hl) (fun H s => SqL.of (s _ _ h.at_)) ?_ yAt_same ?_
  · rintro i x H H' RR SS hi s ⟨rfl, hx⟩ ky ks
    obtain ⟨a, rfl, hi2, ha⟩ := (h.ext s).item hx
    have e1 : (((wipe σ [j]).set j (some (V.ref a))))[j]? = some (some (V.ref a)) := List.getElem?_set_self (by rw [wipe_length]; exact hj)
    refine ⟨?_, yes_el ?_⟩
    · show ((σ.set j none).set j (some (V.ref a))).set j none = σ.set j none
      rw [List.set_set, List.set_set]
    · refine ⟨_, e1, a, _, rfl, SqL.of ha, fun ns p hp hs hf => ?_⟩
      have en := sort_uniq hp hs
      subst en
      refine ⟨p, _, rfl, .inl ⟨SqL.of upd_same, fun l hl2 => ?_⟩⟩
      refine ky rfl _ _ ((same_new hf).trans (same_new hl2)) ?_
      exact .tup (SqT.of upd_same) (dpAll_ints _)
  · intro H ys s h1 h2
    rw [range_all, hal, dataRows] at h2
    exact hd H ys s h1 h2
section
variable {P : Program} {w : World} {K : PySem.W.Frag} {mg : Str → Option Value} {base : Heap} {f : Addr} {fd : FuncData}
structure OkOrd (m : Nat) (o : Ord) : Prop where
  len : o.length = m
  lt : ∀ e ∈ o, e.1 < m
theorem okOrd_of {m : Nat} {o : Ord} (h : okOrd m o = true) : OkOrd m o := by
  unfold okOrd at h
  rw [Bool.and_eq_true, List.all_eq_true] at h
  exact ⟨by simpa using h.1, fun e he => Nat.le_of_ble_eq_true (h.2 e he)⟩
theorem cut_from (xs : List V) (i : Nat) : cutV xs (some ((i : Int) + 1)) none = xs.drop (i + 1) := by
  unfold cutV
  have e : ((i : Int) + 1) = ((i + 1 : Nat) : Int) := by omega
  rw [e, HT.sIx_nat, HT.sIx_none]
  by_cases h : i + 1 ≤ xs.length
  · rw [Nat.min_eq_left h]
    exact List.take_of_length_le (by rw [List.length_drop]; omega)
  · rw [Nat.min_eq_right (by omega), List.drop_of_length_le (by omega : xs.length ≤ xs.length), List.drop_of_length_le (by omega : xs.length ≤ i + 1), List.take_nil]
theorem cut_not {xs : List V} {i : Nat} (h : i < xs.length) : ¬ (HT.sIx xs.length 0 (some ((i : Int) + 1)) = 0 ∧ HT.sIx xs.length xs.length none = xs.length) := fun q => by
  have e : ((i : Int) + 1) = ((i + 1 : Nat) : Int) := by omega
  have q1 := q.1
  rw [e, HT.sIx_nat] at q1
  omega
theorem bl_eq (a b : Bool) : decide (V.bl a = V.bl b) = (a == b) := by cases a <;> cases b <;> rfl
/-- the two ways of the inner turn, one appended -/
theorem step_T {e f : Ent} (h : (e.2 == f.2) = true) (rows : Tour) : step e rows f = push rows e.1 f.1 := by unfold step; rw [if_pos h]
theorem step_F {e f : Ent} (h : (e.2 == f.2) = false) (rows : Tour) : step e rows f = push rows f.1 e.1 := by
  unfold step
  rw [if_neg (by rw [h]; exact Bool.false_ne_true)]
def spBy (K : PySem.W.Frag) : Sp := fun vs H Q _ => ∃ (v : V) (o : Ord), vs = [v] ∧ Dp K H v (ordD o) ∧ okOrd o.length o = true ∧ o.length ≤ 8 ∧ ∀ H' u, Same H H' → Dp K H' u (tourD (byOrd o)) → Q u H'
abbrev nBy : List Str := ["order", "rows", "at", "player", "itself", "other", "alike", "entry", "row"]
theorem scBy : FnScope nBy ["order"] (defScope sBy) := ⟨rfl, rfl, rfl, by decide +kernel, rfl, by decide +kernel, by decide +kernel⟩
theorem ok_by (T : Txt mg) (F : Fun K "tournament_by" "tournament_by" sBy f fd) : FnOk P w K mg base CX0 1 f fd ["order"] (spBy K) := by
  refine F.ok scBy (fun vs H Q E h => ?_) (fun cdv A ou s H vs Q E hr h => ?_)
  · obtain ⟨v, o, rfl, _⟩ := h
    rfl
  · obtain ⟨v, o, rfl, hd, hok, h8, k⟩ := h
    obtain ⟨ad, xs, rfl, hs, hx⟩ := ord_of hd
    have R := okOrd_of hok
    have hl : xs.length = o.length := by rw [dpAll_len hx, List.length_map]
    refine ⟨_, pss_cons (ps_setLc (i := 1) (own := [("entry", 7)]) (g := gName 7) (tt := tYes) rfl scBy.nd rfl rfl (sw_true rfl rfl rfl (by decide +kernel)) (pi_tup (pv 0)) (blkOk_by (N := nBy) (sc := defScope sBy) (by decide +kernel))
        (fun _ _ _ _ _ => pg_name (i := 7) scBy.nd rfl (Or.inl rfl)) (fun _ _ _ _ _ => pts_nil) (fun _ _ _ _ _ => by exact (pe_lst pa_nil)))
      (pss_cons (ps_for PassesOwn.never rfl (pi_enumT rfl T.enm (pa_cons (pv 0) pa_nil))
          (pg_tup rfl (pgs_cons (pg_name (i := 2) scBy.nd rfl (Or.inl rfl)) (pgs_cons (pg_tup rfl (pgs_cons (pg_name (i := 3) scBy.nd rfl (Or.inl rfl)) (pgs_cons (pg_name (i := 4) scBy.nd rfl (Or.inl rfl)) pgs_nil))) pgs_nil)))
          (pss_one (ps_for PassesOwn.never rfl (pi_tup (pe_slice sl_tup (pv 0) (po_some (pe_op op_add (pv 2) pe_int)) po_none))
            (pg_tup rfl (pgs_cons (pg_name (i := 5) scBy.nd rfl (Or.inl rfl)) (pgs_cons (pg_name (i := 6) scBy.nd rfl (Or.inl rfl)) pgs_nil)))
            (pss_one (ps_if (pt_cmpR op_eq (pv 4) (pv 6) (nomark _))
              (pss_one (ps_expr (pe_bm PySem.F.plainAttrs_list PySem.F.slot_list_append PySem.F.type_list_append mt_append (pe_ix ix_list (pv 1) (pv 3) (fun _ _ => rfl)) (pa_cons (pv 5) pa_nil))))
              (pss_one (ps_expr (pe_bm PySem.F.plainAttrs_list PySem.F.slot_list_append PySem.F.type_list_append mt_append (pe_ix ix_list (pv 1) (pv 5) (fun _ _ => rfl)) (pa_cons (pv 3) pa_nil)))))))))
      (pss_one (ps_ret (pe_callTy cr_tupOf (by rfl) T.tup (by decide +kernel) (pa_cons
        (pe_lc (own := [("row", 8)]) (g := gName 8) (tt := tYes) rfl scBy.nd (pi_list (pv 1)) (blkOk_by (N := nBy) (sc := defScope sBy) (by decide +kernel))
          (fun _ _ _ _ _ => pg_name (i := 8) scBy.nd rfl (Or.inl rfl)) (fun _ _ _ _ _ => pts_nil)
          (fun _ _ _ _ _ => by exact (pe_callTy (r := rTupOf K) (by exact cr_tupOf) (by rfl) T.tup (by decide +kernel) (pa_cons (pe_callB (r := rSortedI K) (by exact cr_sortedI) (by rfl) T.srt (by decide +kernel) (pa_cons (pv 8) pa_nil)) pa_nil))))
        pa_nil))))), ?_⟩
    refine ⟨_, rfl, ad, rfl, ⟨_, hs⟩, fun D hD => ?_⟩
    refine lc_rows walk_tup hD (by rw [hl]; exact small1000 (by omega)) (fun H2 s2 => seqT s2 hs) yAt_same (fun x H' RR q => q _ rfl) fun H2 ads RA => ?_
    rw [hl] at RA
    refine ⟨_, rfl, ad, xs, rfl, seqT RA.same hs, for_it walk_enumT (fun i σ H' => ∃ (rows : Tour) (z2 z3 z4 z5 z6 : Option V), σ = [some (.ref ad), some (.ref D), z2, z3, z4, z5, z6, none, none] ∧
      RowsAt H H' D ads rows ∧ rows.length = o.length ∧ (∀ r ∈ rows, r.length ≤ 8 * i) ∧ outer (o.drop i) rows = outer o (List.replicate o.length []))
      ⟨_, none, none, none, none, none, rfl, RA, List.length_replicate, fun r hr => by rw [List.eq_of_mem_replicate hr]; exact Nat.zero_le _, rfl⟩ (fun i σ H3 _ ⟨_, _, _, _, _, _, _, q, _⟩ => seqT q.same hs) ?_ ?_⟩
    · rintro i x σ H3 H4 hi ⟨rows, z2, z3, z4, z5, z6, rfl, RB, hrl, hrm, hro⟩ ⟨T', x0, y0, rfl, hT, rfl, e0, hy⟩
      cases e0
      replace hy : xs[i]? = some y0 := hy
      have hio : i < o.length := by omega
      have eo : o[i]? = some (o[i]'hio) := List.getElem?_eq_getElem hio
      obtain ⟨b, h1, h2⟩ := ent_at hx eo
      rw [hy] at h1
      cases h1
      generalize o[i]'hio = e at eo h2
      have he1 : e.1 < o.length := R.lt e (List.mem_of_getElem? eo)
      have RC := RB.ext (same_new (o := .tup [.int (i : Nat), .ref b]) hT)
      refine ⟨T', _, rfl, SqT.of upd_same, rfl, _, _, rfl, _, _, rfl, b, _, rfl, seqT RC.same h2, rfl, _, _, rfl, _, _, rfl, rfl, rfl, ?_⟩
      refine ⟨_, rfl, _, rfl, _, _, rfl, rfl, _, rfl, ad, xs, rfl, seqT RC.same hs, cut_not hi, fun p hp => ?_⟩
      rw [cut_from]
      have RD := RC.ext (same_new (o := .tup (xs.drop (i + 1))) hp)
      have ed : o.drop i = e :: o.drop (i + 1) := by
        rw [List.drop_eq_getElem_cons hio]
        rw [List.getElem?_eq_getElem hio] at eo
        rw [Option.some.inj eo]
      have hl2 : (xs.drop (i + 1)).length = (o.drop (i + 1)).length := by rw [List.length_drop, List.length_drop, hl]
      have hl3 : (o.drop (i + 1)).length ≤ 8 := by rw [List.length_drop]; omega
      refine ⟨p, rfl, ⟨_, SqT.of upd_same⟩, for_it (walk_tup (K := K) (a := p) (xs := xs.drop (i + 1))) (fun j σ H' => ∃ (rows2 : Tour) (z5 z6 : Option V), σ = [some (.ref ad), some (.ref D), some (.int (i : Nat)), some (.int (e.1 : Nat)), some (.bl e.2), z5, z6, none, none] ∧
        RowsAt H H' D ads rows2 ∧ SqT K H' p (xs.drop (i + 1)) ∧ rows2.length = o.length ∧ (∀ r ∈ rows2, r.length ≤ 8 * i + j) ∧ inner e ((o.drop (i + 1)).drop j) rows2 = inner e (o.drop (i + 1)) rows)
        ⟨rows, z5, z6, rfl, RD, SqT.of upd_same, hrl, hrm, rfl⟩ (fun j σ H3 _ ⟨_, _, _, _, _, q, _⟩ => q) ?_ ?_⟩
      · rintro j x σ H5 H6 hj ⟨rows2, y5, y6, rfl, RE, hp2, hrl2, hrm2, hro2⟩ ⟨rfl, hxj⟩
        have hjo : j < (o.drop (i + 1)).length := by omega
        have eo2 : (o.drop (i + 1))[j]? = some ((o.drop (i + 1))[j]'hjo) := List.getElem?_eq_getElem hjo
        have hx2 : DpAll K H (xs.drop (i + 1)) ((o.drop (i + 1)).map entD) := by rw [List.map_drop]; exact dpAll_drop (i + 1) hx
        obtain ⟨c, h3, h4⟩ := ent_at hx2 eo2
        rw [hxj] at h3
        cases h3
        have edr : (o.drop (i + 1)).drop j = (o.drop (i + 1))[j]'hjo :: (o.drop (i + 1)).drop (j + 1) := List.drop_eq_getElem_cons hjo
        generalize (o.drop (i + 1))[j]'hjo = g at eo2 h4 edr
        have hg1 : g.1 < o.length := R.lt g (List.mem_of_mem_drop (List.mem_of_getElem? eo2))
        rw [edr] at hro2
        refine ⟨c, _, rfl, seqT RE.same h4, rfl, _, _, rfl, _, _, rfl, rfl, ?_⟩
        refine ⟨_, rfl, _, rfl, rfl, _, rfl, ?_⟩
        show if decide (V.bl e.2 = V.bl g.2) = true then _ else _
        rw [bl_eq]
        cases hc : (e.2 == g.2) with
        | true =>
          obtain ⟨a, r, p1, p2, p3, p4⟩ := RE.push (by rw [hrl2]; exact he1) g.1
          refine iteT ?_
          refine ⟨_, rfl, _, rfl, D, _, _, _, rfl, rfl, SqL.of RE.at_, atI_nat p1, .inl ⟨rfl, _, SqL.of p3⟩, _, rfl, a, _, _, rfl, rfl, p3, ?_, ?_⟩
          · rw [List.length_map, iN_len]
            exact small1000 (by have := hrm2 r p2; omega)
          · refine ⟨push rows2 e.1 g.1, _, _, rfl, p4, (Tups.put p3).seqT hp2, by rw [push_len]; exact hrl2, push_most hrm2 _ _, ?_⟩
            rw [← hro2]
            show _ = inner e _ (step e rows2 g)
            rw [step_T hc]
        | false =>
          obtain ⟨a, r, p1, p2, p3, p4⟩ := RE.push (by rw [hrl2]; exact hg1) e.1
          refine iteF ?_
          refine ⟨_, rfl, _, rfl, D, _, _, _, rfl, rfl, SqL.of RE.at_, atI_nat p1, .inl ⟨rfl, _, SqL.of p3⟩, _, rfl, a, _, _, rfl, rfl, p3, ?_, ?_⟩
          · rw [List.length_map, iN_len]
            exact small1000 (by have := hrm2 r p2; omega)
          · refine ⟨push rows2 g.1 e.1, _, _, rfl, p4, (Tups.put p3).seqT hp2, by rw [push_len]; exact hrl2, push_most hrm2 _ _, ?_⟩
            rw [← hro2]
            show _ = inner e _ (step e rows2 g)
            rw [step_F hc]
      · rintro σ H5 ⟨rows2, y5, y6, rfl, RE, hp2, hrl2, hrm2, hro2⟩
        refine ⟨rows2, _, _, _, _, _, rfl, RE, hrl2, fun r hr => ?_, ?_⟩
        · have := hrm2 r hr; omega
        · rw [hl2, List.drop_length] at hro2
          rw [← hro, ed]
          show _ = outer (o.drop (i + 1)) (inner e (o.drop (i + 1)) rows)
          rw [← hro2]
          rfl
    · rintro σ H3 ⟨rows, z2, z3, z4, z5, z6, rfl, RB, hrl, hrm, hro⟩
      rw [hl, List.drop_length] at hro
      have hro' : rows = outer o (List.replicate o.length []) := hro
      refine ⟨_, rfl, D, rfl, ⟨_, SqL.of RB.at_⟩, fun D2 hD2 => ?_⟩
      refine lc_sorted (K := K) (by show 8 < 9; decide) RB (by rw [hrl]; exact small1000 (by omega)) hD2 fun H4 ys s4 h5 h6 => ?_
      refine ⟨D2, _, rfl, .inl ⟨SqL.of h5, fun l hl4 => ?_⟩⟩
      refine k _ _ (RB.same.trans (s4.trans (same_new hl4))) ?_
      unfold byOrd
      rw [← hro']
      exact .tup (SqT.of upd_same) (dpAll_ext (same_new hl4) h6)
end
end K51
/-! _law_by_order. -/
namespace K51
open PySem L2
section
variable {P : Program} {w : World} {K : PySem.W.Frag} {mg : Str → Option Value} {base : Heap} {f : Addr} {fd : FuncData}
abbrev nLBy : List Str := ["_law_order_here", "_law_rows_here", "_law_k", "_law_j", "_law_one", "_law_other", "_law_entry", "_law_row"]
theorem scLBy : FnScope nLBy ["_law_order_here"] (defScope sLBy) := ⟨rfl, rfl, rfl, by decide +kernel, rfl, by decide +kernel, by decide +kernel⟩
theorem ok_lby (T : Txt mg) (F : Fun K "_law_by_order" "_law_by_order" sLBy f fd) : FnOk P w K mg base CX0 1 f fd ["_law_order_here"] (spBy K) := by
  refine F.ok scLBy (fun vs H Q E h => ?_) (fun cdv A ou s H vs Q E hr h => ?_)
  · obtain ⟨v, o, rfl, _⟩ := h
    rfl
  · obtain ⟨v, o, rfl, hd, hok, h8, k⟩ := h
    obtain ⟨ad, xs, rfl, hs, hx⟩ := ord_of hd
    have R := okOrd_of hok
    have hl : xs.length = o.length := by rw [dpAll_len hx, List.length_map]
    refine ⟨_, pss_cons (ps_setLc (i := 1) (own := [("_law_entry", 6)]) (g := gName 6) (tt := tYes) rfl scLBy.nd rfl rfl (sw_true rfl rfl rfl (by decide +kernel)) (pi_tup (pv 0)) (blkOk_by (N := nLBy) (sc := defScope sLBy) (by decide +kernel))
        (fun _ _ _ _ _ => pg_name (i := 6) scLBy.nd rfl (Or.inl rfl)) (fun _ _ _ _ _ => pts_nil) (fun _ _ _ _ _ => by exact (pe_lst pa_nil)))
      (pss_cons (ps_for PassesOwn.never rfl (pi_range1 rfl T.rng (pa_cons (pe_callB call_len_seq (by rfl) T.len PySem.boot_len (pa_cons (pv 0) pa_nil)) pa_nil)) (pg_name (i := 2) scLBy.nd rfl (Or.inl rfl))
          (pss_one (ps_for PassesOwn.never rfl (pi_range2 rfl T.rng (pa_cons (pe_op op_add (pv 2) pe_int) (pa_cons (pe_callB call_len_seq (by rfl) T.len PySem.boot_len (pa_cons (pv 0) pa_nil)) pa_nil))) (pg_name (i := 3) scLBy.nd rfl (Or.inl rfl))
            (pss_cons (ps_par (i := 4) (j := 5) rfl scLBy.nd rfl rfl (by decide) rfl rfl
                (pa_cons (pe_ix ix_tup (pe_ix ix_tup (pv 0) (pv 2) (fun _ _ => rfl)) pe_int (fun _ _ => rfl)) (pa_cons (pe_ix ix_tup (pe_ix ix_tup (pv 0) (pv 3) (fun _ _ => rfl)) pe_int (fun _ _ => rfl)) pa_nil)) (by rfl))
            (pss_one (ps_if (pt_cmpR op_eq (pe_ix ix_tup (pe_ix ix_tup (pv 0) (pv 2) (fun _ _ => rfl)) pe_int (fun _ _ => rfl)) (pe_ix ix_tup (pe_ix ix_tup (pv 0) (pv 3) (fun _ _ => rfl)) pe_int (fun _ _ => rfl)) (nomark _))
              (pss_one (ps_expr (pe_bm PySem.F.plainAttrs_list PySem.F.slot_list_append PySem.F.type_list_append mt_append (pe_ix ix_list (pv 1) (pv 4) (fun _ _ => rfl)) (pa_cons (pv 5) pa_nil))))
              (pss_one (ps_expr (pe_bm PySem.F.plainAttrs_list PySem.F.slot_list_append PySem.F.type_list_append mt_append (pe_ix ix_list (pv 1) (pv 5) (fun _ _ => rfl)) (pa_cons (pv 4) pa_nil))))))))))
      (pss_one (ps_ret (pe_callTy cr_tupOf (by rfl) T.tup (by decide +kernel) (pa_cons
        (pe_lc (own := [("_law_row", 7)]) (g := gName 7) (tt := tYes) rfl scLBy.nd (pi_list (pv 1)) (blkOk_by (N := nLBy) (sc := defScope sLBy) (by decide +kernel))
          (fun _ _ _ _ _ => pg_name (i := 7) scLBy.nd rfl (Or.inl rfl)) (fun _ _ _ _ _ => pts_nil)
          (fun _ _ _ _ _ => by exact (pe_callTy (r := rTupOf K) (by exact cr_tupOf) (by rfl) T.tup (by decide +kernel) (pa_cons (pe_callB (r := rSortedI K) (by exact cr_sortedI) (by rfl) T.srt (by decide +kernel) (pa_cons (pv 7) pa_nil)) pa_nil))))
        pa_nil))))), ?_⟩
    refine ⟨_, rfl, ad, rfl, ⟨_, hs⟩, fun D hD => ?_⟩
    refine lc_rows walk_tup hD (by rw [hl]; exact small1000 (by omega)) (fun H2 s2 => seqT s2 hs) yAt_same (fun x H' RR q => q _ rfl) fun H2 ads RA => ?_
    rw [hl] at RA
    refine ⟨_, rfl, ad, xs, rfl, .inr (seqT RA.same hs), (xs.length : Int), rfl, by omega, by omega, ?_⟩
    rw [Int.toNat_natCast]
    refine for_range (fun i σ H' => ∃ (rows : Tour) (z2 z3 z4 z5 : Option V), σ = [some (.ref ad), some (.ref D), z2, z3, z4, z5, none, none] ∧
      RowsAt H H' D ads rows ∧ rows.length = o.length ∧ (∀ r ∈ rows, r.length ≤ 8 * i) ∧ outer (o.drop i) rows = outer o (List.replicate o.length []))
      ⟨_, none, none, none, none, rfl, RA, List.length_replicate, fun r hr => by rw [List.eq_of_mem_replicate hr]; exact Nat.zero_le _, rfl⟩ ?_ ?_
    · rintro i σ H3 hi ⟨rows, z2, z3, z4, z5, rfl, RB, hrl, hrm, hro⟩
      have hio : i < o.length := by omega
      have eo : o[i]? = some (o[i]'hio) := List.getElem?_eq_getElem hio
      have ed : o.drop i = o[i]'hio :: o.drop (i + 1) := List.drop_eq_getElem_cons hio
      obtain ⟨b, h1, h2⟩ := ent_at hx eo
      generalize o[i]'hio = e at eo h2 ed
      have he1 : e.1 < o.length := R.lt e (List.mem_of_getElem? eo)
      have hl3 : (o.drop (i + 1)).length = o.length - (i + 1) := List.length_drop
      refine ⟨_, rfl, _, _, rfl, rfl, _, rfl, ad, xs, rfl, .inr (seqT RB.same hs), (0 + (i : Int)) + 1, (xs.length : Int), rfl, by omega, ?_⟩
      have en : ((xs.length : Int) - ((0 + (i : Int)) + 1)).toNat = (o.drop (i + 1)).length := by omega
      rw [en]
      refine for_range (fun j σ H' => ∃ (rows2 : Tour) (y3 y4 y5 : Option V), σ = [some (.ref ad), some (.ref D), some (.int (0 + (i : Int))), y3, y4, y5, none, none] ∧
        RowsAt H H' D ads rows2 ∧ rows2.length = o.length ∧ (∀ r ∈ rows2, r.length ≤ 8 * i + j) ∧ inner e ((o.drop (i + 1)).drop j) rows2 = inner e (o.drop (i + 1)) rows)
        ⟨rows, z3, z4, z5, rfl, RB, hrl, hrm, rfl⟩ ?_ ?_
      · rintro j σ H5 hj ⟨rows2, y3, y4, y5, rfl, RE, hrl2, hrm2, hro2⟩
        have hij : i + 1 + j < o.length := by omega
        have eo2 : (o.drop (i + 1))[j]? = some ((o.drop (i + 1))[j]'hj) := List.getElem?_eq_getElem hj
        have edr : (o.drop (i + 1)).drop j = (o.drop (i + 1))[j]'hj :: (o.drop (i + 1)).drop (j + 1) := List.drop_eq_getElem_cons hj
        have eo3 : o[i + 1 + j]? = some ((o.drop (i + 1))[j]'hj) := by rw [← eo2, List.getElem?_drop]
        obtain ⟨c, h3, h4⟩ := ent_at hx eo3
        generalize (o.drop (i + 1))[j]'hj = g at eo2 eo3 h4 edr
        have hg1 : g.1 < o.length := R.lt g (List.mem_of_getElem? eo3)
        rw [edr] at hro2
        have hs5 := seqT RE.same hs
        have h25 := seqT RE.same h2
        have h45 := seqT RE.same h4
        refine ⟨_, rfl, _, rfl, ad, xs, _, _, rfl, rfl, hs5, at_of (j := i) (by omega) h1, b, _, _, _, rfl, rfl, h25, atI_nat (j := 0) rfl, ?_⟩
        refine ⟨_, rfl, _, rfl, ad, xs, _, _, rfl, rfl, hs5, at_of (j := i + 1 + j) (by omega) h3, c, _, _, _, rfl, rfl, h45, atI_nat (j := 0) rfl, _, _, rfl, ?_⟩
        refine ⟨_, rfl, _, rfl, ad, xs, _, _, rfl, rfl, hs5, at_of (j := i) (by omega) h1, b, _, _, _, rfl, rfl, h25, atI_nat (j := 1) rfl, ?_⟩
        refine ⟨_, rfl, _, rfl, ad, xs, _, _, rfl, rfl, hs5, at_of (j := i + 1 + j) (by omega) h3, c, _, _, _, rfl, rfl, h45, atI_nat (j := 1) rfl, rfl, _, rfl, ?_⟩
        show if decide (V.bl e.2 = V.bl g.2) = true then _ else _
        rw [bl_eq]
        cases hc : (e.2 == g.2) with
        | true =>
          obtain ⟨a, r, p1, p2, p3, p4⟩ := RE.push (by rw [hrl2]; exact he1) g.1
          refine iteT ?_
          refine ⟨_, rfl, _, rfl, D, _, _, _, rfl, rfl, SqL.of RE.at_, atI_nat p1, .inl ⟨rfl, _, SqL.of p3⟩, _, rfl, a, _, _, rfl, rfl, p3, ?_, ?_⟩
          · rw [List.length_map, iN_len]
            exact small1000 (by have := hrm2 r p2; omega)
          · refine ⟨push rows2 e.1 g.1, _, _, _, rfl, p4, by rw [push_len]; exact hrl2, push_most hrm2 _ _, ?_⟩
            rw [← hro2]
            show _ = inner e _ (step e rows2 g)
            rw [step_T hc]
        | false =>
          obtain ⟨a, r, p1, p2, p3, p4⟩ := RE.push (by rw [hrl2]; exact hg1) e.1
          refine iteF ?_
          refine ⟨_, rfl, _, rfl, D, _, _, _, rfl, rfl, SqL.of RE.at_, atI_nat p1, .inl ⟨rfl, _, SqL.of p3⟩, _, rfl, a, _, _, rfl, rfl, p3, ?_, ?_⟩
          · rw [List.length_map, iN_len]
            exact small1000 (by have := hrm2 r p2; omega)
          · refine ⟨push rows2 g.1 e.1, _, _, _, rfl, p4, by rw [push_len]; exact hrl2, push_most hrm2 _ _, ?_⟩
            rw [← hro2]
            show _ = inner e _ (step e rows2 g)
            rw [step_F hc]
      · rintro σ H5 ⟨rows2, y3, y4, y5, rfl, RE, hrl2, hrm2, hro2⟩
        refine ⟨rows2, _, _, _, _, rfl, RE, hrl2, fun r hr => ?_, ?_⟩
        · have := hrm2 r hr; omega
        · rw [List.drop_length] at hro2
          rw [← hro, ed]
          show _ = outer (o.drop (i + 1)) (inner e (o.drop (i + 1)) rows)
          rw [← hro2]
          rfl
    · rintro σ H3 ⟨rows, z2, z3, z4, z5, rfl, RB, hrl, hrm, hro⟩
      rw [hl, List.drop_length] at hro
      have hro' : rows = outer o (List.replicate o.length []) := hro
      refine ⟨_, rfl, D, rfl, ⟨_, SqL.of RB.at_⟩, fun D2 hD2 => ?_⟩
      refine lc_sorted (K := K) (by show 7 < 8; decide) RB (by rw [hrl]; exact small1000 (by omega)) hD2 fun H4 ys s4 h5 h6 => ?_
      refine ⟨D2, _, rfl, .inl ⟨SqL.of h5, fun l hl4 => ?_⟩⟩
      refine k _ _ (RB.same.trans (s4.trans (same_new hl4))) ?_
      unfold byOrd
      rw [← hro']
      exact .tup (SqT.of upd_same) (dpAll_ext (same_new hl4) h6)
end
end K51
/-! Lists behind order_of; the data's equality. -/
namespace K51
open PySem L2
/-! ### equality of tournaments as data -/
theorem can_map {α : Type} (f : α → PyData) (hf : ∀ x, (f x).canLay0 = true) : ∀ l : List α, PyData.canLayAll0 (l.map f) = true
  | [] => by simp [PyData.canLayAll0]
  | x :: l => by
    rw [List.map_cons, PyData.canLayAll0, hf x, can_map f hf l]
    rfl
theorem depth_map {α : Type} (f : α → PyData) (n : Nat) (hf : ∀ x, (f x).depth ≤ n) : ∀ l : List α, PyData.depthAll (l.map f) ≤ n
  | [] => by simp [PyData.depthAll]
  | x :: l => by
    rw [List.map_cons, PyData.depthAll]
    have h1 := hf x
    have h2 := depth_map f n hf l
    omega
theorem can_row (r : List Nat) : (rowD r).canLay0 = true := by
  unfold rowD
  rw [PyData.canLay0]
  exact can_map _ (fun _ => by rw [PyData.canLay0]) _
theorem depth_row (r : List Nat) : (rowD r).depth ≤ 1 := by
  unfold rowD
  rw [PyData.depth]
  have h := depth_map PyData.int 0 (fun _ => by rw [PyData.depth]; exact Nat.le_refl _) (iN r)
  omega
theorem can_tour (t : Tour) : (tourD t).canLay0 = true := by
  unfold tourD
  rw [PyData.canLay0]
  exact can_map _ can_row _
theorem shaped_tour (t : Tour) : SeqAt.shaped (tourD t) = true := by
  unfold SeqAt.shaped
  rw [can_tour t]
  refine decide_eq_true ?_
  unfold tourD
  rw [PyData.depth]
  have h := depth_map rowD 1 depth_row t
  omega
theorem eqv_tour (t : Tour) : PyData.eqv (tourD t) (tourD t) = true := SeqAt.eqv_refl _ (can_tour t)
/-! ### a list by its places -/
theorem by_place {α β : Type} (l : List α) (d : α) (q : α → Bool) (φ : α → β) : ((List.range l.length).filter fun i => q (l.getD i d)).map (fun i => φ (l.getD i d)) = (l.filter q).map φ := by
  have e : (List.range l.length).map (fun i => l.getD i d) = l := by
    refine List.ext_getElem? fun i => ?_
    rw [List.getElem?_map]
    by_cases h : i < l.length
    · rw [List.getElem?_range h, List.getElem?_eq_getElem h]
      show some (l.getD i d) = _
      rw [List.getD_eq_getElem?_getD, List.getElem?_eq_getElem h]
      rfl
    · rw [List.getElem?_eq_none (by rw [List.length_range]; omega), List.getElem?_eq_none (by omega)]
      rfl
  have e2 : (l.filter q).map φ = (((List.range l.length).map (fun i => l.getD i d)).filter q).map φ := by rw [e]
  rw [e2, List.filter_map, List.map_map]
  rfl
theorem range1_eq (n : Nat) : List.range' 1 n = (List.range n).map fun i => 1 + i := by
  rw [List.range'_eq_map_range]
/-! ### sorting of pairs -/
def qN (p : Nat × Nat) : Int × Int := (p.1, p.2)
theorem pins_perm (a : Nat × Nat) : ∀ l : List (Nat × Nat), (pins a l).Perm (a :: l)
  | [] => List.Perm.refl _
  | b :: l => by
    unfold pins
    by_cases c : ple a b = true
    · rw [if_pos c]
    · rw [if_neg c]
      exact ((pins_perm a l).cons b).trans (List.Perm.swap a b l)
theorem psort_perm : ∀ l : List (Nat × Nat), (psort l).Perm l
  | [] => List.Perm.refl _
  | a :: l => (pins_perm a (psort l)).trans ((psort_perm l).cons a)
theorem ple_iff {a b : Nat × Nat} : ple a b = true ↔ a.1 < b.1 ∨ (a.1 = b.1 ∧ a.2 ≤ b.2) := by
  unfold ple
  rw [Bool.or_eq_true, Bool.and_eq_true]
  constructor
  · rintro (h | ⟨h1, h2⟩)
    · exact .inl (Nat.le_of_ble_eq_true h)
    · exact .inr ⟨by simpa using h1, Nat.le_of_ble_eq_true h2⟩
  · rintro (h | ⟨h1, h2⟩)
    · exact .inl (Nat.ble_eq_true_of_le h)
    · exact .inr ⟨by simpa using h1, Nat.ble_eq_true_of_le h2⟩
theorem pins_sorted (a : Nat × Nat) : ∀ {l : List (Nat × Nat)}, l.Pairwise (fun x y => ple x y = true) → (pins a l).Pairwise (fun x y => ple x y = true)
  | [], _ => List.pairwise_singleton _ _
  | b :: l, h => by
    have q := List.pairwise_cons.mp h
    unfold pins
    by_cases c : ple a b = true
    · rw [if_pos c]
      refine List.pairwise_cons.mpr ⟨fun x hx => ?_, h⟩
      rcases List.mem_cons.mp hx with rfl | hx
      · exact c
      · have q2 := ple_iff.mp (q.1 x hx)
        have c2 := ple_iff.mp c
        exact ple_iff.mpr (by omega)
    · rw [if_neg c]
      have c2 : ple b a = true := by
        have c' : ¬ (a.1 < b.1 ∨ (a.1 = b.1 ∧ a.2 ≤ b.2)) := fun z => c (ple_iff.mpr z)
        exact ple_iff.mpr (by omega)
      refine List.pairwise_cons.mpr ⟨fun x hx => ?_, pins_sorted a q.2⟩
      rcases List.mem_cons.mp ((pins_perm a l).mem_iff.mp hx) with rfl | hx
      · exact c2
      · exact q.1 x hx
theorem psort_sorted : ∀ l : List (Nat × Nat), (psort l).Pairwise (fun x y => ple x y = true)
  | [] => .nil
  | a :: l => pins_sorted a (psort_sorted l)
/-- what sorted(..) of pairs gives is the mirror's -/
theorem psort_uniq {k : V → Int × Int} {ys xs : List V} {ps : List (Nat × Nat)} (hs : SrtO.Srtd (ltP k) ys) (hb : ys.Perm xs) (e : xs.map k = ps.map qN) : ys.map k = (psort ps).map qN := by
  have hp : (ys.map k).Perm ((psort ps).map qN) := (hb.map k).trans (by rw [e]; exact (psort_perm ps).symm.map qN)
  have h1 : (ys.map k).Pairwise (fun p q => SrtO.lexB q p = false) := List.pairwise_map.mpr hs
  have h2 : ((psort ps).map qN).Pairwise (fun p q => SrtO.lexB q p = false) := List.pairwise_map.mpr ((psort_sorted ps).imp fun {a b} h => by
    have h' := ple_iff.mp h
    refine SrtO.lexB_no.mpr ?_
    show ¬ ((b.1 : Int) < (a.1 : Int) ∨ ((b.1 : Int) = (a.1 : Int) ∧ (b.2 : Int) < (a.2 : Int)))
    omega)
  refine hp.eq_of_pairwise (fun p q _ _ g1 g2 => ?_) h1 h2
  have g1' := SrtO.lexB_no.mp g1
  have g2' := SrtO.lexB_no.mp g2
  have e1 : p.1 = q.1 := by omega
  have e2 : p.2 = q.2 := by omega
  exact Prod.ext e1 e2
end K51
/-! order_of, of a tournament that its candidate order gives back. -/
namespace K51
open PySem L2
section
variable {P : Program} {w : World} {K : PySem.W.Frag} {mg : Str → Option Value} {base : Heap} {f : Addr} {fd : FuncData}
def spOrd (K : PySem.W.Frag) : Sp := fun vs H Q _ => ∃ (v : V) (t : Tour), vs = [v] ∧ Dp K H v (tourD t) ∧ 1 ≤ t.length ∧ t.length ≤ 8 ∧ okOrd t.length (cand t) = true ∧ byOrd (cand t) = t ∧
  ∀ H' u, Same H H' → Dp K H' u (ordD (cand t)) → Q u H'
abbrev nOrd : List Str := ["tournament", "many", "player", "signs", "places", "others", "ahead", "order", "other", "before"]
theorem scOrd : FnScope nOrd ["tournament"] (defScope sOrder) := ⟨rfl, rfl, rfl, by decide +kernel, rfl, by decide +kernel, by decide +kernel⟩
/-- new pairs of ints at tads -/
structure PairsAt (H : Hp) (tads : List Addr) (ps : List (Nat × Nat)) : Prop where
  len : tads.length = ps.length
  at_ : ∀ (j : Nat) (a : Addr) (p : Nat × Nat), tads[j]? = some a → ps[j]? = some p → H a = some (.tup [.int p.1, .int p.2])
theorem PairsAt.keep {H H' : Hp} {tads : List Addr} {ps : List (Nat × Nat)} (h : PairsAt H tads ps) (k : ∀ b xs, H b = some (.tup xs) → H' b = some (.tup xs)) : PairsAt H' tads ps := ⟨h.len, fun j a p h1 h2 => k _ _ (h.at_ j a p h1 h2)⟩
theorem PairsAt.snoc {H : Hp} {tads : List Addr} {ps : List (Nat × Nat)} (h : PairsAt H tads ps) {a : Addr} {p : Nat × Nat} (ha : H a = some (.tup [.int p.1, .int p.2])) : PairsAt H (tads ++ [a]) (ps ++ [p]) := by
  refine ⟨by rw [List.length_append, List.length_append, h.len]; rfl, fun j b q h1 h2 => ?_⟩
  by_cases hj : j < tads.length
  · rw [List.getElem?_append_left hj] at h1
    rw [List.getElem?_append_left (by rw [← h.len]; exact hj)] at h2
    exact h.at_ j b q h1 h2
  · rw [List.getElem?_append_right (by omega)] at h1
    rw [List.getElem?_append_right (by rw [← h.len]; omega)] at h2
    rw [h.len] at h1
    have hz : j - ps.length = 0 := by
      have q : j - ps.length < [a].length := (List.getElem?_eq_some_iff.mp h1).1
      rw [List.length_singleton] at q
      omega
    rw [hz] at h1 h2
    have e1 : a = b := Option.some.inj h1
    have e2 : p = q := Option.some.inj h2
    rw [← e1, ← e2]
    exact ha
theorem signs_at {t : Tour} {i : Nat} (h : i < t.length) : ((signs t).map V.bl)[i]? = some (V.bl ((signs t).getD i false)) := by
  have hl : i < (signs t).length := by unfold signs; rw [List.length_map, List.length_range]; exact h
  rw [List.getElem?_map, List.getD_eq_getElem?_getD, List.getElem?_eq_getElem hl]
  rfl
theorem signs_data (t : Tour) : (List.range t.length).map (fun i => PyData.bool (i == 0 || bt t 0 i)) = (signs t).map PyData.bool := by
  unfold signs
  rw [List.map_map]
  rfl
theorem others_data (m p : Nat) : ((List.range (m - 1)).filter fun j => 1 + j != p).map (fun j => PyData.int ((1 + j : Nat) : Int)) = (iN (others m p)).map PyData.int := by
  unfold others iN
  rw [range1_eq, List.filter_map, List.map_map, List.map_map]
  rfl
theorem others_lt {m p n : Nat} (h : n ∈ others m p) : n < m := by
  unfold others at h
  have q := (List.mem_filter.mp h).1
  have := List.mem_range'_1.mp q
  omega
theorem int_ne (a b : Nat) : (!decide (V.int (a : Int) = V.int (b : Int))) = (a != b) := by
  by_cases h : a = b
  · subst h; simp
  · have h2 : ¬ (V.int (a : Int) = V.int (b : Int)) := fun z => h (by injection z with z; omega)
    rw [decide_eq_false h2]
    simp [h]
/-- a pair's two ints, read off the heap -/
def kOf (H : Hp) : V → Int × Int
  | .ref t => match H t with
    | some (.tup [.int a, .int b]) => (a, b)
    | _ => (0, 0)
  | _ => (0, 0)
theorem kOf_at {H : Hp} {t : Addr} {a b : Int} (h : H t = some (.tup [.int a, .int b])) : kOf H (.ref t) = (a, b) := by
  show (match H t with | some (.tup [.int a, .int b]) => (a, b) | _ => (0, 0)) = (a, b)
  rw [h]
theorem PairsAt.mem {H : Hp} {tads : List Addr} {ps : List (Nat × Nat)} (h : PairsAt H tads ps) {x : V} (hx : x ∈ tads.map V.ref) : ∃ t, x = .ref t ∧ H t = some (.tup [.int (kOf H x).1, .int (kOf H x).2]) := by
  obtain ⟨a, ha, rfl⟩ := List.mem_map.mp hx
  obtain ⟨j, hj, e⟩ := List.mem_iff_getElem.mp ha
  have hj2 : j < ps.length := by rw [← h.len]; exact hj
  have q := h.at_ j a (ps[j]'hj2) (by rw [← e]; exact List.getElem?_eq_getElem hj) (List.getElem?_eq_getElem hj2)
  refine ⟨a, rfl, ?_⟩
  rw [kOf_at q]
  exact q
theorem PairsAt.keys {H : Hp} {tads : List Addr} {ps : List (Nat × Nat)} (h : PairsAt H tads ps) : (tads.map V.ref).map (kOf H) = ps.map qN := by
  refine List.ext_getElem? fun j => ?_
  rw [List.getElem?_map, List.getElem?_map, List.getElem?_map]
  by_cases hj : j < tads.length
  · have hj2 : j < ps.length := by rw [← h.len]; exact hj
    have q := h.at_ j _ _ (List.getElem?_eq_getElem hj) (List.getElem?_eq_getElem hj2)
    rw [List.getElem?_eq_getElem hj, List.getElem?_eq_getElem hj2]
    show some (kOf H (.ref _)) = some (qN _)
    rw [kOf_at q]
    rfl
  · rw [List.getElem?_eq_none (by omega), List.getElem?_eq_none (by rw [← h.len]; omega)]
    rfl
theorem ok_ord (T : Txt mg) (F : Fun K "order_of" "order_of" sOrder f fd) {f1 f2 : Addr} {fd1 fd2 : FuncData} (D1 : Dfn K mg "beats" sBeats ["tournament", "one", "other"] f1 fd1) (D2 : Dfn K mg "tournament_by" sBy ["order"] f2 fd2)
    (G1 : FnOk P w K mg base CX0 1 f1 fd1 ["tournament", "one", "other"] (spBeats K)) (G2 : FnOk P w K mg base CX0 1 f2 fd2 ["order"] (spBy K)) : FnOk P w K mg base CX0 2 f fd ["tournament"] (spOrd K) := by
  refine F.ok scOrd (fun vs H Q E h => ?_) (fun cdv A ou s H vs Q E hr h => ?_)
  · obtain ⟨v, t, rfl, _⟩ := h
    rfl
  · obtain ⟨v, t, rfl, hd, h1, h8, hok, hby, k⟩ := h
    obtain ⟨ad, xs, rfl, hs, hx⟩ := tour_of hd
    have hl : xs.length = t.length := by rw [dpAll_len hx, List.length_map]
    refine ⟨_, pss_cons (ps_set (i := 1) scOrd.nd rfl (Or.inl rfl) (pe_callB call_len_seq (by rfl) T.len PySem.boot_len (pa_cons (pv 0) pa_nil)))
      (pss_cons (ps_set (i := 3) scOrd.nd rfl (Or.inr rfl) (pe_lc (own := [("player", 2)]) (g := gName 2) (tt := tYes) rfl scOrd.nd (pi_range1 rfl T.rng (pa_cons (pv 1) pa_nil)) (blkOk_by (N := nOrd) (sc := defScope sOrder) (by decide +kernel))
          (fun _ _ _ _ _ => pg_name (i := 2) scOrd.nd rfl (Or.inl rfl)) (fun _ _ _ _ _ => pts_nil)
          (fun _ _ _ _ _ => by exact (pe_or (pe_cmpR op_eq (pv 2) pe_int (nomark _)) (pe_one (pe_call G1 hr rfl D1.mg D1.fn.kp D1.bd .nil pass0 (pa_cons (pv 0) (pa_cons pe_int (pa_cons (pv 2) pa_nil)))))))))
      (pss_cons (ps_set (i := 4) scOrd.nd rfl (Or.inl rfl) (pe_lst pa_nil))
      (pss_cons (ps_for PassesOwn.never rfl (pi_range2 rfl T.rng (pa_cons pe_int (pa_cons (pv 1) pa_nil))) (pg_name (i := 2) scOrd.nd rfl (Or.inr rfl))
          (pss_cons (ps_setLc (i := 5) (own := [("other", 8)]) (g := gName 8) rfl scOrd.nd rfl rfl (sw_true rfl rfl rfl (by decide +kernel)) (pi_range2 rfl T.rng (pa_cons pe_int (pa_cons (pv 1) pa_nil))) (blkOk_by (N := nOrd) (sc := defScope sOrder) (by decide +kernel))
              (fun _ _ _ _ _ => pg_name (i := 8) scOrd.nd rfl (Or.inl rfl)) (fun _ _ _ _ _ => pts_one (by exact (pt_cmpR op_ne (pv 8) (pv 2) (nomark _)))) (fun _ _ _ _ _ => by exact (pv 8)))
          (pss_cons (ps_setLc (i := 6) (own := [("other", 8)]) (g := gName 8) rfl scOrd.nd rfl rfl (sw_true rfl rfl rfl (by decide +kernel)) (pi_list (pv 5)) (blkOk_by (N := nOrd) (sc := defScope sOrder) (by decide +kernel))
              (fun _ _ _ _ _ => pg_name (i := 8) scOrd.nd rfl (Or.inl rfl))
              (fun _ _ _ _ _ => pts_one (by exact (pt_cmpR op_eq (pe_call G1 hr rfl D1.mg D1.fn.kp D1.bd .nil pass0 (pa_cons (pv 0) (pa_cons (pv 2) (pa_cons (pv 8) pa_nil))))
                (pe_cmpR op_eq (pe_ix (r := rIxL K) (by exact ix_list) (pv 3) (pv 2) (fun _ _ => rfl)) (pe_ix (r := rIxL K) (by exact ix_list) (pv 3) (pv 8) (fun _ _ => rfl)) (nomark _)) (nomark _))))
              (fun _ _ _ _ _ => by exact (pv 8)))
          (pss_one (ps_expr (pe_bm PySem.F.plainAttrs_list PySem.F.slot_list_append PySem.F.type_list_append mt_append (pv 4)
            (pa_cons (pe_tup (pa_cons (pe_op op_sub (pe_callB call_len_seq (by rfl) T.len PySem.boot_len (pa_cons (pv 5) pa_nil)) (pe_callB call_len_seq (by rfl) T.len PySem.boot_len (pa_cons (pv 6) pa_nil))) (pa_cons (pv 2) pa_nil))) pa_nil)))))))
      (pss_cons (ps_set (i := 7) scOrd.nd rfl (Or.inl rfl) (pe_op op_catA (pe_tup (pa_cons (pe_tup (pa_cons pe_int (pa_cons pe_bl pa_nil))) pa_nil)) (pe_callTy cr_tupOf (by rfl) T.tup (by decide +kernel) (pa_cons
          (pe_lc (own := [("before", 9), ("player", 2)]) (g := gTup K 2 (gCons (gName 9) (gCons (gName 2) gNil))) (tt := tYes) rfl scOrd.nd (pi_list (pe_callB cr_sortedPO (by rfl) T.srt (by decide +kernel) (pa_cons (pv 4) pa_nil))) (blkOk_by (N := nOrd) (sc := defScope sOrder) (by decide +kernel))
            (fun _ _ _ _ _ => by exact (pg_tup rfl (pgs_cons (pg_name (i := 9) scOrd.nd rfl (Or.inl rfl)) (pgs_cons (pg_name (i := 2) scOrd.nd rfl (Or.inl rfl)) pgs_nil)))) (fun _ _ _ _ _ => pts_nil)
            (fun _ _ _ _ _ => by exact (pe_tup (pa_cons (pv 2) (pa_cons (pe_ix (r := rIxL K) (by exact ix_list) (pv 3) (pv 2) (fun _ _ => rfl)) pa_nil)))))
          pa_nil))))
      (pss_one (ps_ret (pe_ifExp (pt_cmpR (op_eqD hr.units) (pe_call G2 hr rfl D2.mg D2.fn.kp D2.bd .nil pass0 (pa_cons (pv 7) pa_nil)) (pv 0) (nomark _)) (pv 7) pe_non))))))), ?_⟩
    refine ⟨_, rfl, ad, xs, rfl, .inr hs, ?_⟩
    rw [hl]
    -- signs
    refine ⟨_, rfl, (t.length : Int), rfl, by omega, by omega, fun S hS => ?_⟩
    rw [Int.toNat_natCast]
    refine lc_gen walk_range K (fun i => PyData.bool (i == 0 || bt t 0 i)) (fun _ => true) (fun _ => rfl) hS (small1000 (by omega)) (fun _ _ => trivial) ?_ yFn_same ?_
    · rintro i x H2 H3 RR SS hi s2 ⟨rfl, rfl⟩ ky ks
      have ez : (0 : Int) + (i : Int) = (i : Int) := Int.zero_add _
      show gName 2 (V.int ((0 : Int) + (i : Int))) _ _ _
      rw [ez]
      refine ⟨rfl, yes_el ?_⟩
      refine ⟨_, rfl, rfl, _, rfl, ?_⟩
      by_cases c : i = 0
      · subst c
        have ed : decide (V.int ((0 : Nat) : Int) = V.int 0) = true := decide_eq_true rfl
        rw [ed]
        exact iteT (ky rfl _ _ (Same.refl _) (.bl true))
      · have ed : decide (V.int (i : Int) = V.int 0) = false := decide_eq_false fun z => c (by injection z with z; omega)
        rw [ed]
        refine iteF ⟨_, rfl, _, rfl, .ref ad, t, 0, i, rfl, dp_ext s2 hd, by omega, ?_⟩
        refine ky rfl _ _ (Same.refl _) ?_
        have eb : (i == 0 || bt t 0 i) = bt t 0 i := by simp [c]
        rw [eb]
        exact .bl _
    intro H2 ys s2 hS2 hys
    rw [range_all, signs_data] at hys
    have eys := bools_of hys
    subst eys
    -- places = []
    refine ⟨Nat.zero_le _, fun L hL => ?_⟩
    have hSL : S ≠ L := fun z => by rw [z, hL] at hS2; cases hS2
    have hL0 : H L = none := s2.free hL
    refine ⟨_, rfl, 1, (t.length : Int), rfl, by omega, ?_⟩
    have en : ((t.length : Int) - 1).toNat = t.length - 1 := by omega
    rw [en]
    refine for_range (fun i σ H' => ∃ (z2 z5 z6 : Option V) (tads : List Addr), σ = [some (.ref ad), some (.int (t.length : Nat)), z2, some (.ref S), some (.ref L), z5, z6, none, none, none] ∧
      Same H H' ∧ H' S = some (.lst ((signs t).map V.bl)) ∧ H' L = some (.lst (tads.map V.ref)) ∧ PairsAt H' tads ((List.range' 1 i).map (place t (signs t))))
      ⟨none, none, none, [], rfl, s2.trans (same_new hL), by rw [upd_ne hSL]; exact hS2, upd_same, rfl, fun j a p h => by simp at h⟩ ?_ ?_
    · rintro i σ H3 hi ⟨z2, z5, z6, tads, rfl, s3, hS3, hL3, hP3⟩
      have ez : (1 : Int) + (i : Int) = ((1 + i : Nat) : Int) := by omega
      rw [ez]
      have hpl : 1 + i < t.length := by omega
      generalize hpe : 1 + i = pl at hpl
      -- others
      refine ⟨_, rfl, 1, (t.length : Int), rfl, by omega, fun D5 hD5 => ?_⟩
      rw [en]
      refine lc_gen walk_range K (fun j => PyData.int ((1 + j : Nat) : Int)) (fun j => 1 + j != pl) (fun _ => rfl) hD5 (small1000 (by omega)) (fun _ _ => trivial) ?_ yFn_same ?_
      · rintro j x H4 H5 RR SS hj s4 ⟨rfl, rfl⟩ ky ks
        have ez : (1 : Int) + (j : Int) = ((1 + j : Nat) : Int) := by omega
        show gName 8 (V.int ((1 : Int) + (j : Int))) _ _ _
        rw [ez]
        refine ⟨rfl, _, rfl, _, rfl, rfl, _, rfl, ?_⟩
        rw [int_ne]
        cases hc : (1 + j != pl) with
        | true => exact iteT ⟨_, rfl, ky hc _ _ (Same.refl _) (.int _)⟩
        | false => exact iteF (ks hc _ (Same.refl _))
      intro H4 yo s4 hD54 hyo
      rw [others_data] at hyo
      have eyo := ints_of_dpAll hyo
      subst eyo
      have hoth : ∀ n ∈ others t.length pl, n < t.length := fun n hn => others_lt hn
      have holen : (others t.length pl).length ≤ 8 := by
        have q : (others t.length pl).length ≤ (List.range' 1 (t.length - 1)).length := List.length_filter_le ..
        rw [List.length_range'] at q
        omega
      -- ahead
      refine ⟨_, rfl, D5, rfl, ⟨_, SqL.of hD54⟩, fun D6 hD6 => ?_⟩
      refine lc_gen (walk_list (K := K) (a := D5) (xs := (iN (others t.length pl)).map V.int)) K (fun j => PyData.int (((others t.length pl).getD j 0 : Nat) : Int))
        (fun j => bt t pl ((others t.length pl).getD j 0) == ((signs t).getD pl false == (signs t).getD ((others t.length pl).getD j 0) false)) (fun _ => rfl) hD6
        (by rw [List.length_map, iN_len]; exact small1000 (by omega)) (fun H5 s5 => SqL.of (s5 _ _ hD54)) ?_ yAt_same ?_
      · rintro j x H5 H6 RR SS hj s5 ⟨rfl, hxj⟩ ky ks
        obtain ⟨n, hn, rfl⟩ := iN_get' hxj
        have hnt : n < t.length := hoth n (List.mem_of_getElem? hn)
        have eg : (others t.length pl).getD j 0 = n := by rw [List.getD_eq_getElem?_getD, hn]; rfl
        rw [eg] at ky ks
        have hS5 : H6 S = some (.lst ((signs t).map V.bl)) := s5 _ _ (s4 _ _ hS3)
        refine ⟨rfl, _, rfl, _, rfl, _, rfl, .ref ad, t, pl, n, rfl, dp_ext s5 (dp_ext s4 (dp_ext s3 hd)), hpl, ?_⟩
        refine ⟨_, rfl, _, rfl, S, _, _, _, rfl, rfl, SqL.of hS5, atI_nat (signs_at hpl), ?_⟩
        refine ⟨_, rfl, _, rfl, S, _, _, _, rfl, rfl, SqL.of hS5, atI_nat (signs_at hnt), rfl, rfl, _, rfl, ?_⟩
        rw [bl_eq, bl_eq]
        cases hc : (bt t pl n == ((signs t).getD pl false == (signs t).getD n false)) with
        | true => exact iteT ⟨_, rfl, ky hc _ _ (Same.refl _) (.int _)⟩
        | false => exact iteF (ks hc _ (Same.refl _))
      intro H5 ya s5 hD65 hya
      have e0 : ((iN (others t.length pl)).map V.int).length = (others t.length pl).length := by rw [List.length_map, iN_len]
      rw [e0, by_place (others t.length pl) 0 (fun q => bt t pl q == ((signs t).getD pl false == (signs t).getD q false)) (fun q => PyData.int ((q : Nat) : Int))] at hya
      have hyl : ya.length = (ahead t (signs t) pl).length := by
        rw [dpAll_len hya, List.length_map]
        rfl
      have hale : (ahead t (signs t) pl).length ≤ (others t.length pl).length := List.length_filter_le ..
      -- places.append(..)
      have hL5 : H5 L = some (.lst (tads.map V.ref)) := s5 _ _ (s4 _ _ hL3)
      have hLn : (tads.map V.ref).length = i := by rw [List.length_map, hP3.len, List.length_map, List.length_range']
      refine ⟨_, rfl, .inl ⟨rfl, _, SqL.of hL5⟩, _, rfl, D5, _, rfl, .inl (SqL.of (s5 _ _ hD54)), _, rfl, D6, _, rfl, .inl (SqL.of hD65), _, _, rfl, rfl, _, rfl, by show 2 ≤ sizeLine; decide, fun tp htp => ?_⟩
      rw [e0, hyl]
      have hLt : L ≠ tp := fun z => by rw [z, htp] at hL5; cases hL5
      have hSt : S ≠ tp := fun z => by
        have q := s5 _ _ (s4 _ _ hS3)
        rw [z, htp] at q; cases q
      refine ⟨L, _, _, rfl, rfl, by rw [upd_ne hLt]; exact hL5, by rw [hLn]; exact small1000 (by omega), ?_⟩
      have st : Same H5 (upd H5 tp (.tup [.int (((others t.length pl).length : Int) - ((ahead t (signs t) pl).length : Int)), .int (pl : Int)])) := same_new htp
      have keepT : ∀ b xs, (upd H5 tp (.tup [.int (((others t.length pl).length : Int) - ((ahead t (signs t) pl).length : Int)), .int (pl : Int)])) b = some (.tup xs) →
          (upd (upd H5 tp (.tup [.int (((others t.length pl).length : Int) - ((ahead t (signs t) pl).length : Int)), .int (pl : Int)])) L (.lst (tads.map V.ref ++ [V.ref tp]))) b = some (.tup xs) := fun b xs q => by
        have hb : b ≠ L := fun z => by rw [z, upd_ne hLt, hL5] at q; cases q
        rw [upd_ne hb]; exact q
      refine ⟨some (.int (pl : Int)), some (.ref D5), some (.ref D6), tads ++ [tp], rfl, ?_, ?_, ?_, ?_⟩
      · intro b o q
        have hb : b ≠ L := fun z => by rw [z, hL0] at q; cases q
        rw [upd_ne hb]
        exact st _ _ (s5 _ _ (s4 _ _ (s3 _ _ q)))
      · have hSL2 : S ≠ L := hSL
        rw [upd_ne hSL2]
        exact st _ _ (s5 _ _ (s4 _ _ hS3))
      · rw [upd_same, List.map_append]; rfl
      · have er : (List.range' 1 (i + 1)).map (place t (signs t)) = (List.range' 1 i).map (place t (signs t)) ++ [place t (signs t) pl] := by
          rw [List.range'_1_concat, List.map_append, ← hpe]; rfl
        rw [er]
        refine PairsAt.snoc (PairsAt.keep (PairsAt.keep hP3 fun b xs q => st _ _ (s5 _ _ (s4 _ _ q))) keepT) ?_
        rw [upd_ne (Ne.symm hLt), upd_same]
        have e1 : ((others t.length pl).length : Int) - ((ahead t (signs t) pl).length : Int) = (((others t.length pl).length - (ahead t (signs t) pl).length : Nat) : Int) := by omega
        rw [e1]
        rfl
    · rintro σ H3 ⟨z2, z5, z6, tads, rfl, s3, hS3, hL3, hP3⟩
      have hsg : ∀ n, n < t.length → ((signs t).map V.bl)[n]? = some (V.bl ((signs t).getD n false)) := fun n hn => signs_at hn
      have ecand : cand t = (0, true) :: (psort ((List.range' 1 (t.length - 1)).map (place t (signs t)))).map (fun q => (q.2, (signs t).getD q.2 false)) := rfl
      have hplt : ∀ q ∈ psort ((List.range' 1 (t.length - 1)).map (place t (signs t))), q.2 < t.length := fun q hq => by
        obtain ⟨p, hp, rfl⟩ := List.mem_map.mp ((psort_perm _).mem_iff.mp hq)
        have := List.mem_range'_1.mp hp
        show p < _
        omega
      have hpsl : (psort ((List.range' 1 (t.length - 1)).map (place t (signs t)))).length = t.length - 1 := by
        rw [(psort_perm _).length_eq, List.length_map, List.length_range']
      generalize (List.range' 1 (t.length - 1)).map (place t (signs t)) = ps at hP3 ecand hplt hpsl
      refine ⟨by show 2 ≤ sizeLine; decide, fun p1 hp1 => ⟨by show 1 ≤ sizeLine; decide, fun p2 hp2 => ?_⟩⟩
      have st1 := same_new (o := .tup [.int 0, .bl true]) hp1
      have st2 := same_new (o := .tup [.ref p1]) hp2
      have s4 := st1.trans st2
      have hp12 : (upd (upd H3 p1 (.tup [.int 0, .bl true])) p2 (.tup [.ref p1])) p1 = some (.tup [.int 0, .bl true]) := st2 _ _ upd_same
      have hp22 : (upd (upd H3 p1 (.tup [.int 0, .bl true])) p2 (.tup [.ref p1])) p2 = some (.tup [.ref p1]) := upd_same
      generalize upd (upd H3 p1 (.tup [.int 0, .bl true])) p2 (.tup [.ref p1]) = H4 at s4 hp12 hp22
      have hP4 := hP3.keep fun b xs q => s4 _ _ q
      refine ⟨_, rfl, L, tads.map V.ref, kOf H4, rfl, SqL.of (s4 _ _ hL3), fun x hx => hP4.mem hx, fun ys q hsr hst hq => ?_⟩
      have eys := psort_uniq hsr hst.perm hP4.keys
      have hysl : ys.length = (psort ps).length := by
        have q := congrArg List.length eys
        rw [List.length_map, List.length_map] at q
        exact q
      have s5 : Same H4 (upd H4 q (.lst ys)) := same_new hq
      have hq5 : (upd H4 q (.lst ys)) q = some (.lst ys) := upd_same
      generalize upd H4 q (.lst ys) = H5 at s5 hq5
      refine ⟨q, rfl, ⟨_, SqL.of hq5⟩, fun D hD => ?_⟩
      refine lc_gen (walk_list (K := K) (a := q) (xs := ys)) K (fun i => entD (((psort ps).getD i (0, 0)).2, (signs t).getD ((psort ps).getD i (0, 0)).2 false)) (fun _ => true) (fun _ => rfl) hD
        (by rw [hysl, hpsl]; exact small1000 (by omega)) (fun H6 s6 => SqL.of (s6 _ _ hq5)) ?_ yAt_same ?_
      · rintro i x H6 H7 RR SS hi s6 ⟨rfl, hxi⟩ ky ks
        have hi2 : i < (psort ps).length := by omega
        obtain ⟨ta, rfl, hta⟩ := hP4.mem (hst.perm.mem_iff.mp (List.mem_of_getElem? hxi))
        have ek : kOf H4 (.ref ta) = qN ((psort ps)[i]'hi2) := by
          have q1 : (ys.map (kOf H4))[i]? = some (kOf H4 (.ref ta)) := by rw [List.getElem?_map, hxi]; rfl
          rw [eys, List.getElem?_map, List.getElem?_eq_getElem hi2] at q1
          exact (Option.some.inj q1).symm
        rw [ek] at hta
        have eg : (psort ps).getD i (0, 0) = (psort ps)[i]'hi2 := by rw [List.getD_eq_getElem?_getD, List.getElem?_eq_getElem hi2]; rfl
        rw [eg] at ky
        have hlt := hplt _ (List.getElem_mem hi2)
        generalize (psort ps)[i]'hi2 = pq at hta ky hlt
        have hta6 : H7 ta = some (.tup [.int (pq.1 : Int), .int (pq.2 : Int)]) := s6 _ _ (s5 _ _ hta)
        have hS6 : H7 S = some (.lst ((signs t).map V.bl)) := s6 _ _ (s5 _ _ (s4 _ _ hS3))
        refine ⟨ta, _, rfl, SqT.of hta6, rfl, _, _, rfl, _, _, rfl, rfl, rfl, yes_el ?_⟩
        refine ⟨_, rfl, _, rfl, _, rfl, S, _, _, _, rfl, rfl, SqL.of hS6, atI_nat (hsg _ hlt), by show 2 ≤ sizeLine; decide, fun p hp => ?_⟩
        exact ky rfl _ _ (same_new hp) (.tup (SqT.of upd_same) (.cons (.int _) (.cons (.bl _) .nil)))
      intro H6 ye s6 hD6 hye
      rw [hysl, by_place (psort ps) (0, 0) (fun _ => true) (fun q => entD (q.2, (signs t).getD q.2 false))] at hye
      have ef : (psort ps).filter (fun _ => true) = psort ps := List.filter_eq_self.mpr fun _ _ => rfl
      rw [ef] at hye
      refine ⟨D, _, rfl, .inl ⟨SqL.of hD6, fun l hl6 => ?_⟩⟩
      have s7 : Same H6 (upd H6 l (.tup ye)) := same_new hl6
      have hl7 : (upd H6 l (.tup ye)) l = some (.tup ye) := upd_same
      generalize upd H6 l (.tup ye) = H7 at s7 hl7
      have hye7 := dpAll_ext s7 hye
      have hyel : ye.length = (psort ps).length := by rw [dpAll_len hye, List.length_map]
      have hd1 : Dp K H7 (.ref p1) (entD (0, true)) := .tup (SqT.of (s7 _ _ (s6 _ _ (s5 _ _ hp12)))) (.cons (.int _) (.cons (.bl _) .nil))
      have hp27 : H7 p2 = some (.tup [.ref p1]) := s7 _ _ (s6 _ _ (s5 _ _ hp22))
      have sAll : Same H H7 := s3.trans (s4.trans (s5.trans (s6.trans s7)))
      have edat : (cand t).map entD = entD (0, true) :: (psort ps).map (fun q => entD (q.2, (signs t).getD q.2 false)) := by
        rw [ecand, List.map_cons, List.map_map]; rfl
      have hclen : (cand t).length = t.length := (okOrd_of hok).len
      have hok' : okOrd (cand t).length (cand t) = true := by rw [hclen]; exact hok
      refine ⟨p2, l, [.ref p1], ye, rfl, rfl, SqT.of hp27, SqT.of hl7, ?_, fun z => absurd z (by simp), fun _ hy0 => ?_, fun _ _ p hp => ?_⟩
      · rw [hyel, hpsl]
        show 1 + (t.length - 1) ≤ sizeLine
        have := small1000 (n := t.length) (by omega)
        omega
      · subst hy0
        have hdo : Dp K H7 (.ref p2) (ordD (cand t)) := by
          unfold ordD
          rw [edat]
          exact .tup (SqT.of hp27) (.cons hd1 hye7)
        refine ⟨_, rfl, .ref p2, cand t, rfl, hdo, hok', by omega, fun H8 u s8 du => ⟨_, rfl, _, _, du, dp_ext s8 (dp_ext sAll hd), shaped_tour _, shaped_tour _, _, rfl, ?_⟩⟩
        rw [hby, eqv_tour]
        exact iteT ⟨_, rfl, k _ _ (sAll.trans s8) (dp_ext s8 hdo)⟩
      · have s9 : Same H7 (upd H7 p (.tup ([.ref p1] ++ ye))) := same_new hp
        have hdo : Dp K (upd H7 p (.tup ([.ref p1] ++ ye))) (.ref p) (ordD (cand t)) := by
          unfold ordD
          rw [edat]
          exact .tup (SqT.of upd_same) (.cons (dp_ext s9 hd1) (dpAll_ext s9 hye7))
        refine ⟨_, rfl, .ref p, cand t, rfl, hdo, hok', by omega, fun H8 u s8 du => ⟨_, rfl, _, _, du, dp_ext s8 (dp_ext s9 (dp_ext sAll hd)), shaped_tour _, shaped_tour _, _, rfl, ?_⟩⟩
        rw [hby, eqv_tour]
        exact iteT ⟨_, rfl, k _ _ (sAll.trans (s9.trans s8)) (dp_ext s8 hdo)⟩
end
end K51
/-! nth_of, nth_circular. -/
namespace K51
open PySem L2
theorem ow_pos : ∀ n, 0 < ow n
  | 0 => Nat.one_pos
  | n + 1 => by
    show 0 < ow n * 2 * (n + 1)
    exact Nat.mul_pos (Nat.mul_pos (ow_pos n) (by decide)) (Nat.succ_pos n)
theorem ow_small {n : Nat} (h : n ≤ 7) : ow n ≤ 645120 := by
  have q : (List.range 8).all (fun n => Nat.ble (ow n) 645120) = true := by decide +kernel
  exact Nat.le_of_ble_eq_true (List.all_eq_true.mp q n (List.mem_range.mpr (by omega)))
theorem rgV_nat (m : Nat) : rgV 1 (m : Int) = (iN (List.range' 1 (m - 1))).map V.int := by
  unfold rgV iN
  have e : ((m : Int) - 1).toNat = m - 1 := by omega
  rw [e, range1_eq, List.map_map, List.map_map]
  refine List.map_congr_left fun i _ => ?_
  show V.int (1 + (i : Int)) = V.int ((1 + i : Nat) : Int)
  congr 1
theorem iN_erase (l : List Nat) (k : Nat) : ((iN l).map V.int).eraseIdx k = (iN (l.eraseIdx k)).map V.int := by
  rw [erase_mapI]
  congr 1
  induction l generalizing k with
  | nil => rfl
  | cons a l ih => cases k with
    | zero => rfl
    | succ k => show (a : Int) :: (iN l).eraseIdx k = (a : Int) :: iN (l.eraseIdx k); rw [ih]
theorem nthLoop_succ (n : Nat) (left : List Nat) (i : Nat) (o : Ord) : nthLoop (n + 1) left i o = nthLoop n (left.eraseIdx (i / ow (left.length - 1) / 2)) (i % ow (left.length - 1))
    (o ++ [(left.getD (i / ow (left.length - 1) / 2) 0, i / ow (left.length - 1) % 2 == 0)]) := rfl
theorem digit_lt {i n : Nat} (h : i < ow (n + 1)) : i / ow n / 2 < n + 1 := by
  have h1 : i < ow n * (2 * (n + 1)) := by
    have e : ow (n + 1) = ow n * (2 * (n + 1)) := by show ow n * 2 * (n + 1) = _; rw [Nat.mul_assoc]
    rw [← e]; exact h
  have h2 := Nat.div_lt_of_lt_mul h1
  omega
theorem bool_int (d : Nat) : decide (V.int ((d : Nat) : Int) = V.int 0) = (d == 0) := by
  by_cases h : d = 0
  · subst h; rfl
  · have h2 : ¬ (V.int (d : Int) = V.int 0) := fun z => h (by injection z with z; omega)
    rw [decide_eq_false h2]
    simp [h]
section
variable {P : Program} {w : World} {K : PySem.W.Frag} {mg : Str → Option Value} {base : Heap} {f : Addr} {fd : FuncData}
def spNth (K : PySem.W.Frag) : Sp := fun vs H Q _ => ∃ (m i : Nat), vs = [.int m, .int i] ∧ 1 ≤ m ∧ m ≤ 8 ∧ i < ow (m - 1) ∧ okOrd m (nthOrd m i) = true ∧
  ∀ H' u, Same H H' → Dp K H' u (tourD (byOrd (nthOrd m i))) → Q u H'
abbrev nNth : List Str := ["many", "index", "left", "order", "below", "digit"]
theorem scNth : FnScope nNth ["many", "index"] (defScope sNth) := ⟨rfl, rfl, rfl, by decide +kernel, rfl, by decide +kernel, by decide +kernel⟩
theorem ok_nth (T : Txt mg) (F : Fun K "nth_of" "nth_of" sNth f fd) {f1 f2 : Addr} {fd1 fd2 : FuncData} (D1 : Dfn K mg "orders_with" sOw ["left"] f1 fd1) (D2 : Dfn K mg "tournament_by" sBy ["order"] f2 fd2)
    (G1 : FnOk P w K mg base CX0 1 f1 fd1 ["left"] spOw) (G2 : FnOk P w K mg base CX0 1 f2 fd2 ["order"] (spBy K)) : FnOk P w K mg base CX0 2 f fd ["many", "index"] (spNth K) := by
  refine F.ok scNth (fun vs H Q E h => ?_) (fun cdv A ou s H vs Q E hr h => ?_)
  · obtain ⟨m, i, rfl, _⟩ := h
    rfl
  · obtain ⟨m, i0, rfl, h1, h8, hi0, hok, k⟩ := h
    refine ⟨_, pss_cons (ps_set (i := 2) scNth.nd rfl (Or.inl rfl) (pe_listRg rfl rfl T.lst (prg_2 rfl T.rng pe_int (pv 0))))
      (pss_cons (ps_set (i := 3) scNth.nd rfl (Or.inl rfl) (pe_lst (pa_cons (pe_tup (pa_cons pe_int (pa_cons pe_bl pa_nil))) pa_nil)))
      (pss_cons (ps_while PassesOwn.never (pt_truth (pv 2) (by intro _; rfl))
          (pss_cons (ps_set (i := 4) scNth.nd rfl (Or.inl rfl) (pe_call G1 hr rfl D1.mg D1.fn.kp D1.bd .nil pass0 (pa_cons (pe_op op_sub (pe_callB call_len_seq (by rfl) T.len PySem.boot_len (pa_cons (pv 2) pa_nil)) pe_int) pa_nil)))
          (pss_cons (ps_set (i := 5) scNth.nd rfl (Or.inl rfl) (pe_op op_fdiv (pv 1) (pv 4)))
          (pss_cons (ps_set (i := 1) scNth.nd rfl (Or.inl rfl) (pe_op op_mod (pv 1) (pv 4)))
          (pss_one (ps_expr (pe_bm PySem.F.plainAttrs_list PySem.F.slot_list_append PySem.F.type_list_append mt_append (pv 3)
            (pa_cons (pe_tup (pa_cons (pe_bm PySem.F.plainAttrs_list PySem.F.slot_list_pop PySem.F.type_list_pop mt_popAt (pv 2) (pa_cons (pe_op op_fdiv (pv 5) pe_int) pa_nil))
              (pa_cons (pe_cmpR op_eq (pe_op op_mod (pv 5) pe_int) pe_int (nomark _)) pa_nil))) pa_nil))))))))
      (pss_one (ps_ret (pe_call G2 hr rfl D2.mg D2.fn.kp D2.bd .nil pass0 (pa_cons (pe_callTy cr_tupOf (by rfl) T.tup (by decide +kernel) (pa_cons (pv 3) pa_nil)) pa_nil)))))), ?_⟩
    refine ⟨_, rfl, 1, (m : Int), rfl, rfl, ⟨by omega, by omega, by omega, by omega, by omega⟩, fun L hL => ?_⟩
    rw [rgV_nat]
    have s1 := same_new (o := .lst ((iN (List.range' 1 (m - 1))).map V.int)) hL
    have hL1 : (upd H L (.lst ((iN (List.range' 1 (m - 1))).map V.int))) L = some (.lst ((iN (List.range' 1 (m - 1))).map V.int)) := upd_same
    generalize upd H L (.lst ((iN (List.range' 1 (m - 1))).map V.int)) = H1 at s1 hL1
    refine ⟨by show 2 ≤ sizeLine; decide, fun p1 hp1 => ⟨by show 1 ≤ sizeLine; decide, fun O hO => ?_⟩⟩
    have s2 := same_new (o := .tup [.int 0, .bl true]) hp1
    have hp2 : (upd H1 p1 (.tup [.int 0, .bl true])) p1 = some (.tup [.int 0, .bl true]) := upd_same
    generalize upd H1 p1 (.tup [.int 0, .bl true]) = H2 at s2 hp2 hO
    have s3 := same_new (o := .lst [.ref p1]) hO
    have hO3 : (upd H2 O (.lst [.ref p1])) O = some (.lst [.ref p1]) := upd_same
    have hO0 : H O = none := (s1.trans s2).free hO
    generalize upd H2 O (.lst [.ref p1]) = H3 at s3 hO3
    have hLO : L ≠ O := fun z => by
      have q := s2 _ _ hL1
      rw [z, hO] at q; cases q
    have hlen : (List.range' 1 (m - 1)).length = m - 1 := List.length_range'
    dsimp only [gName, tSeq]
    refine while_by (fun σ H' => ∃ (left : List Nat) (i : Nat) (o : Ord) (z4 z5 : Option V) (vs : List V), σ = [some (.int m), some (.int i), some (.ref L), some (.ref O), z4, z5] ∧ Same H H' ∧
        H' L = some (.lst ((iN left).map V.int)) ∧ H' O = some (.lst vs) ∧ DpAll K H' vs (o.map entD) ∧ i < ow left.length ∧ left.length ≤ 7 ∧ o.length + left.length = m ∧ nthLoop left.length left i o = nthOrd m i0)
      (fun σ H' => match H' L with | some (.lst xs) => xs.length | _ => 0)
      ⟨List.range' 1 (m - 1), i0, [(0, true)], none, none, [.ref p1], rfl, s1.trans (s2.trans s3), s3 _ _ (s2 _ _ hL1), hO3, .cons (.tup (SqT.of (s3 _ _ hp2)) (.cons (.int _) (.cons (.bl _) .nil))) .nil,
        by rw [hlen]; exact hi0, by omega, by rw [hlen]; show 1 + (m - 1) = m; omega, by rw [hlen]; rfl⟩ ?_ ?_
    · rintro σ H4 ⟨left, i, o, z4, z5, vs, rfl, s4, hL4, hO4, hv4, hi4, h7, hm4, hn4⟩
      refine ⟨_, rfl, _, .inl ⟨_, SqL.of hL4, rfl⟩, ?_⟩
      cases left with
      | nil =>
        refine iteF ?_
        have hok2 : okOrd o.length o = true := by
          have e : o = nthOrd m i0 := hn4
          have e2 : o.length = m := by simpa using hm4
          rw [e2, e]; exact hok
        refine ⟨_, rfl, O, vs, rfl, .inl ⟨SqL.of hO4, fun l hl => ?_⟩⟩
        have s5 := same_new (o := .tup vs) hl
        have hom : o.length = m := by simpa using hm4
        refine ⟨.ref l, o, rfl, .tup (SqT.of upd_same) (dpAll_ext s5 hv4), hok2, by omega, fun H' u s6 du => ?_⟩
        refine k _ _ (s4.trans (s5.trans s6)) ?_
        have e : o = nthOrd m i0 := hn4
        rw [← e]
        exact du
      | cons a rest =>
        refine iteT ?_
        have hlr : (a :: rest).length = rest.length + 1 := rfl
        have hll : (((iN (a :: rest)).map V.int).length : Int) - 1 = (((a :: rest).length - 1 : Nat) : Int) := by rw [List.length_map, iN_len, hlr]; omega
        refine ⟨_, rfl, L, _, rfl, .inl (SqL.of hL4), _, _, rfl, rfl, (a :: rest).length - 1, by rw [← hll]; rfl, by omega, ?_⟩
        have hd := digit_lt (n := rest.length) (i := i) hi4
        have hop := ow_pos rest.length
        have hos := ow_small (n := rest.length) (by omega)
        have e1 : (a :: rest).length - 1 = rest.length := rfl
        rw [e1]
        refine ⟨_, rfl, _, rfl, _, _, rfl, rfl, ⟨by omega, by omega⟩, ?_⟩
        refine ⟨_, rfl, _, rfl, _, _, rfl, rfl, by omega, ?_⟩
        generalize hdd : i / ow rest.length / 2 = d at hd
        have hxl : ((iN (a :: rest)).map V.int).length = rest.length + 1 := by rw [List.length_map, iN_len]; rfl
        have hix : (a :: rest)[d]? = some ((a :: rest)[d]'hd) := List.getElem?_eq_getElem hd
        have ebd : decide (V.int ((i : Int) / ((ow rest.length : Nat) : Int) % 2) = V.int 0) = (i / ow rest.length % 2 == 0) := bool_int (i / ow rest.length % 2)
        generalize hbb : decide (V.int ((i : Int) / ((ow rest.length : Nat) : Int) % 2) = V.int 0) = bb at ebd
        have hOL : O ≠ L := Ne.symm hLO
        have hvl : vs.length = o.length := by rw [dpAll_len hv4, List.length_map]
        have hml : ((a :: rest).eraseIdx d).length = rest.length := by rw [List.length_eraseIdx_of_lt hd]; rfl
        have fin : ∀ (y : V) (tp : Addr), y = V.int (((a :: rest)[d]'hd : Nat) : Int) → (upd H4 L (.lst ((iN ((a :: rest).eraseIdx d)).map V.int))) tp = none →
            (upd (upd H4 L (.lst ((iN ((a :: rest).eraseIdx d)).map V.int))) tp (.tup [y, .bl bb])) O = some (.lst vs) ∧
            ∀ H7, H7 = upd (upd (upd H4 L (.lst ((iN ((a :: rest).eraseIdx d)).map V.int))) tp (.tup [y, .bl bb])) O (.lst (vs ++ [V.ref tp])) →
              Same H H7 ∧ H7 L = some (.lst ((iN ((a :: rest).eraseIdx d)).map V.int)) ∧ H7 O = some (.lst (vs ++ [V.ref tp])) ∧
              DpAll K H7 (vs ++ [V.ref tp]) ((o ++ [((a :: rest)[d]'hd, i / ow rest.length % 2 == 0)]).map entD) := by
          rintro y tp rfl htp
          have t5 : Tups H4 (upd H4 L (.lst ((iN ((a :: rest).eraseIdx d)).map V.int))) := Tups.put hL4
          have hO5 : (upd H4 L (.lst ((iN ((a :: rest).eraseIdx d)).map V.int))) O = some (.lst vs) := by rw [upd_ne hOL]; exact hO4
          have hL5 : (upd H4 L (.lst ((iN ((a :: rest).eraseIdx d)).map V.int))) L = some (.lst ((iN ((a :: rest).eraseIdx d)).map V.int)) := upd_same
          have k5 : Same H (upd H4 L (.lst ((iN ((a :: rest).eraseIdx d)).map V.int))) := fun b o q => by
            rw [upd_ne (ne_of_none q hL)]; exact s4 _ _ q
          generalize upd H4 L (.lst ((iN ((a :: rest).eraseIdx d)).map V.int)) = H5 at t5 hO5 hL5 k5 htp
          have s6 := same_new (o := .tup [V.int (((a :: rest)[d]'hd : Nat) : Int), V.bl bb]) htp
          have htp6 : (upd H5 tp (.tup [V.int (((a :: rest)[d]'hd : Nat) : Int), V.bl bb])) tp = some (.tup [V.int (((a :: rest)[d]'hd : Nat) : Int), V.bl bb]) := upd_same
          generalize upd H5 tp (.tup [V.int (((a :: rest)[d]'hd : Nat) : Int), V.bl bb]) = H6 at s6 htp6
          have hO6 := s6 _ _ hO5
          refine ⟨hO6, ?_⟩
          rintro _ rfl
          have t7 : Tups H6 (upd H6 O (.lst (vs ++ [V.ref tp]))) := Tups.put hO6
          refine ⟨fun b u q => ?_, ?_, upd_same, ?_⟩
          · rw [upd_ne (ne_of_none q hO0)]
            exact s6 _ _ (k5 _ _ q)
          · rw [upd_ne hLO]
            exact s6 _ _ hL5
          · rw [List.map_append]
            refine dpAll_app (dpAll_keep ((t5.trans (Tups.of s6)).trans t7) hv4 (noLs_map _ noL_ent _)) (dpAll_one ?_)
            rw [← ebd]
            exact dp_keep t7 (.tup (SqT.of htp6) (.cons (.int _) (.cons (.bl _) .nil))) (noL_ent (_, _))
        refine ⟨_, rfl, .inl ⟨rfl, _, SqL.of hO4⟩, ?_⟩
        refine ⟨_, rfl, .inl ⟨rfl, _, SqL.of hL4⟩, _, rfl, _, _, rfl, rfl, ⟨by decide, by decide⟩, ?_⟩
        refine ⟨L, _, ((i / ow rest.length / 2 : Nat) : Int), d, V.int (((a :: rest)[d]'hd : Nat) : Int), rfl, rfl, hL4, by omega, by omega, ?_, iN_get hix, ?_⟩
        · rw [hdd, hxl, seqIndex_of (by omega) (by omega), Int.toNat_natCast]
        rw [iN_erase]
        refine ⟨_, rfl, _, _, rfl, rfl, (by show (0 : Int) < 2; decide), rfl, by show 2 ≤ sizeLine; decide, fun tp htp => ?_⟩
        rw [hbb]
        obtain ⟨hO6, hF⟩ := fin _ tp rfl htp
        obtain ⟨g1, g2, g3, g4⟩ := hF _ rfl
        refine ⟨O, vs, V.ref tp, rfl, rfl, hO6, small1000 (by omega), ⟨(a :: rest).eraseIdx d, i % ow rest.length, o ++ [((a :: rest)[d]'hd, i / ow rest.length % 2 == 0)], _, _, vs ++ [V.ref tp], rfl, g1, g2, g3, g4, ?_, ?_, ?_, ?_⟩, ?_⟩
        · rw [hml]; exact Nat.mod_lt _ hop
        · rw [hml]; omega
        · rw [hml, List.length_append, List.length_singleton]; omega
        · rw [hml, ← hn4]
          show _ = nthLoop (rest.length + 1) (a :: rest) i o
          rw [nthLoop_succ, e1, hdd, List.getD_eq_getElem?_getD, hix]
          rfl
        · rw [g2, hL4]
          show ((iN ((a :: rest).eraseIdx d)).map V.int).length < ((iN (a :: rest)).map V.int).length
          rw [hxl, List.length_map, iN_len, hml]
          omega
    · rintro σ H4 QQ QQ' hq ⟨v, hv, kk, hk, q⟩
      exact ⟨v, hv, kk, hk, hq _ _ q⟩
end
end K51
/-! nth_circular, index_of, index_of_circular, told_or_fail, next_circular. -/
namespace K51
open PySem L2
theorem idx_at {l : List Nat} {a : Nat} (h : a ∈ l) : l[l.idxOf a]? = some a := by
  have h1 : l.idxOf a < l.length := List.idxOf_lt_length_iff.mpr h
  rw [List.getElem?_eq_getElem h1, List.getElem_idxOf]
theorem idx_before {l : List Nat} {a b m : Nat} (hm : m < l.idxOf a) (e : l[m]? = some b) : b ≠ a := fun z => by
  subst z
  have q := List.not_of_lt_findIdx (p := fun x => x == b) (xs := l) (i := m) hm
  obtain ⟨h1, h2⟩ := List.getElem?_eq_some_iff.mp e
  rw [h2] at q
  simp at q
theorem erase_idx (l : List Nat) (a : Nat) : l.eraseIdx (l.idxOf a) = l.erase a := by
  exact (List.erase_eq_eraseIdx_of_idxOf rfl).symm
structure Good (t : Tour) : Prop where
  val : validT t = true
  one : 1 ≤ t.length
  len : t.length ≤ 8
  ok : okOrd t.length (cand t) = true
  by_ : byOrd (cand t) = t
  idx : idxOk ((cand t).drop 1) (List.range' 1 ((cand t).length - 1)) = true
theorem good_of {t : Tour} (h : good t = true) : Good t := by
  unfold good at h
  rw [Bool.and_eq_true, Bool.and_eq_true, Bool.and_eq_true] at h
  obtain ⟨⟨⟨h1, h2⟩, h3⟩, h4⟩ := h
  have R := validT_of h1
  exact ⟨h1, R.one, R.len, h2, by simpa using h3, h4⟩
section
variable {P : Program} {w : World} {K : PySem.W.Frag} {mg : Str → Option Value} {base : Heap} {f : Addr} {fd : FuncData}
theorem scNthC : FnScope ["many", "index"] ["many", "index"] (defScope sNthC) := ⟨rfl, rfl, rfl, by decide +kernel, rfl, by decide +kernel, by decide +kernel⟩
theorem ok_nthC (F : Fun K "nth_circular" "nth_circular" sNthC f fd) {f1 f2 f3 f4 : Addr} {fd1 fd2 fd3 fd4 : FuncData} (D1 : Dfn K mg "check_many" sMany ["many"] f1 fd1) (D2 : Dfn K mg "is_within" sWithin ["value", "low", "high"] f2 fd2)
    (D3 : Dfn K mg "orders_with" sOw ["left"] f3 fd3) (D4 : Dfn K mg "nth_of" sNth ["many", "index"] f4 fd4) (G1 : FnOk P w K mg base CX0 2 f1 fd1 ["many"] spMany) (G2 : FnOk P w K mg base CX0 1 f2 fd2 ["value", "low", "high"] spWithin)
    (G3 : FnOk P w K mg base CX0 1 f3 fd3 ["left"] spOw) (G4 : FnOk P w K mg base CX0 2 f4 fd4 ["many", "index"] (spNth K)) : FnOk P w K mg base CX0 3 f fd ["many", "index"] (spNth K) := by
  refine F.ok scNthC (fun vs H Q E h => ?_) (fun cdv A ou s H vs Q E hr h => ?_)
  · obtain ⟨m, i, rfl, _⟩ := h
    rfl
  · obtain ⟨m, i, rfl, h1, h8, hi, hok, k⟩ := h
    have hr1 : Room 1 _ := hr.mono (by decide)
    refine ⟨_, pss_cons (ps_expr (pe_call G1 hr rfl D1.mg D1.fn.kp D1.bd .nil pass0 (pa_cons (pv 0) pa_nil)))
      (pss_cons (ps_if (pt_not (pt_val (pe_call G2 hr1 rfl D2.mg D2.fn.kp D2.bd .nil pass0 (pa_cons (pv 1) (pa_cons pe_int (pa_cons (pe_op op_sub (pe_call G3 hr1 rfl D3.mg D3.fn.kp D3.bd .nil pass0 (pa_cons (pe_op op_sub (pv 0) pe_int) pa_nil)) pe_int) pa_nil)))))) pss_never pss_nil)
      (pss_one (ps_ret (pe_call G4 hr rfl D4.mg D4.fn.kp D4.bd .nil pass0 (pa_cons (pv 0) (pa_cons (pv 1) pa_nil)))))), ?_⟩
    have e : (m : Int) - 1 = ((m - 1 : Nat) : Int) := by omega
    refine ⟨_, rfl, _, rfl, by omega, by omega, _, rfl, _, rfl, _, _, rfl, rfl, m - 1, by rw [← e]; rfl, by omega, _, _, rfl, rfl, (i : Int), 0, ((ow (m - 1) : Nat) : Int) - 1, rfl, _, rfl, ?_⟩
    rw [decide_eq_true (by omega : (0 : Int) ≤ (i : Int)), decide_eq_true (by omega : (i : Int) ≤ ((ow (m - 1) : Nat) : Int) - 1)]
    exact iteF ⟨_, rfl, _, rfl, m, i, rfl, h1, h8, hi, hok, k⟩
/-! ### index_of -/
def spIdx (K : PySem.W.Frag) : Sp := fun vs H Q _ => ∃ (v : V) (o : Ord), vs = [v] ∧ Dp K H v (ordD o) ∧ 1 ≤ o.length ∧ o.length ≤ 8 ∧ idxOk (o.drop 1) (List.range' 1 (o.length - 1)) = true ∧ ∀ H', Same H H' → Q (.int (index o)) H'
abbrev nIdx : List Str := ["order", "left", "index", "player", "itself", "below"]
theorem scIdx : FnScope nIdx ["order"] (defScope sIdx) := ⟨rfl, rfl, rfl, by decide +kernel, rfl, by decide +kernel, by decide +kernel⟩
theorem ok_idx (T : Txt mg) (F : Fun K "index_of" "index_of" sIdx f fd) {f1 : Addr} {fd1 : FuncData} (D1 : Dfn K mg "orders_with" sOw ["left"] f1 fd1) (G1 : FnOk P w K mg base CX0 1 f1 fd1 ["left"] spOw) : FnOk P w K mg base CX0 2 f fd ["order"] (spIdx K) := by
  refine F.ok scIdx (fun vs H Q E h => ?_) (fun cdv A ou s H vs Q E hr h => ?_)
  · obtain ⟨v, o, rfl, _⟩ := h
    rfl
  · obtain ⟨v, o, rfl, hd, h1, h8, hio, k⟩ := h
    obtain ⟨ad, xs, rfl, hs, hx⟩ := ord_of hd
    have hl : xs.length = o.length := by rw [dpAll_len hx, List.length_map]
    refine ⟨_, pss_cons (ps_set (i := 1) scIdx.nd rfl (Or.inl rfl) (pe_listRg rfl rfl T.lst (prg_2 rfl T.rng pe_int (pe_callB call_len_seq (by rfl) T.len PySem.boot_len (pa_cons (pv 0) pa_nil)))))
      (pss_cons (ps_set (i := 2) scIdx.nd rfl (Or.inl rfl) pe_int)
      (pss_cons (ps_for PassesOwn.never rfl (pi_tup (pe_slice sl_tup (pv 0) (po_some pe_int) po_none)) (pg_tup rfl (pgs_cons (pg_name (i := 3) scIdx.nd rfl (Or.inl rfl)) (pgs_cons (pg_name (i := 4) scIdx.nd rfl (Or.inl rfl)) pgs_nil)))
          (pss_cons (ps_set (i := 5) scIdx.nd rfl (Or.inl rfl) (pe_call G1 hr rfl D1.mg D1.fn.kp D1.bd .nil pass0 (pa_cons (pe_op op_sub (pe_callB call_len_seq (by rfl) T.len PySem.boot_len (pa_cons (pv 1) pa_nil)) pe_int) pa_nil)))
          (pss_cons (ps_set (i := 2) scIdx.nd rfl (Or.inl rfl) (pe_op op_add (pv 2) (pe_op op_mul (pe_op op_add (pe_op op_mul pe_int (pe_bm PySem.F.plainAttrs_list PySem.F.slot_list_index PySem.F.type_list_index mt_index (pv 1) (pa_cons (pv 3) pa_nil)))
              (pe_ifExp (pt_val (pv 4)) pe_int pe_int)) (pv 5))))
          (pss_one (ps_expr (pe_bm PySem.F.plainAttrs_list PySem.F.slot_list_remove PySem.F.type_list_remove mt_remove (pv 1) (pa_cons (pv 3) pa_nil)))))))
      (pss_one (ps_ret (pv 2))))), ?_⟩
    refine ⟨_, rfl, ad, xs, rfl, .inr hs, 1, (xs.length : Int), rfl, rfl, ⟨by omega, by omega, by omega, by omega, by omega⟩, fun L hL => ?_⟩
    rw [rgV_nat, hl]
    have s1 := same_new (o := .lst ((iN (List.range' 1 (o.length - 1))).map V.int)) hL
    have hL1 : (upd H L (.lst ((iN (List.range' 1 (o.length - 1))).map V.int))) L = some (.lst ((iN (List.range' 1 (o.length - 1))).map V.int)) := upd_same
    generalize upd H L (.lst ((iN (List.range' 1 (o.length - 1))).map V.int)) = H1 at s1 hL1
    refine ⟨_, rfl, 1, rfl, ad, xs, rfl, seqT s1 hs, cut_not (i := 0) (by omega), fun p hp => ?_⟩
    have ec : cutV xs (some 1) none = xs.drop 1 := cut_from xs 0
    rw [ec]
    have s2 := same_new (o := .tup (xs.drop 1)) hp
    have hp2 : (upd H1 p (.tup (xs.drop 1))) p = some (.tup (xs.drop 1)) := upd_same
    have hL2 := s2 _ _ hL1
    generalize upd H1 p (.tup (xs.drop 1)) = H2 at s2 hp2 hL2
    have hx1 : DpAll K H (xs.drop 1) ((o.drop 1).map entD) := by rw [List.map_drop]; exact dpAll_drop 1 hx
    have hdl : (xs.drop 1).length = (o.drop 1).length := by rw [List.length_drop, List.length_drop, hl]
    have hol : (o.drop 1).length = o.length - 1 := List.length_drop
    refine ⟨p, rfl, ⟨_, SqT.of hp2⟩, for_it (walk_tup (K := K) (a := p) (xs := xs.drop 1)) (fun j σ H' => ∃ (left : List Nat) (i : Nat) (z3 z4 z5 : Option V), σ = [some (.ref ad), some (.ref L), some (.int i), z3, z4, z5] ∧ Same H H' ∧
      H' L = some (.lst ((iN left).map V.int)) ∧ H' p = some (.tup (xs.drop 1)) ∧ idxLoop ((o.drop 1).drop j) left i = index o ∧ idxOk ((o.drop 1).drop j) left = true ∧ left.length + j = o.length - 1)
      ⟨List.range' 1 (o.length - 1), 0, none, none, none, rfl, s1.trans s2, hL2, hp2, rfl, hio, by rw [List.length_range']; rfl⟩ (fun j σ H3 _ ⟨_, _, _, _, _, _, _, _, q, _⟩ => SqT.of q) ?_ ?_⟩
    · rintro j x σ H3 H4 hj ⟨left, i, z3, z4, z5, rfl, s3, hL3, hp3, hlo, hok, hll⟩ ⟨rfl, hxj⟩
      have hjo : j < (o.drop 1).length := by omega
      have eo : (o.drop 1)[j]? = some ((o.drop 1)[j]'hjo) := List.getElem?_eq_getElem hjo
      have ed : (o.drop 1).drop j = (o.drop 1)[j]'hjo :: (o.drop 1).drop (j + 1) := List.drop_eq_getElem_cons hjo
      obtain ⟨b, h3, h4⟩ := ent_at hx1 eo
      rw [hxj] at h3
      cases h3
      generalize (o.drop 1)[j]'hjo = e at eo ed h4
      rw [ed] at hlo hok
      have hok2 := Bool.and_eq_true_iff.mp (show (left.contains e.1 && idxOk ((o.drop 1).drop (j + 1)) (left.erase e.1)) = true from hok)
      obtain ⟨ep, eb⟩ := e
      have hmem : ep ∈ left := by simpa using hok2.1
      have hpos : 0 < left.length := List.length_pos_of_mem hmem
      have hat := idx_at hmem
      have hl5 : (((iN left).map V.int).length : Int) - 1 = ((left.length - 1 : Nat) : Int) := by rw [List.length_map, iN_len]; omega
      have hos := ow_small (n := left.length - 1) (by omega)
      refine ⟨b, _, rfl, seqT s3 h4, rfl, _, _, rfl, _, _, rfl, rfl, ?_⟩
      refine ⟨_, rfl, L, _, rfl, .inl (SqL.of hL3), _, _, rfl, rfl, left.length - 1, by rw [← hl5]; rfl, by omega, ?_⟩
      refine ⟨_, rfl, _, rfl, .inl ⟨rfl, _, SqL.of hL3⟩, _, rfl, L, _, _, left.idxOf ep, _, rfl, rfl, SqL.of hL3, rfl, flat_ints _, iN_get hat, ?_, ?_, ?_⟩
      · show ((ep : Int) == (ep : Int)) = true
        simp
      · intro m z hm hz
        obtain ⟨n, hn, rfl⟩ := iN_get' hz
        have hne := idx_before hm hn
        show ((n : Int) == (ep : Int)) = false
        exact beq_eq_false_iff_ne.mpr (by omega)
      · have hLb : ∀ b u, H b = some u → b ≠ L := fun b u q => ne_of_none q hL
        have hpL : p ≠ L := fun z => by rw [z, hL3] at hp3; cases hp3
        have hne2 : ∀ m : Nat, m < left.idxOf ep → (iN left)[m]? ≠ some (ep : Int) := fun m hm q => by
          unfold iN at q
          rw [List.getElem?_map] at q
          cases hz : left[m]? with
          | none => rw [hz] at q; cases q
          | some n =>
            rw [hz] at q
            have e2 : (n : Int) = (ep : Int) := Option.some.inj q
            exact idx_before hm hz (by omega)
        have hat2 : (iN left)[left.idxOf ep]? = some (ep : Int) := by unfold iN; rw [List.getElem?_map, hat]; rfl
        have her : (iN left).eraseIdx (left.idxOf ep) = iN (left.erase ep) := by
          have q := iN_erase left (left.idxOf ep)
          rw [erase_mapI] at q
          have q2 := congrArg (List.map fun v => match v with | V.int i => i | _ => 0) q
          rw [List.map_map, List.map_map] at q2
          have ei : ((fun v => match v with | V.int i => i | _ => (0 : Int)) ∘ V.int) = id := rfl
          rw [ei, List.map_id, List.map_id, erase_idx] at q2
          exact q2
        refine ⟨_, _, rfl, rfl, .inl ⟨by decide, by decide⟩, _, rfl, eb, rfl, ?_⟩
        cases eb
        all_goals
          first | refine iteT ?_ | refine iteF ?_
          refine ⟨_, _, rfl, rfl, _, rfl, _, _, rfl, rfl, .inr ⟨by omega, by omega⟩, _, _, rfl, rfl, ?_⟩
          refine ⟨_, rfl, .inl ⟨rfl, _, SqL.of hL3⟩, _, rfl, L, iN left, (ep : Int), left.idxOf ep, rfl, rfl, hL3, hat2, hne2, ?_⟩
          refine ⟨left.erase ep, i + (2 * left.idxOf ep + (if _ = true then 0 else 1)) * ow (left.length - 1), _, _, _, rfl, fun b u q => ?_, ?_, ?_, hlo, hok2.2, ?_⟩
          · rw [upd_ne (hLb b u q)]; exact s3 _ _ q
          · rw [upd_same, her]
          · rw [upd_ne hpL]; exact hp3
          · rw [List.length_erase_of_mem hmem]; omega
    · rintro σ H3 ⟨left, i, z3, z4, z5, rfl, s3, hL3, hp3, hlo, hok, hll⟩
      rw [hdl, List.drop_length] at hlo
      have e : i = index o := hlo
      refine ⟨_, rfl, ?_⟩
      rw [e]
      exact k _ s3
end
end K51
/-! index_of_circular, told_or_fail, next_circular. -/
namespace K51
open PySem L2
section
variable {P : Program} {w : World} {K : PySem.W.Frag} {mg : Str → Option Value} {base : Heap} {f : Addr} {fd : FuncData}
def spIdxC (K : PySem.W.Frag) : Sp := fun vs H Q _ => ∃ (v : V) (t : Tour), vs = [v] ∧ Dp K H v (tourD t) ∧ Good t ∧ ∀ H', Same H H' → Q (.int (index (cand t))) H'
theorem scIdxC : FnScope ["tournament", "order"] ["tournament"] (defScope sIdxC) := ⟨rfl, rfl, rfl, by decide +kernel, rfl, by decide +kernel, by decide +kernel⟩
theorem ok_idxC (F : Fun K "index_of_circular" "index_of_circular" sIdxC f fd) {f1 f2 f3 : Addr} {fd1 fd2 fd3 : FuncData} (D1 : Dfn K mg "check_tournament" sCheckT ["value"] f1 fd1) (D2 : Dfn K mg "order_of" sOrder ["tournament"] f2 fd2) (D3 : Dfn K mg "index_of" sIdx ["order"] f3 fd3)
    (G1 : FnOk P w K mg base CX0 4 f1 fd1 ["value"] (spCheckT K)) (G2 : FnOk P w K mg base CX0 2 f2 fd2 ["tournament"] (spOrd K)) (G3 : FnOk P w K mg base CX0 2 f3 fd3 ["order"] (spIdx K)) : FnOk P w K mg base CX0 5 f fd ["tournament"] (spIdxC K) := by
  refine F.ok scIdxC (fun vs H Q E h => ?_) (fun cdv A ou s H vs Q E hr h => ?_)
  · obtain ⟨v, t, rfl, _⟩ := h
    rfl
  · obtain ⟨v, t, rfl, hd, g, k⟩ := h
    have hr2 : Room 2 _ := hr.mono (by decide)
    refine ⟨_, pss_cons (ps_expr (pe_call G1 hr rfl D1.mg D1.fn.kp D1.bd .nil pass0 (pa_cons (pv 0) pa_nil)))
      (pss_cons (ps_set (i := 1) scIdxC.nd rfl (Or.inl rfl) (pe_call G2 hr2 rfl D2.mg D2.fn.kp D2.bd .nil pass0 (pa_cons (pv 0) pa_nil)))
      (pss_one (ps_ret (pe_ifExp (pt_cmp (pc_isN (pv 1))) pe_non (pe_call G3 hr2 rfl D3.mg D3.fn.kp D3.bd .nil pass0 (pa_cons (pv 1) pa_nil)))))), ?_⟩
    refine ⟨_, rfl, v, t, rfl, hd, g.val, fun H1 s1 => ?_⟩
    refine ⟨_, rfl, v, t, rfl, dp_ext s1 hd, g.one, g.len, g.ok, g.by_, fun H2 u s2 du => ?_⟩
    have hcl := (okOrd_of g.ok).len
    obtain ⟨a, xs, rfl, _⟩ := ord_of du
    refine ⟨_, rfl, _, rfl, ?_⟩
    have en : decide (V.ref a = V.non) = false := decide_eq_false fun z => nomatch z
    rw [en]
    exact iteF ⟨_, rfl, .ref a, cand t, rfl, du, by rw [hcl]; exact g.one, by rw [hcl]; exact g.len, g.idx, fun H3 s3 => k _ (s1.trans (s2.trans s3))⟩
def spTold (K : PySem.W.Frag) : Sp := fun vs H Q _ => ∃ (v : V) (t : Tour), vs = [v] ∧ Dp K H v (tourD t) ∧ Good t ∧ ∀ H' u, Same H H' → Dp K H' u (ordD (cand t)) → Q u H'
theorem scTold : FnScope ["tournament", "order"] ["tournament"] (defScope sTold) := ⟨rfl, rfl, rfl, by decide +kernel, rfl, by decide +kernel, by decide +kernel⟩
theorem ok_told (F : Fun K "told_or_fail" "told_or_fail" sTold f fd) {f1 f2 : Addr} {fd1 fd2 : FuncData} (D1 : Dfn K mg "check_tournament" sCheckT ["value"] f1 fd1) (D2 : Dfn K mg "order_of" sOrder ["tournament"] f2 fd2)
    (G1 : FnOk P w K mg base CX0 4 f1 fd1 ["value"] (spCheckT K)) (G2 : FnOk P w K mg base CX0 2 f2 fd2 ["tournament"] (spOrd K)) : FnOk P w K mg base CX0 5 f fd ["tournament"] (spTold K) := by
  refine F.ok scTold (fun vs H Q E h => ?_) (fun cdv A ou s H vs Q E hr h => ?_)
  · obtain ⟨v, t, rfl, _⟩ := h
    rfl
  · obtain ⟨v, t, rfl, hd, g, k⟩ := h
    have hr2 : Room 2 _ := hr.mono (by decide)
    refine ⟨_, pss_cons (ps_expr (pe_call G1 hr rfl D1.mg D1.fn.kp D1.bd .nil pass0 (pa_cons (pv 0) pa_nil)))
      (pss_cons (ps_set (i := 1) scTold.nd rfl (Or.inl rfl) (pe_call G2 hr2 rfl D2.mg D2.fn.kp D2.bd .nil pass0 (pa_cons (pv 0) pa_nil)))
      (pss_cons (ps_if (pt_cmp (pc_isN (pv 1))) pss_never pss_nil)
      (pss_one (ps_ret (pv 1))))), ?_⟩
    refine ⟨_, rfl, v, t, rfl, hd, g.val, fun H1 s1 => ?_⟩
    refine ⟨_, rfl, v, t, rfl, dp_ext s1 hd, g.one, g.len, g.ok, g.by_, fun H2 u s2 du => ?_⟩
    have kk := k _ _ (s1.trans s2) du
    obtain ⟨a, xs, rfl, _⟩ := ord_of du
    refine ⟨_, rfl, _, rfl, ?_⟩
    have en : decide (V.ref a = V.non) = false := decide_eq_false fun z => nomatch z
    rw [en]
    exact iteF ⟨_, rfl, kk⟩
def spNext (K : PySem.W.Frag) : Sp := fun vs H Q _ => ∃ (v : V) (t : Tour), vs = [v] ∧ Dp K H v (tourD t) ∧ Good t ∧
  (index (cand t) + 1 < ow (t.length - 1) → okOrd t.length (nthOrd t.length (index (cand t) + 1)) = true ∧ ∀ H' u, Same H H' → Dp K H' u (tourD (byOrd (nthOrd t.length (index (cand t) + 1)))) → Q u H') ∧
  (¬ index (cand t) + 1 < ow (t.length - 1) → ∀ H', Same H H' → Q .non H')
theorem scNext : FnScope ["tournament", "order", "index"] ["tournament"] (defScope sNext) := ⟨rfl, rfl, rfl, by decide +kernel, rfl, by decide +kernel, by decide +kernel⟩
theorem ok_next (T : Txt mg) (F : Fun K "next_circular" "next_circular" sNext f fd) {f1 f2 f3 f4 : Addr} {fd1 fd2 fd3 fd4 : FuncData} (D1 : Dfn K mg "told_or_fail" sTold ["tournament"] f1 fd1) (D2 : Dfn K mg "index_of" sIdx ["order"] f2 fd2)
    (D3 : Dfn K mg "orders_with" sOw ["left"] f3 fd3) (D4 : Dfn K mg "nth_of" sNth ["many", "index"] f4 fd4) (G1 : FnOk P w K mg base CX0 5 f1 fd1 ["tournament"] (spTold K)) (G2 : FnOk P w K mg base CX0 2 f2 fd2 ["order"] (spIdx K))
    (G3 : FnOk P w K mg base CX0 1 f3 fd3 ["left"] spOw) (G4 : FnOk P w K mg base CX0 2 f4 fd4 ["many", "index"] (spNth K)) : FnOk P w K mg base CX0 6 f fd ["tournament"] (spNext K) := by
  refine F.ok scNext (fun vs H Q E h => ?_) (fun cdv A ou s H vs Q E hr h => ?_)
  · obtain ⟨v, t, rfl, _⟩ := h
    rfl
  · obtain ⟨v, t, rfl, hd, g, kT, kF⟩ := h
    have hr2 : Room 2 _ := hr.mono (by decide)
    have hr1 : Room 1 _ := hr.mono (by decide)
    refine ⟨_, pss_cons (ps_set (i := 1) scNext.nd rfl (Or.inl rfl) (pe_call G1 hr rfl D1.mg D1.fn.kp D1.bd .nil pass0 (pa_cons (pv 0) pa_nil)))
      (pss_cons (ps_set (i := 2) scNext.nd rfl (Or.inl rfl) (pe_op op_add (pe_call G2 hr2 rfl D2.mg D2.fn.kp D2.bd .nil pass0 (pa_cons (pv 1) pa_nil)) pe_int))
      (pss_one (ps_ret (pe_ifExp (pt_cmpR op_lt (pv 2) (pe_call G3 hr1 rfl D3.mg D3.fn.kp D3.bd .nil pass0 (pa_cons (pe_op op_sub (pe_callB call_len_seq (by rfl) T.len PySem.boot_len (pa_cons (pv 1) pa_nil)) pe_int) pa_nil)) (nomark _))
        (pe_call G4 hr2 rfl D4.mg D4.fn.kp D4.bd .nil pass0 (pa_cons (pe_callB call_len_seq (by rfl) T.len PySem.boot_len (pa_cons (pv 1) pa_nil)) (pa_cons (pv 2) pa_nil))) pe_non)))), ?_⟩
    have hcl := (okOrd_of g.ok).len
    have h1 := g.one
    have h8 := g.len
    refine ⟨_, rfl, v, t, rfl, hd, g, fun H1 u s1 du => ?_⟩
    obtain ⟨a, xs, rfl, hs, hx⟩ := ord_of du
    have hl : xs.length = t.length := by rw [dpAll_len hx, List.length_map, hcl]
    refine ⟨_, rfl, .ref a, cand t, rfl, du, by omega, by omega, g.idx, fun H2 s2 => ?_⟩
    refine ⟨_, _, rfl, rfl, _, rfl, _, rfl, a, xs, rfl, .inr (seqT s2 hs), _, _, rfl, rfl, t.length - 1, ?_, by omega, _, _, rfl, rfl, _, rfl, ?_⟩
    · have e : (xs.length : Int) - 1 = ((t.length - 1 : Nat) : Int) := by omega
      rw [← e]
      rfl
    · by_cases c : index (cand t) + 1 < ow (t.length - 1)
      · have ec : decide (((index (cand t) : Nat) : Int) + 1 < ((ow (t.length - 1) : Nat) : Int)) = true := decide_eq_true (by omega)
        show if decide (((index (cand t) : Nat) : Int) + 1 < ((ow (t.length - 1) : Nat) : Int)) = true then _ else _
        rw [ec]
        obtain ⟨q1, q2⟩ := kT c
        refine iteT ⟨_, rfl, a, xs, rfl, .inr (seqT s2 hs), _, rfl, t.length, index (cand t) + 1, ?_, h1, h8, c, q1, fun H3 u s3 d3 => q2 _ _ (s1.trans (s2.trans s3)) d3⟩
        rw [hl]
        rfl
      · have ec : decide (((index (cand t) : Nat) : Int) + 1 < ((ow (t.length - 1) : Nat) : Int)) = false := decide_eq_false (by omega)
        show if decide (((index (cand t) : Nat) : Int) + 1 < ((ow (t.length - 1) : Nat) : Int)) = true then _ else _
        rw [ec]
        exact iteF (kF c _ (s1.trans s2))
end
end K51
/-! The law's stream: _law_stream, _law_next. -/
namespace K51
open PySem L2
theorem upd_id {H : Hp} {a : Addr} {o : HO} (h : H a = some o) : upd H a o = H := by
  funext b
  by_cases e : b = a
  · subst e; rw [upd_same, h]
  · rw [upd_ne e]
section
variable {P : Program} {w : World} {K : PySem.W.Frag} {mg : Str → Option Value} {base : Heap} {f : Addr} {fd : FuncData}
def spStream (K : PySem.W.Frag) : Sp := fun vs H Q _ => ∃ (a : Addr) (ns : List Int), vs = [.ref a] ∧ SqL K H a (ns.map V.int) ∧
  ∀ H' u l, Same H H' → H u = none → H l = none → l ≠ u → H' u = some (.lst [.ref l, .int 0, .int 0]) → H' l = some (.lst (ns.map V.int)) → Q (.ref u) H'
theorem scStream : FnScope ["_law_script"] ["_law_script"] (defScope sStream) := ⟨rfl, rfl, rfl, by decide +kernel, rfl, by decide +kernel, by decide +kernel⟩
theorem ok_stream (T : Txt mg) (F : Fun K "_law_stream" "_law_stream" sStream f fd) : FnOk P w K mg base CX0 1 f fd ["_law_script"] (spStream K) := by
  refine F.ok scStream (fun vs H Q E h => ?_) (fun cdv A ou s H vs Q E hr h => ?_)
  · obtain ⟨a, ns, rfl, _⟩ := h
    rfl
  · obtain ⟨a, ns, rfl, hs, k⟩ := h
    refine ⟨_, pss_one (ps_ret (pe_lst (pa_cons (pe_callTy call_list_of (by rfl) T.lst (by decide +kernel) (pa_cons (pv 0) pa_nil)) (pa_cons pe_int (pa_cons pe_int pa_nil))))), ?_⟩
    refine ⟨_, rfl, a, _, rfl, .inl hs, fun l hl => ⟨by show 3 ≤ sizeLine; decide, fun u hu => ?_⟩⟩
    have s1 := same_new (o := .lst (ns.map V.int)) hl
    have s2 := same_new (o := .lst [.ref l, .int 0, .int 0]) hu
    have hlu : l ≠ u := fun z => by rw [← z, upd_same] at hu; cases hu
    exact k _ u l (s1.trans s2) (s1.free hu) hl hlu upd_same (s2 _ _ upd_same)
def spDraw : Sp := fun vs H Q _ => ∃ (u l : Addr) (ns : List Int) (v k m : Int), vs = [.ref u, .int m] ∧ 0 < m ∧ m < 1073741824 ∧ l ≠ u ∧ H u = some (.lst [.ref l, .int v, .int k]) ∧ H l = some (.lst (ns.map V.int)) ∧ 0 ≤ v ∧ 0 ≤ k ∧
  ∀ d v' k', 0 ≤ d → d < m → 0 ≤ v' → 0 ≤ k' → Q (.int d) (upd H u (.lst [.ref l, .int v', .int k']))
abbrev nDraw : List Str := ["_law_stream_here", "_law_many", "_law_k", "_law_cell", "_law_digit"]
theorem scDraw : FnScope nDraw ["_law_stream_here", "_law_many"] (defScope sDraw) := ⟨rfl, rfl, rfl, by decide +kernel, rfl, by decide +kernel, by decide +kernel⟩
theorem ok_draw (T : Txt mg) (F : Fun K "_law_next" "_law_next" sDraw f fd) : FnOk P w K mg base CX0 1 f fd ["_law_stream_here", "_law_many"] spDraw := by
  refine F.ok scDraw (fun vs H Q E h => ?_) (fun cdv A ou s H vs Q E hr h => ?_)
  · obtain ⟨u, l, ns, v, k, m, rfl, _⟩ := h
    rfl
  · obtain ⟨u, l, ns, v, k, m, rfl, hm0, hm1, hlu, hu, hl, hv0, hk0, hQ⟩ := h
    refine ⟨_, C8.pss_cut (ps_if (pt_cmpR op_eq (pe_ix ix_list (pv 0) pe_int (fun _ _ => rfl)) pe_int (nomark _))
        (pss_cons (ps_set (i := 2) scDraw.nd rfl (Or.inl rfl) (pe_ix ix_list (pv 0) pe_int (fun _ _ => rfl)))
        (pss_cons (ps_set (i := 3) scDraw.nd rfl (Or.inl rfl) (pe_op op_add pe_int (pv 2)))
        (C8.pss_cut (ps_if (pt_cmpR op_lt (pv 2) (pe_callB call_len_seq (by rfl) T.len PySem.boot_len (pa_cons (pe_ix ix_list (pv 0) pe_int (fun _ _ => rfl)) pa_nil)) (nomark _))
            (pss_one (ps_set (i := 3) scDraw.nd rfl (Or.inl rfl) (pe_callB call_abs (by rfl) T.abs (by decide +kernel) (pa_cons (pe_ix ix_list (pe_ix ix_list (pv 0) pe_int (fun _ _ => rfl)) (pv 2) (fun _ _ => rfl)) pa_nil)))) pss_nil)
        (C8.pss_cut (ps_if (pt_cmpR op_lt (pv 3) (pe_op op_pow pe_int pe_int) (nomark _))
            (pss_cons (ps_set (i := 3) scDraw.nd rfl (Or.inl rfl) (pe_op op_mod (pe_callTy call_int1 (by rfl) T.int (by decide +kernel) (pa_cons (pe_op op_add (pe_op op_add (pe_op op_mul (pv 3) pe_int) (pe_op op_mul (pv 2) pe_int)) pe_int) pa_nil)) pe_int))
            (pss_one (ps_set (i := 3) scDraw.nd rfl (Or.inl rfl) (pe_op op_add (pe_op op_mul (pe_op op_mod (pe_callTy call_int1 (by rfl) T.int (by decide +kernel) (pa_cons (pe_op op_add (pe_op op_mul (pv 3) pe_int) pe_int) pa_nil)) pe_int) pe_int) (pv 3))))) pss_nil)
        (pss_cons (ps_asg (pv 3) (pg_sub (pv 0) pe_int set_list))
        (pss_one (ps_asg (pe_op op_add (pv 2) pe_int) (pg_sub (pv 0) pe_int set_list)))))))) pss_nil)
      (pss_cons (ps_set (i := 4) scDraw.nd rfl (Or.inl rfl) (pe_op op_mod (pe_callTy call_int1 (by rfl) T.int (by decide +kernel) (pa_cons (pe_ix ix_list (pv 0) pe_int (fun _ _ => rfl)) pa_nil)) (pv 1)))
      (pss_cons (ps_asg (pe_op op_fdiv (pe_ix ix_list (pv 0) pe_int (fun _ _ => rfl)) (pv 1)) (pg_sub (pv 0) pe_int set_list))
      (pss_one (ps_ret (pv 4))))), ?_⟩
    refine ⟨fun σ' H' => ∃ (v' k' : Int) (z2 z3 : Option V), σ' = [some (.ref u), some (.int m), z2, z3, none] ∧ H' = upd H u (.lst [.ref l, .int v', .int k']) ∧ 0 ≤ v' ∧ 0 ≤ k', ?_, ?_⟩
    · refine ⟨_, rfl, u, _, _, _, rfl, rfl, SqL.of hu, atI_nat (j := 1) rfl, rfl, _, rfl, ?_⟩
      refine ite2 (fun _ => ?_) (fun _ => ⟨v, k, none, none, rfl, (upd_id hu).symm, hv0, hk0⟩)
      refine ⟨_, rfl, u, _, _, _, rfl, rfl, SqL.of hu, atI_nat (j := 2) rfl, ?_⟩
      refine ⟨_, rfl, _, _, rfl, rfl, ?_⟩
      refine ⟨fun σ' H' => ∃ c : Int, σ' = [some (.ref u), some (.int m), some (.int k), some (.int c), none] ∧ H' = H ∧ 0 ≤ c, ?_, ?_⟩
      · refine ⟨_, rfl, _, rfl, u, _, _, _, rfl, rfl, SqL.of hu, atI_nat (j := 0) rfl, l, _, rfl, .inl (SqL.of hl), _, _, rfl, rfl, _, rfl, ?_⟩
        refine ite2 (fun c => ?_) (fun _ => ⟨7 + k, rfl, rfl, by omega⟩)
        have hk : k < (ns.length : Int) := by
          have q := of_decide_eq_true c
          rw [List.length_map] at q
          exact q
        have hkt : k.toNat < ns.length := by omega
        have en : ns[k.toNat]? = some (ns[k.toNat]'hkt) := List.getElem?_eq_getElem hkt
        refine ⟨_, rfl, u, _, _, _, rfl, rfl, SqL.of hu, atI_nat (j := 0) rfl, _, rfl, l, _, _, _, rfl, rfl, SqL.of hl, at_of (j := k.toNat) (by omega) (by rw [List.getElem?_map, en]; rfl), _, rfl, ?_⟩
        refine ⟨_, rfl, rfl, ?_⟩
        split <;> omega
      · rintro σ' H' ⟨c, rfl, rfl, hc0⟩
        refine ⟨fun σ' H2 => ∃ c : Int, σ' = [some (.ref u), some (.int m), some (.int k), some (.int c), none] ∧ H2 = H' ∧ 0 ≤ c, ?_, ?_⟩
        · refine ⟨_, rfl, _, _, rfl, rfl, ⟨by decide, by decide, by decide⟩, _, _, rfl, rfl, _, rfl, ?_⟩
          refine ite2 (fun _ => ?_) (fun _ => ⟨c, rfl, rfl, hc0⟩)
          refine ⟨_, rfl, _, _, rfl, rfl, .inr ⟨by decide, by decide⟩, _, rfl, _, _, rfl, rfl, .inr ⟨by decide, by decide⟩, _, _, rfl, rfl, _, _, rfl, rfl, .inl ⟨_, rfl, _, _, rfl, rfl, (by show (0 : Int) < 2147483647; decide), ?_⟩⟩
          refine ⟨_, rfl, _, _, rfl, rfl, .inr ⟨by decide, by decide⟩, _, _, rfl, rfl, .inl ⟨_, rfl, _, _, rfl, rfl, (by show (0 : Int) < 2147483647; decide), _, _, rfl, rfl, .inr ⟨by decide, by decide⟩, _, rfl, _, _, rfl, rfl, ?_⟩⟩
          refine ⟨_, rfl, rfl, ?_⟩
          have h1 := Int.emod_nonneg (c * 48271 + k * 69621 + 11) (show (2147483647 : Int) ≠ 0 by decide)
          have h2 := Int.emod_nonneg ((c * 48271 + k * 69621 + 11) % 2147483647 * 16807 + 13) (show (2147483647 : Int) ≠ 0 by decide)
          omega
        · rintro σ' H2 ⟨c, rfl, rfl, hc0⟩
          refine ⟨_, rfl, _, rfl, u, _, _, 1, rfl, rfl, hu, rfl, ?_⟩
          refine ⟨_, rfl, _, _, rfl, rfl, _, rfl, u, _, _, 2, rfl, rfl, upd_same, rfl, ?_⟩
          refine ⟨c, k + 1, _, _, rfl, ?_, hc0, by omega⟩
          rw [upd_upd]
          rfl
    · rintro σ' H' ⟨v', k', z2, z3, rfl, rfl, hv', hk'⟩
      refine ⟨_, rfl, u, _, _, _, rfl, rfl, SqL.of upd_same, atI_nat (j := 1) rfl, .inl ⟨_, rfl, _, rfl, _, _, rfl, rfl, hm0, ?_⟩⟩
      refine ⟨_, rfl, u, _, _, _, rfl, rfl, SqL.of upd_same, atI_nat (j := 1) rfl, _, rfl, _, _, rfl, rfl, ⟨hm0, hm1⟩, _, rfl, u, _, _, 1, rfl, rfl, upd_same, rfl, ?_⟩
      refine ⟨_, rfl, ?_⟩
      rw [upd_upd]
      exact hQ (v' % m) (v' / m) k' (Int.emod_nonneg _ (by omega)) (Int.emod_lt_of_pos _ hm0) (Int.ediv_nonneg hv' (by omega)) hk'
end
end K51
/-! _law_all_orders. -/
namespace K51
open PySem L2
theorem flat_most {α β : Type} (f : α → List β) (n : Nat) (hf : ∀ x, (f x).length ≤ n) : ∀ l : List α, (l.flatMap f).length ≤ n * l.length
  | [] => by simp
  | x :: l => by
    rw [List.flatMap_cons, List.length_append, List.length_cons]
    have h1 := hf x
    have h2 := flat_most f n hf l
    rw [Nat.mul_add]
    omega
theorem expand1_most (row : Ord) (p : Nat) : (expand1 row p).length ≤ 2 := by
  unfold expand1
  split <;> simp
theorem expand_most {m : Nat} (h : m ≤ 5) (row : Ord) : (expand m row).length ≤ 8 := by
  have q := flat_most (expand1 row) 2 (expand1_most row) (List.range' 1 (m - 1))
  rw [List.length_range'] at q
  unfold expand
  omega
theorem level_row {m : Nat} : ∀ {i : Nat} {r : Ord}, r ∈ level m i → r.length = i + 1
  | 0, r, h => by
    have e : r = [(0, true)] := by simpa [level] using h
    subst e; rfl
  | i + 1, r, h => by
    obtain ⟨r0, h0, h1⟩ := List.mem_flatMap.mp (show r ∈ (level m i).flatMap (expand m) from h)
    obtain ⟨p, hp, h2⟩ := List.mem_flatMap.mp (show r ∈ (List.range' 1 (m - 1)).flatMap (expand1 r0) from h1)
    have ih := level_row h0
    unfold expand1 at h2
    split at h2
    · cases h2
    · have q : r = r0 ++ [(p, true)] ∨ r = r0 ++ [(p, false)] := by simpa using h2
      rcases q with rfl | rfl <;> rw [List.length_append, ih] <;> rfl
theorem level_most : ∀ {m i : Nat}, m ≤ 5 → i < m → (level m i).length ≤ 384 := fun {m i} h hi => by
  have q : (List.range 6).all (fun m => (List.range m).all fun i => Nat.ble (level m i).length 384) = true := by decide +kernel
  have q1 := List.all_eq_true.mp q m (List.mem_range.mpr (by omega))
  exact Nat.le_of_ble_eq_true (List.all_eq_true.mp q1 i (List.mem_range.mpr hi))
theorem first_data (row : Ord) : (List.range row.length).map (fun i => PyData.int (((row.getD i (0, true)).1 : Nat) : Int)) = (iN (row.map (·.1))).map PyData.int := by
  have q := by_place row (0, true) (fun _ => true) (fun e => PyData.int ((e.1 : Nat) : Int))
  have ef : row.filter (fun _ => true) = row := List.filter_eq_self.mpr fun _ _ => rfl
  rw [range_all, ef] at q
  rw [q]
  unfold iN
  rw [List.map_map, List.map_map]
  rfl
section
variable {P : Program} {w : World} {K : PySem.W.Frag} {mg : Str → Option Value} {base : Heap} {f : Addr} {fd : FuncData}
def spAll (K : PySem.W.Frag) : Sp := fun vs H Q _ => ∃ m : Nat, vs = [.int m] ∧ 1 ≤ m ∧ m ≤ 5 ∧ ∀ H' u ys, Same H H' → H' u = some (.lst ys) → DpAll K H' ys ((orders m).map ordD) → Q (.ref u) H'
abbrev nAll : List Str := ["_law_many", "_law_rows_here", "_law_turn", "_law_longer", "_law_row", "_law_player", "_law_one", "_law_itself"]
theorem scAll : FnScope nAll ["_law_many"] (defScope sAll) := ⟨rfl, rfl, rfl, by decide +kernel, rfl, by decide +kernel, by decide +kernel⟩
theorem ok_all (T : Txt mg) (F : Fun K "_law_all_orders" "_law_all_orders" sAll f fd) : FnOk P w K mg base CX0 1 f fd ["_law_many"] (spAll K) := by
  refine F.ok scAll (fun vs H Q E h => ?_) (fun cdv A ou s H vs Q E hr h => ?_)
  · obtain ⟨m, rfl, _⟩ := h
    rfl
  · obtain ⟨m, rfl, h1, h5, k⟩ := h
    refine ⟨_, pss_cons (ps_set (i := 1) scAll.nd rfl (Or.inl rfl) (pe_lst (pa_cons (pe_tup (pa_cons (pe_tup (pa_cons pe_int (pa_cons pe_bl pa_nil))) pa_nil)) pa_nil)))
      (pss_cons (ps_for PassesOwn.never rfl (pi_range1 rfl T.rng (pa_cons (pe_op op_sub (pv 0) pe_int) pa_nil)) (pg_name (i := 2) scAll.nd rfl (Or.inl rfl))
          (pss_cons (ps_set (i := 3) scAll.nd rfl (Or.inl rfl) (pe_lst pa_nil))
          (pss_cons (ps_for PassesOwn.never rfl (pi_list (pv 1)) (pg_name (i := 4) scAll.nd rfl (Or.inl rfl))
            (pss_one (ps_for PassesOwn.never rfl (pi_range2 rfl T.rng (pa_cons pe_int (pa_cons (pv 0) pa_nil))) (pg_name (i := 5) scAll.nd rfl (Or.inl rfl))
              (pss_one (ps_if (pt_cmpR op_notIn_seq (pv 5)
                  (pe_lc (own := [("_law_one", 6), ("_law_itself", 7)]) (g := gTup K 2 (gCons (gName 6) (gCons (gName 7) gNil))) (tt := tYes) rfl scAll.nd (pi_tup (pv 4)) (blkOk_by (N := nAll) (sc := defScope sAll) (by decide +kernel))
                    (fun _ _ _ _ _ => by exact (pg_tup rfl (pgs_cons (pg_name (i := 6) scAll.nd rfl (Or.inl rfl)) (pgs_cons (pg_name (i := 7) scAll.nd rfl (Or.inl rfl)) pgs_nil)))) (fun _ _ _ _ _ => pts_nil)
                    (fun _ _ _ _ _ => by exact (pv 6))) rfl)
                (pss_one (ps_set (i := 3) scAll.nd rfl (Or.inl rfl) (pe_op op_cat (pv 3) (pe_lst
                  (pa_cons (pe_op op_catA (pv 4) (pe_tup (pa_cons (pe_tup (pa_cons (pv 5) (pa_cons pe_bl pa_nil))) pa_nil)))
                  (pa_cons (pe_op op_catA (pv 4) (pe_tup (pa_cons (pe_tup (pa_cons (pv 5) (pa_cons pe_bl pa_nil))) pa_nil))) pa_nil)))))) pss_nil)))))
          (pss_one (ps_set (i := 1) scAll.nd rfl (Or.inl rfl) (pv 3))))))
      (pss_one (ps_ret (pv 1)))), ?_⟩
    refine ⟨by show 2 ≤ sizeLine; decide, fun p1 hp1 => ⟨by show 1 ≤ sizeLine; decide, fun p2 hp2 => ⟨by show 1 ≤ sizeLine; decide, fun R hR => ?_⟩⟩⟩
    have s1 := same_new (o := .tup [.int 0, .bl true]) hp1
    have q1 : (upd H p1 (.tup [.int 0, .bl true])) p1 = some (.tup [.int 0, .bl true]) := upd_same
    generalize upd H p1 (.tup [.int 0, .bl true]) = H1 at s1 q1 hp2 hR
    have s2 := same_new (o := .tup [.ref p1]) hp2
    have q2 : (upd H1 p2 (.tup [.ref p1])) p2 = some (.tup [.ref p1]) := upd_same
    generalize upd H1 p2 (.tup [.ref p1]) = H2 at s2 q2 hR
    have s3 := same_new (o := .lst [.ref p2]) hR
    have q3 : (upd H2 R (.lst [.ref p2])) R = some (.lst [.ref p2]) := upd_same
    generalize upd H2 R (.lst [.ref p2]) = H3 at s3 q3
    refine ⟨_, rfl, _, _, rfl, rfl, (m : Int) - 1, rfl, by omega, by omega, ?_⟩
    have en : ((m : Int) - 1).toNat = m - 1 := by omega
    rw [en]
    refine for_range (fun i σ H' => ∃ (R : Addr) (ys : List V) (z2 z3 z4 z5 : Option V), σ = [some (.int m), some (.ref R), z2, z3, z4, z5, none, none] ∧ Same H H' ∧ H' R = some (.lst ys) ∧ DpAll K H' ys ((level m i).map ordD))
      ⟨R, _, none, none, none, none, rfl, s1.trans (s2.trans s3), q3, .cons (.tup (SqT.of (s3 _ _ q2)) (.cons (.tup (SqT.of (s3 _ _ (s2 _ _ q1))) (.cons (.int _) (.cons (.bl _) .nil))) .nil)) .nil⟩ ?_ ?_
    · rintro i σ H4 hi ⟨R, ys, z2, z3, z4, z5, rfl, s4, hR4, hy4⟩
      refine ⟨Nat.zero_le _, fun B hB => ?_⟩
      have s5 := same_new (o := .lst []) hB
      have q5 : (upd H4 B (.lst [])) B = some (.lst []) := upd_same
      generalize upd H4 B (.lst []) = H5 at s5 q5
      have hyl : ys.length = (level m i).length := by rw [dpAll_len hy4, List.length_map]
      have hlm := level_most (m := m) (i := i) h5 (by omega)
      refine ⟨_, rfl, R, rfl, ⟨_, SqL.of (s5 _ _ hR4)⟩, for_list (K := K) (a := R) (xs := ys) (fun j σ H' => ∃ (B : Addr) (zs : List V) (z4 z5 : Option V), σ = [some (.int m), some (.ref R), some (.int (0 + (i : Int))), some (.ref B), z4, z5, none, none] ∧ Same H4 H' ∧ H' B = some (.lst zs) ∧
        DpAll K H' zs ((((level m i).take j).flatMap (expand m)).map ordD)) ⟨B, [], z4, z5, rfl, s5, q5, .nil⟩ (fun j σ H6 _ ⟨_, _, _, _, _, q, _⟩ => SqL.of (q _ _ hR4)) ?_ ?_⟩
      · rintro j x σ H6 hxj ⟨B, zs, y4, y5, rfl, s6, hB6, hz6⟩
        have hj : j < (level m i).length := by rw [← hyl]; exact (List.getElem?_eq_some_iff.mp hxj).1
        have er : (level m i)[j]? = some ((level m i)[j]'hj) := List.getElem?_eq_getElem hj
        obtain ⟨v, hv1, hv2⟩ := dpAll_get (i := j) (d := ordD ((level m i)[j]'hj)) hy4 (by rw [List.getElem?_map, er]; rfl)
        rw [hxj] at hv1
        cases hv1
        have et : (level m i).take (j + 1) = (level m i).take j ++ [(level m i)[j]'hj] := by rw [List.take_append_getElem]
        have hrl := level_row (List.getElem_mem hj)
        have hpre : (((level m i).take j).flatMap (expand m)).length ≤ 3072 := by
          have q := flat_most (expand m) 8 (expand_most h5) ((level m i).take j)
          have q2 : ((level m i).take j).length ≤ (level m i).length := by rw [List.length_take]; omega
          omega
        generalize (level m i)[j]'hj = row at er hv2 et hrl
        generalize hpe : ((level m i).take j).flatMap (expand m) = pre at hz6 hpre
        obtain ⟨ra, rxs, rfl, hra, hrx⟩ := ord_of hv2
        have hrxl : rxs.length = row.length := by rw [dpAll_len hrx, List.length_map]
        refine ⟨_, rfl, 1, (m : Int), rfl, by omega, ?_⟩
        rw [en]
        refine for_range (fun p σ H' => ∃ (B : Addr) (zs : List V) (z5 : Option V), σ = [some (.int m), some (.ref R), some (.int (0 + (i : Int))), some (.ref B), some (.ref ra), z5, none, none] ∧ Same H4 H' ∧ H' B = some (.lst zs) ∧
          DpAll K H' zs ((pre ++ (List.range' 1 p).flatMap (expand1 row)).map ordD)) ⟨B, zs, y5, rfl, s6, hB6, by rw [List.range'_zero, List.flatMap_nil, List.append_nil]; exact hz6⟩ ?_ ?_
        · rintro p σ H7 hp ⟨B, zs, y5, rfl, s7, hB7, hz7⟩
          have ep : (1 : Int) + (p : Int) = ((1 + p : Nat) : Int) := by omega
          rw [ep]
          have erange : List.range' 1 (p + 1) = List.range' 1 p ++ [1 + p] := by rw [List.range'_1_concat]
          rw [erange, List.flatMap_append]
          have hzl : zs.length ≤ 3080 := by
            rw [dpAll_len hz7, List.length_map, List.length_append]
            have q := flat_most (expand1 row) 2 (expand1_most row) (List.range' 1 p)
            rw [List.length_range'] at q
            omega
          have hra7 := seqT s7 hra
          have hrx7 := dpAll_ext s7 hrx
          refine ⟨_, rfl, _, rfl, ra, rfl, ⟨_, hra7⟩, fun D hD => ?_⟩
          refine lc_gen (walk_tup (K := K) (a := ra) (xs := rxs)) K (fun i => PyData.int (((row.getD i (0, true)).1 : Nat) : Int)) (fun _ => true) (fun _ => rfl) hD (by rw [hrxl, hrl]; exact small1000 (by omega)) (fun H8 s8 => seqT s8 hra7) ?_ yAt_same ?_
          · rintro c x H8 H9 RR SS hc s8 ⟨rfl, hxc⟩ ky ks
            have hc2 : c < row.length := by omega
            have ec : row[c]? = some (row[c]'hc2) := List.getElem?_eq_getElem hc2
            obtain ⟨b, g1, g2⟩ := ent_at hrx7 ec
            rw [hxc] at g1
            cases g1
            have eg : row.getD c (0, true) = row[c]'hc2 := by rw [List.getD_eq_getElem?_getD, ec]; rfl
            rw [eg] at ky
            exact ⟨b, _, rfl, seqT s8 g2, rfl, _, _, rfl, _, _, rfl, rfl, rfl, yes_el ⟨_, rfl, ky rfl _ _ (Same.refl _) (.int _)⟩⟩
          intro H8 fs s8 hD8 hfs
          rw [range_all, hrxl, first_data] at hfs
          have efs := ints_of_dpAll hfs
          subst efs
          refine ⟨D, _, rfl, .inl (SqL.of hD8), rfl, flat_ints _, _, rfl, ?_⟩
          show if (!inV (V.int ((1 + p : Nat) : Int)) ((iN (row.map (·.1))).map V.int)) = true then _ else _
          rw [inV_nat]
          have s47 := s7.trans s8
          have hz8 := dpAll_ext s8 hz7
          cases hc : (row.map (·.1)).contains (1 + p) with
          | true =>
            refine iteF ⟨B, zs, _, rfl, s47, s8 _ _ hB7, ?_⟩
            have ee : [1 + p].flatMap (expand1 row) = [] := by
              rw [List.flatMap_cons, List.flatMap_nil, List.append_nil]
              unfold expand1
              rw [if_pos hc]
            rw [ee, List.append_nil]
            exact hz8
          | false =>
            refine iteT ?_
            have ee : [1 + p].flatMap (expand1 row) = [row ++ [(1 + p, true)], row ++ [(1 + p, false)]] := by
              rw [List.flatMap_cons, List.flatMap_nil, List.append_nil]
              unfold expand1
              rw [if_neg (by rw [hc]; exact Bool.false_ne_true)]
            rw [ee]
            have hne : rxs ≠ [] := fun z => by
              rw [z, List.length_nil] at hrxl
              omega
            have hrow4 : i + 1 ≤ 5 := by omega
            have hB8 := s8 _ _ hB7
            have hra8 := seqT s8 hra7
            have hrx8 := dpAll_ext s8 hrx7
            -- the first new row
            refine ⟨_, rfl, _, rfl, _, rfl, by show 2 ≤ sizeLine; decide, fun a1 ha1 => ⟨by show 1 ≤ sizeLine; decide, fun a2 ha2 => ?_⟩⟩
            have t1 := same_new (o := .tup [.int ((1 + p : Nat) : Int), .bl true]) ha1
            have r1 : (upd H8 a1 (.tup [.int ((1 + p : Nat) : Int), .bl true])) a1 = some (.tup [.int ((1 + p : Nat) : Int), .bl true]) := upd_same
            generalize upd H8 a1 (.tup [.int ((1 + p : Nat) : Int), .bl true]) = H9 at t1 r1 ha2
            have t2 := same_new (o := .tup [.ref a1]) ha2
            have r2 : (upd H9 a2 (.tup [.ref a1])) a2 = some (.tup [.ref a1]) := upd_same
            generalize upd H9 a2 (.tup [.ref a1]) = H10 at t2 r2
            refine ⟨ra, a2, rxs, [.ref a1], rfl, rfl, seqT (t1.trans t2) hra8, SqT.of r2, by rw [hrxl, hrl]; exact Nat.le_of_lt (small1000 (by show i + 1 + 1 ≤ 1000; omega)), fun z => absurd z hne, fun _ z => absurd z (by simp), fun _ _ a3 ha3 => ?_⟩
            have t3 := same_new (o := .tup (rxs ++ [.ref a1])) ha3
            have r3 : (upd H10 a3 (.tup (rxs ++ [.ref a1]))) a3 = some (.tup (rxs ++ [.ref a1])) := upd_same
            generalize upd H10 a3 (.tup (rxs ++ [.ref a1])) = H11 at t3 r3
            have u3 := t1.trans (t2.trans t3)
            have d3 : Dp K H11 (.ref a3) (ordD (row ++ [(1 + p, true)])) := by
              unfold ordD
              rw [List.map_append]
              exact .tup (SqT.of r3) (dpAll_app (dpAll_ext u3 hrx8) (dpAll_one (.tup (SqT.of (t3 _ _ (t2 _ _ r1))) (.cons (.int _) (.cons (.bl _) .nil)))))
            -- the second one
            refine ⟨_, rfl, _, rfl, by show 2 ≤ sizeLine; decide, fun b1 hb1 => ⟨by show 1 ≤ sizeLine; decide, fun b2 hb2 => ?_⟩⟩
            have t4 := same_new (o := .tup [.int ((1 + p : Nat) : Int), .bl false]) hb1
            have r4 : (upd H11 b1 (.tup [.int ((1 + p : Nat) : Int), .bl false])) b1 = some (.tup [.int ((1 + p : Nat) : Int), .bl false]) := upd_same
            generalize upd H11 b1 (.tup [.int ((1 + p : Nat) : Int), .bl false]) = H12 at t4 r4 hb2
            have t5 := same_new (o := .tup [.ref b1]) hb2
            have r5 : (upd H12 b2 (.tup [.ref b1])) b2 = some (.tup [.ref b1]) := upd_same
            generalize upd H12 b2 (.tup [.ref b1]) = H13 at t5 r5
            have u5 := u3.trans (t4.trans t5)
            refine ⟨ra, b2, rxs, [.ref b1], rfl, rfl, seqT u5 hra8, SqT.of r5, by rw [hrxl, hrl]; exact Nat.le_of_lt (small1000 (by show i + 1 + 1 ≤ 1000; omega)), fun z => absurd z hne, fun _ z => absurd z (by simp), fun _ _ b3 hb3 => ?_⟩
            have t6 := same_new (o := .tup (rxs ++ [.ref b1])) hb3
            have r6 : (upd H13 b3 (.tup (rxs ++ [.ref b1]))) b3 = some (.tup (rxs ++ [.ref b1])) := upd_same
            generalize upd H13 b3 (.tup (rxs ++ [.ref b1])) = H14 at t6 r6
            have u6 := u5.trans t6
            have d6 : Dp K H14 (.ref b3) (ordD (row ++ [(1 + p, false)])) := by
              unfold ordD
              rw [List.map_append]
              exact .tup (SqT.of r6) (dpAll_app (dpAll_ext u6 hrx8) (dpAll_one (.tup (SqT.of (t6 _ _ (t5 _ _ r4))) (.cons (.int _) (.cons (.bl _) .nil)))))
            have d3' : Dp K H14 (.ref a3) (ordD (row ++ [(1 + p, true)])) := dp_ext (t4.trans (t5.trans t6)) d3
            -- the two in a list, joined
            refine ⟨by show 2 ≤ sizeLine; decide, fun c1 hc1 => ?_⟩
            have t7 := same_new (o := .lst [.ref a3, .ref b3]) hc1
            have r7 : (upd H14 c1 (.lst [.ref a3, .ref b3])) c1 = some (.lst [.ref a3, .ref b3]) := upd_same
            generalize upd H14 c1 (.lst [.ref a3, .ref b3]) = H15 at t7 r7
            have u7 := u6.trans t7
            refine ⟨B, c1, zs, _, rfl, rfl, u7 _ _ hB8, r7, Nat.le_of_lt (Nat.lt_of_le_of_lt (by show zs.length + 2 ≤ 4000; omega) (by decide : 4000 < sizeLine)), fun c2 hc2 => ?_⟩
            have t8 := same_new (o := .lst (zs ++ [.ref a3, .ref b3])) hc2
            refine ⟨c2, _, _, rfl, s47.trans (u7.trans t8), upd_same, ?_⟩
            rw [← List.append_assoc, List.map_append]
            exact dpAll_ext t8 (dpAll_app (dpAll_ext u7 hz8) (dpAll_ext t7 (.cons d3' (.cons d6 .nil))))
        · rintro σ H7 ⟨B, zs, y5, rfl, s7, hB7, hz7⟩
          refine ⟨B, zs, _, _, rfl, s7, hB7, ?_⟩
          rw [et, List.flatMap_append, hpe]
          have ee : [row].flatMap (expand m) = (List.range' 1 (m - 1)).flatMap (expand1 row) := by
            rw [List.flatMap_cons, List.flatMap_nil, List.append_nil]; rfl
          rw [ee]
          exact hz7
      · rintro σ H6 ⟨B, zs, y4, y5, rfl, s6, hB6, hz6⟩
        rw [hyl, List.take_length] at hz6
        exact ⟨_, rfl, B, zs, _, _, _, _, rfl, s4.trans s6, hB6, hz6⟩
    · rintro σ H4 ⟨R, ys, z2, z3, z4, z5, rfl, s4, hR4, hy4⟩
      exact ⟨_, rfl, k _ _ _ s4 hR4 hy4⟩
end
end K51
/-! What the finite check gives; the law's own pieces. -/
namespace K51
open PySem L2
structure One (m : Nat) (o : Ord) (k : Nat) : Prop where
  okO : okOrd m o = true
  good : Good (byOrd o)
  okN : okOrd m (nthOrd m k) = true
  nth : byOrd (nthOrd m k) = byOrd o
  cand : cand (byOrd o) = o
  idx : index o = k
theorem one_of {m k : Nat} {o : Ord} (h : check1 m o k = true) : One m o k := by
  unfold check1 at h
  rw [Bool.and_eq_true, Bool.and_eq_true, Bool.and_eq_true, Bool.and_eq_true, Bool.and_eq_true] at h
  obtain ⟨⟨⟨⟨⟨h1, h2⟩, h3⟩, h4⟩, h5⟩, h6⟩ := h
  exact ⟨h1, good_of h2, h3, by simpa using h4, by simpa using h5, by simpa using h6⟩
theorem One.len {m k : Nat} {o : Ord} (h : One m o k) : o.length = m := (okOrd_of h.okO).len
theorem One.tlen {m k : Nat} {o : Ord} (h : One m o k) : (byOrd o).length = m := by
  have q := (okOrd_of h.good.ok).len
  rw [h.cand, h.len] at q
  exact q.symm
theorem checkL_at {m : Nat} : ∀ {l : List Ord} {k i : Nat} {o : Ord}, checkL m l k = true → l[i]? = some o → One m o (k + i)
  | [], _, _, _, _, h => by simp at h
  | x :: l, k, 0, o, h, e => by
    have q := Bool.and_eq_true_iff.mp (show (check1 m x k && checkL m l (k + 1)) = true from h)
    have e2 : x = o := by simpa using e
    subst e2
    exact one_of q.1
  | x :: l, k, i + 1, o, h, e => by
    have q := Bool.and_eq_true_iff.mp (show (check1 m x k && checkL m l (k + 1)) = true from h)
    have r := checkL_at (l := l) (k := k + 1) (i := i) (o := o) q.2 (by simpa using e)
    have e2 : k + 1 + i = k + (i + 1) := by omega
    rw [e2] at r
    exact r
structure Chk (m : Nat) : Prop where
  len : (orders m).length = ow (m - 1)
  at_ : ∀ {k : Nat} {o : Ord}, (orders m)[k]? = some o → One m o k
  first : byOrd (nthOrd m 0) = firstT m
  last : byOrd (nthOrd m (ow (m - 1) - 1)) = lastT m
theorem chk_of {m : Nat} (h : check m = true) : Chk m := by
  unfold check at h
  rw [Bool.and_eq_true, Bool.and_eq_true, Bool.and_eq_true] at h
  obtain ⟨⟨⟨h1, h2⟩, h3⟩, h4⟩ := h
  refine ⟨by simpa using h1, fun {k o} e => ?_, by simpa using h3, by simpa using h4⟩
  have q := checkL_at h2 e
  rw [Nat.zero_add] at q
  exact q
theorem chk_all {m : Nat} (h1 : 1 ≤ m) (h5 : m ≤ 5) : Chk m := by
  have q : m = 1 ∨ m = 2 ∨ m = 3 ∨ m = 4 ∨ m = 5 := by omega
  rcases q with rfl | rfl | rfl | rfl | rfl
  · exact chk_of check_1
  · exact chk_of check_2
  · exact chk_of check_3
  · exact chk_of check_4
  · exact chk_of check_5
theorem Chk.pos {m : Nat} (c : Chk m) : 0 < (orders m).length := by rw [c.len]; exact ow_pos _
theorem menu_at {d : Int} (h0 : 0 ≤ d) (h8 : d < 8) : ∃ c : Nat, c ≤ 4 ∧ atI [V.int 0, V.int 1, V.int 2, V.int 2, V.int 3, V.int 3, V.int 3, V.int 4] d = some (V.int (c : Int)) := by
  have q : d = 0 ∨ d = 1 ∨ d = 2 ∨ d = 3 ∨ d = 4 ∨ d = 5 ∨ d = 6 ∨ d = 7 := by omega
  rcases q with rfl | rfl | rfl | rfl | rfl | rfl | rfl | rfl
  · exact ⟨0, by decide, rfl⟩
  · exact ⟨1, by decide, rfl⟩
  · exact ⟨2, by decide, rfl⟩
  · exact ⟨2, by decide, rfl⟩
  · exact ⟨3, by decide, rfl⟩
  · exact ⟨3, by decide, rfl⟩
  · exact ⟨3, by decide, rfl⟩
  · exact ⟨4, by decide, rfl⟩
theorem rgV_from (a m : Nat) : rgV (a : Int) (m : Int) = (iN (List.range' a (m - a))).map V.int := by
  unfold rgV iN
  have e : ((m : Int) - (a : Int)).toNat = m - a := by omega
  rw [e, List.range'_eq_map_range, List.map_map, List.map_map]
  refine List.map_congr_left fun i _ => ?_
  show V.int ((a : Int) + (i : Int)) = V.int ((a + i : Nat) : Int)
  congr 1
theorem first_rows (m : Nat) : (List.range m).map (fun i => rowD (List.range' (i + 1) (m - (i + 1)))) = (firstT m).map rowD := by
  unfold firstT
  rw [List.map_map]
  rfl
theorem last_rows (m : Nat) : (List.range m).map (fun i => rowD (List.range i)) = (lastT m).map rowD := by
  unfold lastT
  rw [List.map_map]
  rfl
/-- the stream: its three cells and the script's copy -/
structure Strm (u l : Addr) (ns : List Int) (H : Hp) : Prop where
  ex : ∃ v k : Int, 0 ≤ v ∧ 0 ≤ k ∧ H u = some (.lst [.ref l, .int v, .int k])
  cp : H l = some (.lst (ns.map V.int))
end K51
/-! The law. -/
namespace K51
open PySem L2
section
variable {P : Program} {w : World} {K : PySem.W.Frag} {mg : Str → Option Value} {base : Heap} {f : Addr} {fd : FuncData}
def spLaw (K : PySem.W.Frag) : Sp := fun vs H Q _ => ∃ (a : Addr) (ns : List Int), vs = [.ref a] ∧ SqL K H a (ns.map V.int) ∧ ∀ H', Q (.bl true) H'
abbrev nLaw : List Str := ["_law_script", "_law_stream_here", "_law_many", "_law_orders", "_law_asked", "_law_at", "_law_due", "_law_later", "_law_k", "_law_player"]
theorem scLaw : FnScope nLaw ["_law_script"] (defScope sLaw) := ⟨rfl, rfl, rfl, by decide +kernel, rfl, by decide +kernel, by decide +kernel⟩
/-- the defs that the law calls, with their promises -/
structure Called (P : Program) (w : World) (K : PySem.W.Frag) (mg : Str → Option Value) (base : Heap) (fS fD fA fC fB fN fI fX : Addr) (dS dD dA dC dB dN dI dX : FuncData) : Prop where
  DS : Dfn K mg "_law_stream" sStream ["_law_script"] fS dS
  GS : FnOk P w K mg base CX0 1 fS dS ["_law_script"] (spStream K)
  DD : Dfn K mg "_law_next" sDraw ["_law_stream_here", "_law_many"] fD dD
  GD : FnOk P w K mg base CX0 1 fD dD ["_law_stream_here", "_law_many"] spDraw
  DA : Dfn K mg "_law_all_orders" sAll ["_law_many"] fA dA
  GA : FnOk P w K mg base CX0 1 fA dA ["_law_many"] (spAll K)
  DC : Dfn K mg "count_circular" sCount ["many"] fC dC
  GC : FnOk P w K mg base CX0 3 fC dC ["many"] spCount
  DB : Dfn K mg "_law_by_order" sLBy ["_law_order_here"] fB dB
  GB : FnOk P w K mg base CX0 1 fB dB ["_law_order_here"] (spBy K)
  DN : Dfn K mg "nth_circular" sNthC ["many", "index"] fN dN
  GN : FnOk P w K mg base CX0 3 fN dN ["many", "index"] (spNth K)
  DI : Dfn K mg "index_of_circular" sIdxC ["tournament"] fI dI
  GI : FnOk P w K mg base CX0 5 fI dI ["tournament"] (spIdxC K)
  DX : Dfn K mg "next_circular" sNext ["tournament"] fX dX
  GX : FnOk P w K mg base CX0 6 fX dX ["tournament"] (spNext K)
/-- what _law_later holds: the next order's tournament, or None -/
def laterD (m k : Nat) : PyData := if k + 1 < (orders m).length then tourD (byOrd ((orders m).getD (k + 1) [])) else .none
theorem noL_later (m k : Nat) : noL (laterD m k) = true := by
  unfold laterD
  split
  · exact noL_tour _
  · rfl
theorem shaped_later (m k : Nat) : SeqAt.shaped (laterD m k) = true := by
  unfold laterD
  split
  · exact shaped_tour _
  · rfl
theorem eqv_later (m k : Nat) : PyData.eqv (laterD m k) (laterD m k) = true := by
  unfold laterD
  split
  · exact eqv_tour _
  · rfl
theorem ok_law (T : Txt mg) (F : Fun K "law" "law" sLaw f fd) {fS fD fA fC fB fN fI fX : Addr} {dS dD dA dC dB dN dI dX : FuncData} (C : Called P w K mg base fS fD fA fC fB fN fI fX dS dD dA dC dB dN dI dX) :
    FnOk P w K mg base CX0 7 f fd ["_law_script"] (spLaw K) := by
  refine F.ok scLaw (fun vs H Q E h => ?_) (fun cdv A ou s H vs Q E hr h => ?_)
  · obtain ⟨a, ns, rfl, _⟩ := h
    rfl
  · obtain ⟨a, ns, rfl, hs, hQ⟩ := h
    have hr1 : Room 1 _ := hr.mono (by decide)
    have hr3 : Room 3 _ := hr.mono (by decide)
    have hr5 : Room 5 _ := hr.mono (by decide)
    refine ⟨_, pss_cons (ps_set (i := 1) scLaw.nd rfl (Or.inr rfl) (pe_call C.GS hr1 rfl C.DS.mg C.DS.fn.kp C.DS.bd .nil pass0 (pa_cons (pv 0) pa_nil)))
      (pss_cons (ps_set (i := 2) scLaw.nd rfl (Or.inr rfl) (pe_op op_add pe_int (pe_ix ix_list (pe_lst (pa_cons pe_int (pa_cons pe_int (pa_cons pe_int (pa_cons pe_int (pa_cons pe_int (pa_cons pe_int (pa_cons pe_int (pa_cons pe_int pa_nil)))))))))
          (pe_call C.GD hr1 rfl C.DD.mg C.DD.fn.kp C.DD.bd .nil pass0 (pa_cons (pv 1) (pa_cons pe_int pa_nil))) (fun _ _ => rfl))))
      (pss_cons (ps_set (i := 3) scLaw.nd rfl (Or.inr rfl) (pe_call C.GA hr1 rfl C.DA.mg C.DA.fn.kp C.DA.bd .nil pass0 (pa_cons (pv 2) pa_nil)))
      (pss_cons (ps_if (pt_cmpR op_ne (pe_call C.GC hr3 rfl C.DC.mg C.DC.fn.kp C.DC.bd .nil pass0 (pa_cons (pv 2) pa_nil)) (pe_callB call_len_seq (by rfl) T.len PySem.boot_len (pa_cons (pv 3) pa_nil)) (nomark _)) pss_never pss_nil)
      (pss_cons (ps_set (i := 4) scLaw.nd rfl (Or.inl rfl) (pe_op op_cat (pe_lst (pa_cons pe_int (pa_cons (pe_op op_sub (pe_callB call_len_seq (by rfl) T.len PySem.boot_len (pa_cons (pv 3) pa_nil)) pe_int) pa_nil)))
          (pe_lc (own := [("_law_k", 8)]) (g := gName 8) (tt := tYes) rfl scLaw.nd (pi_range1 rfl T.rng (pa_cons pe_int pa_nil)) (blkOk_by (N := nLaw) (sc := defScope sLaw) (by decide +kernel))
            (fun _ _ _ _ _ => pg_name (i := 8) scLaw.nd rfl (Or.inl rfl)) (fun _ _ _ _ _ => pts_nil)
            (fun _ _ _ _ _ => by exact (pe_call C.GD hr1 rfl C.DD.mg C.DD.fn.kp C.DD.bd .nil pass0 (pa_cons (pv 1) (pa_cons (pe_callB (r := fun xs H Q => ∃ p ys, xs = [.ref p] ∧ (SqL K H p ys ∨ SqT K H p ys) ∧ Q (.int ys.length) H) (by exact call_len_seq) (by rfl) T.len PySem.boot_len (pa_cons (pv 3) pa_nil)) pa_nil)))))))
      (pss_cons (ps_for PassesOwn.never rfl (pi_list (pv 4)) (pg_name (i := 5) scLaw.nd rfl (Or.inl rfl))
          (pss_cons (ps_set (i := 6) scLaw.nd rfl (Or.inl rfl) (pe_call C.GB hr1 rfl C.DB.mg C.DB.fn.kp C.DB.bd .nil pass0 (pa_cons (pe_ix ix_list (pv 3) (pv 5) (fun _ _ => rfl)) pa_nil)))
          (pss_cons (ps_if (pw_or (pt_cmpR (op_neD hr.units) (pe_call C.GN hr3 (by rfl) C.DN.mg C.DN.fn.kp C.DN.bd .nil pass0 (pa_cons (pv 2) (pa_cons (pv 5) pa_nil))) (pv 6) (nomark _))
              (pw_or1 (pt_cmpR op_ne (pe_call C.GI hr5 (by rfl) C.DI.mg C.DI.fn.kp C.DI.bd .nil pass0 (pa_cons (pv 6) pa_nil)) (pv 5) (nomark _)))).pt pss_never pss_nil)
          (pss_cons (ps_set (i := 7) scLaw.nd rfl (Or.inl rfl) pe_non)
          (C8.pss_cut (ps_if (pt_cmpR op_lt (pe_op op_add (pv 5) pe_int) (pe_callB call_len_seq (by rfl) T.len PySem.boot_len (pa_cons (pv 3) pa_nil)) (nomark _))
              (pss_one (ps_set (i := 7) scLaw.nd rfl (Or.inl rfl) (pe_call C.GB hr1 rfl C.DB.mg C.DB.fn.kp C.DB.bd .nil pass0 (pa_cons (pe_ix ix_list (pv 3) (pe_op op_add (pv 5) pe_int) (fun _ _ => rfl)) pa_nil)))) pss_nil)
          (pss_one (ps_if (pt_cmpR (op_neD hr.units) (pe_call C.GX hr rfl C.DX.mg C.DX.fn.kp C.DX.bd .nil pass0 (pa_cons (pv 6) pa_nil)) (pv 7) (nomark _)) pss_never pss_nil)))))))
      (pss_cons (ps_if (pt_cmpR (op_neD hr.units) (pe_call C.GN hr3 rfl C.DN.mg C.DN.fn.kp C.DN.bd .nil pass0 (pa_cons (pv 2) (pa_cons pe_int pa_nil)))
          (pe_callTy cr_tupOf (by rfl) T.tup (by decide +kernel) (pa_cons
            (pe_lc (own := [("_law_player", 9)]) (g := gName 9) (tt := tYes) rfl scLaw.nd (pi_range1 (by rfl) T.rng (pa_cons (pv 2) pa_nil)) (blkOk_by (N := nLaw) (sc := defScope sLaw) (by decide +kernel))
              (fun _ _ _ _ _ => pg_name (i := 9) scLaw.nd rfl (Or.inl rfl)) (fun _ _ _ _ _ => pts_nil)
              (fun _ _ _ _ _ => by exact (pe_tupRg rfl rfl T.tup (prg_2 (by rfl) T.rng (pe_op op_add (pv 9) pe_int) (pv 2))))) pa_nil)) (nomark _)) pss_never pss_nil)
      (pss_one (ps_ret (pe_cmpR (op_eqD hr.units) (pe_call C.GN hr3 rfl C.DN.mg C.DN.fn.kp C.DN.bd .nil pass0 (pa_cons (pv 2) (pa_cons (pe_op op_sub (pe_callB call_len_seq (by rfl) T.len PySem.boot_len (pa_cons (pv 3) pa_nil)) pe_int) pa_nil)))
          (pe_callTy cr_tupOf (by rfl) T.tup (by decide +kernel) (pa_cons
            (pe_lc (own := [("_law_player", 9)]) (g := gName 9) (tt := tYes) rfl scLaw.nd (pi_range1 (by rfl) T.rng (pa_cons (pv 2) pa_nil)) (blkOk_by (N := nLaw) (sc := defScope sLaw) (by decide +kernel))
              (fun _ _ _ _ _ => pg_name (i := 9) scLaw.nd rfl (Or.inl rfl)) (fun _ _ _ _ _ => pts_nil)
              (fun _ _ _ _ _ => by exact (pe_tupRg rfl rfl T.tup (prg_1 (by rfl) T.rng (pv 9))))) pa_nil)) (nomark _)))))))))), ?_⟩
    refine ⟨_, rfl, a, ns, rfl, hs, fun H1 u l s1 hu0 hl0 hlu hu1 hl1 => ?_⟩
    -- the menu
    refine ⟨by show 8 ≤ sizeLine; decide, fun p hp => ?_⟩
    have s2 := same_new (o := .lst [V.int 0, V.int 1, V.int 2, V.int 2, V.int 3, V.int 3, V.int 3, V.int 4]) hp
    have hp2 : (upd H1 p (.lst [V.int 0, V.int 1, V.int 2, V.int 2, V.int 3, V.int 3, V.int 3, V.int 4])) p = some (.lst [V.int 0, V.int 1, V.int 2, V.int 2, V.int 3, V.int 3, V.int 3, V.int 4]) := upd_same
    have hpu : p ≠ u := fun z => by rw [z, hu1] at hp; cases hp
    refine ⟨_, rfl, u, l, ns, 0, 0, 8, rfl, by decide, by decide, hlu, s2 _ _ hu1, s2 _ _ hl1, by decide, by decide, fun d v1 k1 hd0 hd8 hv1 hk1 => ?_⟩
    have hl2 := s2 _ _ hl1
    generalize upd H1 p (.lst [V.int 0, V.int 1, V.int 2, V.int 2, V.int 3, V.int 3, V.int 3, V.int 4]) = H2 at hp2 hl2
    have st3 : Strm u l ns (upd H2 u (.lst [.ref l, .int v1, .int k1])) := ⟨⟨v1, k1, hv1, hk1, upd_same⟩, by rw [upd_ne hlu]; exact hl2⟩
    have hp3 : (upd H2 u (.lst [.ref l, .int v1, .int k1])) p = some (.lst [V.int 0, V.int 1, V.int 2, V.int 2, V.int 3, V.int 3, V.int 3, V.int 4]) := by rw [upd_ne hpu]; exact hp2
    generalize upd H2 u (.lst [.ref l, .int v1, .int k1]) = H3 at st3 hp3
    obtain ⟨c, hc4, hat⟩ := menu_at hd0 hd8
    refine ⟨p, _, d, _, rfl, rfl, SqL.of hp3, hat, _, _, rfl, rfl, ?_⟩
    have em : (1 : Int) + (c : Int) = ((1 + c : Nat) : Int) := by omega
    show gName 2 (V.int ((1 : Int) + (c : Int))) _ _ _
    rw [em]
    have h1 : 1 ≤ 1 + c := by omega
    have h5 : 1 + c ≤ 5 := by omega
    generalize 1 + c = m at h1 h5
    have ck := chk_all h1 h5
    have hN0 := ck.pos
    have hNs : (orders m).length ≤ 645120 := by rw [ck.len]; exact ow_small (by omega)
    -- all orders
    refine ⟨_, rfl, m, rfl, h1, h5, fun H4 O ys s4 hO4 hy4 => ?_⟩
    have hyl : ys.length = (orders m).length := by rw [dpAll_len hy4, List.length_map]
    have st4 : Strm u l ns H4 := by
      obtain ⟨v, k, a1, a2, a3⟩ := st3.ex
      exact ⟨⟨v, k, a1, a2, s4 _ _ a3⟩, s4 _ _ st3.cp⟩
    refine ⟨_, rfl, m, rfl, h1, by omega, _, rfl, O, ys, rfl, .inl (SqL.of hO4), rfl, _, rfl, ?_⟩
    refine iteNS (by rw [hyl, ck.len]) ?_
    have eN : ((ys.length : Nat) : Int) - 1 = (((orders m).length - 1 : Nat) : Int) := by omega
    -- what is asked
    refine ⟨_, rfl, O, ys, rfl, .inl (SqL.of hO4), _, _, rfl, rfl, by show 2 ≤ sizeLine; decide, fun a1 ha1 => ?_⟩
    dsimp only
    rw [eN]
    have s5 := same_new (o := .lst [V.int 0, V.int (((orders m).length - 1 : Nat) : Int)]) ha1
    have ha5 : (upd H4 a1 (.lst [V.int 0, V.int (((orders m).length - 1 : Nat) : Int)])) a1 = some (.lst [V.int 0, V.int (((orders m).length - 1 : Nat) : Int)]) := upd_same
    have hau : a1 ≠ u := fun z => by
      obtain ⟨v, k, _, _, q⟩ := st4.ex
      rw [z, q] at ha1; cases ha1
    have hO5 := s5 _ _ hO4
    have hy5 := dpAll_ext s5 hy4
    have st5 : Strm u l ns (upd H4 a1 (.lst [V.int 0, V.int (((orders m).length - 1 : Nat) : Int)])) := by
      obtain ⟨v, k, b1, b2, b3⟩ := st4.ex
      exact ⟨⟨v, k, b1, b2, s5 _ _ b3⟩, s5 _ _ st4.cp⟩
    generalize upd H4 a1 (.lst [V.int 0, V.int (((orders m).length - 1 : Nat) : Int)]) = H5 at ha5 hO5 hy5 st5
    have hOu : O ≠ u := fun z => by
      obtain ⟨v, k, _, _, q⟩ := st5.ex
      rw [z, q] at hO5
      injection hO5 with q2
      injection q2 with q3
      have hd := dpAll_get (i := 0) (d := ordD ((orders m)[0]'hN0)) hy5 (by rw [List.getElem?_map, List.getElem?_eq_getElem hN0]; rfl)
      obtain ⟨v0, e0, d0⟩ := hd
      have hd1 : 1 < ys.length := by rw [← q3]; show 1 < 3; decide
      have hd1' : 1 < (orders m).length := by omega
      obtain ⟨w1, e1, d1⟩ := dpAll_get (i := 1) (d := ordD ((orders m)[1]'hd1')) hy5 (by rw [List.getElem?_map, List.getElem?_eq_getElem hd1']; rfl)
      rw [← q3] at e1
      have e2 : V.int v = w1 := Option.some.inj e1
      obtain ⟨ad, _, e3, _⟩ := ord_of d1
      rw [← e2] at e3
      cases e3
    refine ⟨12, rfl, by decide, by decide, fun D hD => ?_⟩
    have hDu : D ≠ u := fun z => by
      obtain ⟨v, k, _, _, q⟩ := st5.ex
      rw [z, q] at hD; cases hD
    have hDl : D ≠ l := fun z => by rw [z, st5.cp] at hD; cases hD
    have hDO : D ≠ O := fun z => by rw [z, hO5] at hD; cases hD
    have hDa : D ≠ a1 := fun z => by rw [z, ha5] at hD; cases hD
    refine lc_it walk_range (fun i H' => Strm u l ns H' ∧ H' O = some (.lst ys) ∧ DpAll K H' ys ((orders m).map ordD) ∧ H' a1 = some (.lst [V.int 0, V.int (((orders m).length - 1 : Nat) : Int)]) ∧
      ∃ ds : List Nat, H' D = some (.lst ((iN ds).map V.int)) ∧ ds.length = i ∧ ∀ d ∈ ds, d < (orders m).length) ?_ (fun _ _ _ _ => trivial) ?_ ?_
    · have s6 := same_new (o := .lst []) hD
      obtain ⟨v, k, b1, b2, b3⟩ := st5.ex
      exact ⟨⟨⟨v, k, b1, b2, s6 _ _ b3⟩, s6 _ _ st5.cp⟩, s6 _ _ hO5, dpAll_ext s6 hy5, s6 _ _ ha5, [], upd_same, rfl, fun d hd => by simp at hd⟩
    · rintro i x H6 H7 hi ⟨st6, hO6, hy6, ha6, ds, hD6, hdl, hdm⟩ ⟨rfl, rfl⟩
      obtain ⟨v, k, b1, b2, b3⟩ := st6.ex
      have hi12 : i < 12 := hi
      refine ⟨rfl, yes_el ?_⟩
      refine ⟨_, rfl, _, rfl, O, ys, rfl, .inl (SqL.of hO6), u, l, ns, v, k, (ys.length : Int), rfl, by omega, by omega, hlu, b3, st6.cp, b1, b2, fun d v2 k2 hd0 hdm2 hv2 hk2 => ?_⟩
      have ed : V.int d = V.int ((d.toNat : Nat) : Int) := by congr 1; omega
      rw [ed]
      have t7 : Tups H7 (upd H7 u (.lst [.ref l, .int v2, .int k2])) := Tups.put b3
      refine ⟨(iN ds).map V.int, by rw [upd_ne hDu]; exact hD6, by rw [List.length_map, iN_len]; exact small1000 (by omega), ⟨⟨v2, k2, hv2, hk2, ?_⟩, ?_⟩, ?_, ?_, ?_, ds ++ [d.toNat], ?_, ?_, ?_⟩
      · rw [upd_ne (Ne.symm hDu), upd_same]
      · rw [upd_ne (Ne.symm hDl), upd_ne hlu]; exact st6.cp
      · rw [upd_ne (Ne.symm hDO), upd_ne hOu]; exact hO6
      · have t8 : Tups (upd H7 u (.lst [.ref l, .int v2, .int k2])) (upd (upd H7 u (.lst [.ref l, .int v2, .int k2])) D (.lst ((iN ds).map V.int ++ [V.int ((d.toNat : Nat) : Int)]))) := Tups.put (xs := (iN ds).map V.int) (by rw [upd_ne hDu]; exact hD6)
        exact dpAll_keep (t7.trans t8) hy6 (noLs_map _ noL_ord _)
      · rw [upd_ne (Ne.symm hDa), upd_ne hau]; exact ha6
      · rw [upd_same, iN_app, List.map_append]; rfl
      · rw [List.length_append, hdl]; rfl
      · intro e he
        rcases List.mem_append.mp he with he | he
        · exact hdm e he
        · have e2 : e = d.toNat := by simpa using he
          omega
    rintro H6 ⟨st6, hO6, hy6, ha6, ds, hD6, hdl, hdm⟩
    have hdl12 : ds.length = 12 := hdl
    refine ⟨a1, D, _, _, rfl, rfl, ha6, hD6, Nat.le_of_lt (small1000 (by rw [List.length_map, iN_len, hdl12]; show 2 + 12 ≤ 1000; decide)), fun b hb => ?_⟩
    have s7 := same_new (o := .lst ([V.int 0, V.int (((orders m).length - 1 : Nat) : Int)] ++ (iN ds).map V.int)) hb
    have hb7 : (upd H6 b (.lst ([V.int 0, V.int (((orders m).length - 1 : Nat) : Int)] ++ (iN ds).map V.int))) b = some (.lst ((iN (0 :: ((orders m).length - 1) :: ds)).map V.int)) := upd_same
    have hO7 := s7 _ _ hO6
    have hy7 := dpAll_ext s7 hy6
    generalize upd H6 b (.lst ([V.int 0, V.int (((orders m).length - 1 : Nat) : Int)] ++ (iN ds).map V.int)) = H7 at hb7 hO7 hy7
    have hask : ∀ d ∈ (0 :: ((orders m).length - 1) :: ds), d < (orders m).length := fun d hd => by
      rcases List.mem_cons.mp hd with rfl | hd
      · exact hN0
      · rcases List.mem_cons.mp hd with rfl | hd
        · omega
        · exact hdm d hd
    generalize 0 :: ((orders m).length - 1) :: ds = asked at hb7 hask
    have h8 : m ≤ 8 := by omega
    -- the loop
    refine ⟨_, rfl, b, rfl, ⟨_, SqL.of hb7⟩, for_list (K := K) (a := b) (xs := (iN asked).map V.int) (fun i σ H' => ∃ z5 z6 z7 : Option V, σ = [some (.ref a), some (.ref u), some (.int m), some (.ref O), some (.ref b), z5, z6, z7, none, none] ∧ Same H7 H')
      ⟨none, none, none, rfl, Same.refl _⟩ (fun i σ H' _ ⟨_, _, _, _, q⟩ => SqL.of (q _ _ hb7)) ?_ ?_⟩
    · rintro i x σ H8 hxi ⟨z5, z6, z7, rfl, s8⟩
      obtain ⟨k, hk, rfl⟩ := iN_get' hxi
      have hkN : k < (orders m).length := hask k (List.mem_of_getElem? hk)
      have eo : (orders m)[k]? = some ((orders m)[k]'hkN) := List.getElem?_eq_getElem hkN
      have on := ck.at_ eo
      obtain ⟨v, hv1, hv2⟩ := dpAll_get (i := k) (d := ordD ((orders m)[k]'hkN)) hy7 (by rw [List.getElem?_map, eo]; rfl)
      generalize (orders m)[k]'hkN = o at eo on hv2
      have hol := on.len
      have htl := on.tlen
      have hix : index (cand (byOrd o)) = k := by rw [on.cand, on.idx]
      have hkow : k < ow (m - 1) := by rw [← ck.len]; exact hkN
      refine ⟨_, rfl, _, rfl, O, ys, (k : Int), v, rfl, rfl, SqL.of (s8 _ _ hO7), atI_nat hv1, v, o, rfl, dp_ext s8 hv2, by rw [hol]; exact on.okO, by omega, fun H9 w1 s9 d9 => ?_⟩
      refine ⟨_, rfl, _, rfl, m, k, rfl, h1, h8, hkow, on.okN, fun H10 w2 s10 d10 => ?_⟩
      refine ⟨_, rfl, _, _, d10, dp_ext s10 d9, shaped_tour _, shaped_tour _, _, rfl, ?_⟩
      rw [on.nth, eqv_tour]
      refine iteF ?_
      refine ⟨_, rfl, w1, byOrd o, rfl, dp_ext s10 d9, on.good, fun H11 s11 => ?_⟩
      refine ⟨_, rfl, rfl, _, rfl, ?_⟩
      refine iteNS (by rw [hix]) ?_
      have d11 := dp_ext s11 (dp_ext s10 d9)
      have s811 := s8.trans (s9.trans (s10.trans s11))
      refine ⟨fun σ' H' => ∃ w7 : V, σ' = [some (.ref a), some (.ref u), some (.int m), some (.ref O), some (.ref b), some (.int (k : Int)), some w1, some w7, none, none] ∧ Same H11 H' ∧ Dp K H' w7 (laterD m k), ?_, ?_⟩
      · refine ⟨_, rfl, _, _, rfl, rfl, _, rfl, O, ys, rfl, .inl (SqL.of (s811 _ _ hO7)), _, _, rfl, rfl, _, rfl, ?_⟩
        refine ite2 (fun c => ?_) (fun c => ?_)
        · have hk1 : k + 1 < (orders m).length := by
            have q := of_decide_eq_true c
            omega
          have eo1 : (orders m)[k + 1]? = some ((orders m)[k + 1]'hk1) := List.getElem?_eq_getElem hk1
          have on1 := ck.at_ eo1
          obtain ⟨v1, hv3, hv4⟩ := dpAll_get (i := k + 1) (d := ordD ((orders m)[k + 1]'hk1)) hy7 (by rw [List.getElem?_map, eo1]; rfl)
          have el : laterD m k = tourD (byOrd ((orders m)[k + 1]'hk1)) := by
            unfold laterD
            rw [if_pos hk1, List.getD_eq_getElem?_getD, eo1]
            rfl
          rw [el]
          generalize (orders m)[k + 1]'hk1 = o1 at on1 hv4
          have hol1 := on1.len
          refine ⟨_, rfl, _, rfl, _, _, rfl, rfl, O, ys, _, v1, rfl, rfl, SqL.of (s811 _ _ hO7), at_of (j := k + 1) (by omega) hv3, v1, o1, rfl, dp_ext s811 hv4, by rw [hol1]; exact on1.okO, by omega, fun H12 w7 s12 d12 => ?_⟩
          exact ⟨w7, rfl, s12, d12⟩
        · have hk1 : ¬ k + 1 < (orders m).length := fun z => c (decide_eq_true (by omega))
          have el : laterD m k = .none := by
            unfold laterD
            rw [if_neg hk1]
          rw [el]
          exact ⟨.non, rfl, Same.refl _, .non⟩
      · rintro σ' H12 ⟨w7, rfl, s12, d12⟩
        refine ⟨_, rfl, w1, byOrd o, rfl, dp_ext s12 d11, on.good, ?_, ?_⟩
        · rw [htl, hix]
          intro c
          have hk1 : k + 1 < (orders m).length := by rw [ck.len]; exact c
          have eo1 : (orders m)[k + 1]? = some ((orders m)[k + 1]'hk1) := List.getElem?_eq_getElem hk1
          have on1 := ck.at_ eo1
          have el : laterD m k = tourD (byOrd ((orders m)[k + 1]'hk1)) := by
            unfold laterD
            rw [if_pos hk1, List.getD_eq_getElem?_getD, eo1]
            rfl
          refine ⟨on1.okN, fun H13 w8 s13 d13 => ⟨_, rfl, _, _, d13, dp_ext s13 d12, shaped_tour _, shaped_later _ _, _, rfl, ?_⟩⟩
          rw [el, on1.nth, eqv_tour]
          exact iteF ⟨_, _, _, rfl, s811.trans (s12.trans s13)⟩
        · rw [htl, hix]
          intro c H13 s13
          have hk1 : ¬ k + 1 < (orders m).length := by rw [ck.len]; exact c
          have el : laterD m k = .none := by
            unfold laterD
            rw [if_neg hk1]
          refine ⟨_, rfl, _, _, .non, dp_ext s13 d12, rfl, shaped_later _ _, _, rfl, ?_⟩
          rw [el]
          exact iteF ⟨_, _, _, rfl, s811.trans (s12.trans s13)⟩
    · rintro σ H8 ⟨z5, z6, z7, rfl, s8⟩
      have hO8 := s8 _ _ hO7
      have on0 := ck.at_ (List.getElem?_eq_getElem hN0)
      have hpos : 0 < ow (m - 1) := ow_pos _
      -- the first one
      refine ⟨_, rfl, m, 0, rfl, h1, h8, hpos, on0.okN, fun H9 w1 s9 d9 => ?_⟩
      refine ⟨_, rfl, (m : Int), rfl, by omega, by omega, fun D1 hD1 => ?_⟩
      rw [Int.toNat_natCast]
      refine lc_gen walk_range K (fun i => rowD (List.range' (i + 1) (m - (i + 1)))) (fun _ => true) (fun _ => noL_row _) hD1 (small1000 (by omega)) (fun _ _ => trivial) ?_ yFn_same ?_
      · rintro i x H10 H11 RR SS hi s10 ⟨rfl, rfl⟩ ky ks
        refine ⟨rfl, yes_el ?_⟩
        have ei : (0 : Int) + (i : Int) + 1 = ((i + 1 : Nat) : Int) := by omega
        refine ⟨_, rfl, _, _, rfl, rfl, _, rfl, _, _, rfl, rfl, ?_⟩
        show RgOk ((0 : Int) + (i : Int) + 1) (m : Int) ∧ ∀ q, _ = none → RR (.ref q) (upd _ q (.tup (rgV ((0 : Int) + (i : Int) + 1) (m : Int))))
        rw [ei, rgV_from]
        exact ⟨RgOk.of_le (by omega) (by omega) (by omega) (by omega), fun q hq => ky rfl _ _ (same_new hq) (.tup (SqT.of upd_same) (dpAll_ints _))⟩
      intro H10 y1 s10 hD10 hy10
      rw [range_all, first_rows] at hy10
      refine ⟨D1, _, rfl, .inl ⟨SqL.of hD10, fun t1 ht1 => ?_⟩⟩
      have s11 := same_new (o := .tup y1) ht1
      refine ⟨_, _, dp_ext s11 (dp_ext s10 d9), .tup (SqT.of upd_same) (dpAll_ext s11 hy10), shaped_tour _, shaped_tour (firstT m), _, rfl, ?_⟩
      show if (!PyData.eqv (tourD (byOrd (nthOrd m 0))) (tourD (firstT m))) = true then _ else _
      rw [ck.first, eqv_tour]
      refine iteF ?_
      have s12 : Same H8 (upd H10 t1 (.tup y1)) := s9.trans (s10.trans s11)
      have hO12 := s12 _ _ hO8
      generalize upd H10 t1 (.tup y1) = H12 at s12 hO12
      -- the last one
      have hNl : (orders m).length - 1 < (orders m).length := by omega
      have onL := ck.at_ (List.getElem?_eq_getElem hNl)
      have hlast : (orders m).length - 1 < ow (m - 1) := by rw [← ck.len]; exact hNl
      refine ⟨_, rfl, _, rfl, O, ys, rfl, .inl (SqL.of hO12), _, _, rfl, rfl, m, (orders m).length - 1, by rw [← eN]; rfl, h1, h8, hlast, onL.okN, fun H13 w2 s13 d13 => ?_⟩
      refine ⟨_, rfl, (m : Int), rfl, by omega, by omega, fun D2 hD2 => ?_⟩
      rw [Int.toNat_natCast]
      refine lc_gen walk_range K (fun i => rowD (List.range i)) (fun _ => true) (fun _ => noL_row _) hD2 (small1000 (by omega)) (fun _ _ => trivial) ?_ yFn_same ?_
      · rintro i x H14 H15 RR SS hi s14 ⟨rfl, rfl⟩ ky ks
        refine ⟨rfl, yes_el ?_⟩
        have ei : (0 : Int) + (i : Int) = (i : Int) := Int.zero_add _
        refine ⟨_, rfl, _, rfl, ?_⟩
        show RgOk (0 : Int) ((0 : Int) + (i : Int)) ∧ ∀ q, _ = none → RR (.ref q) (upd _ q (.tup (rgV 0 ((0 : Int) + (i : Int)))))
        have er : rgV 0 (i : Int) = (iN (List.range i)).map V.int := by
          have q := rgV_from 0 i
          rw [Nat.sub_zero, ← List.range_eq_range'] at q
          exact q
        rw [ei, er]
        exact ⟨RgOk.of_le (by omega) (by omega) (by omega) (by omega), fun q hq => ky rfl _ _ (same_new hq) (.tup (SqT.of upd_same) (dpAll_ints _))⟩
      intro H14 y2 s14 hD14 hy14
      rw [range_all, last_rows] at hy14
      refine ⟨D2, _, rfl, .inl ⟨SqL.of hD14, fun t2 ht2 => ?_⟩⟩
      have s15 := same_new (o := .tup y2) ht2
      refine ⟨_, _, dp_ext s15 (dp_ext s14 d13), .tup (SqT.of upd_same) (dpAll_ext s15 hy14), shaped_tour _, shaped_tour (lastT m), ?_⟩
      show Q (V.bl (PyData.eqv (tourD (byOrd (nthOrd m ((orders m).length - 1)))) (tourD (lastT m)))) _
      rw [ck.len, ck.last, eqv_tour]
      exact hQ _
end
end K51
/-! What the top has left, joined. -/
namespace K51
open PySem L2
theorem dfn_mk {K : PySem.W.Frag} {h : Heap} {mg : Str → Option Value} (X : K.In h) (G : h.Ns mainGlobals mg) {x : Str} {st : Stmt} {ps : List Str} {f : Addr} {oc : Value} {od an : Option Addr} {osl : Array (Option Value)} {kV dc pm cd ct : Value}
    (a : PySem.W.nsIn K mainGlobals x = some (some (.ref f))) (l : K.lookup f = some ⟨oc, od, .func (PySem.W.fnOf x x (defArgs st) (defBody st) (defScope st) .none kV dc pm an cd ct), osl⟩) (c : PySem.W.codeIn K cd x = true) (k : PySem.W.keepIn K (.ref f) = true)
    (hb : ∀ (kV doc pm : Value) (an : Option Addr) (cdv ct : Value) (us : List Value), us.length = ps.length → bindArgs (PySem.W.fnOf x x (defArgs st) (defBody st) (defScope st) .none kV doc pm an cdv ct) ⟨us, []⟩ = pure (ps.zip us)) :
    ∃ (f : Addr) (fd : FuncData), Dfn K mg x st ps f fd :=
  ⟨f, _, fun_mk l c k, PySem.W.mg_of X G a, (fun_mk l c k).binds hb⟩
theorem law_mk {K : PySem.W.Frag} {h : Heap} {mg : Str → Option Value} (X : K.In h) (G : h.Ns mainGlobals mg) {f : Addr} {oc : Value} {od an : Option Addr} {osl : Array (Option Value)} {kV dc pm cd ct : Value}
    (a : PySem.W.nsIn K mainGlobals "law" = some (some (.ref f))) (l : K.lookup f = some ⟨oc, od, .func (PySem.W.fnOf "law" "law" (defArgs sLaw) (defBody sLaw) (defScope sLaw) .none kV dc pm an cd ct), osl⟩) (c : PySem.W.codeIn K cd "law" = true) (k : PySem.W.keepIn K (.ref f) = true) :
    ∃ (f : Addr) (fd : FuncData), mg "law" = some (.ref f) ∧ Fun K "law" "law" sLaw f fd ∧ ∀ (s : Shared) (u : Value), BindsTo s fd ⟨[u], []⟩ [("_law_script", u)] :=
  ⟨f, _, PySem.W.mg_of X G a, fun_mk l c k, fun s u => .of_eq rfl⟩
theorem txt_mk {K : PySem.W.Frag} {h : Heap} {mg : Str → Option Value} (X : K.In h) (G : h.Ns mainGlobals mg) {t1 t2 : Tok}
    (z0 : PySem.W.nsIn K mainGlobals "isinstance" = some none) (z1 : PySem.W.nsIn K mainGlobals "int" = some none) (z2 : PySem.W.nsIn K mainGlobals "bool" = some none) (z3 : PySem.W.nsIn K mainGlobals "tuple" = some none) (z4 : PySem.W.nsIn K mainGlobals "list" = some none) (z5 : PySem.W.nsIn K mainGlobals "len" = some none) (z6 : PySem.W.nsIn K mainGlobals "range" = some none) (z7 : PySem.W.nsIn K mainGlobals "all" = some none) (z8 : PySem.W.nsIn K mainGlobals "sorted" = some none) (z9 : PySem.W.nsIn K mainGlobals "enumerate" = some none) (z10 : PySem.W.nsIn K mainGlobals "abs" = some none)
    (b1 : PySem.W.nsIn K mainGlobals "MOST_PLAYERS_rings" = some (some (.int 8 t1))) (b2 : PySem.W.nsIn K mainGlobals "MOST_PLAYERS_numbered" = some (some (.int 8 t2))) : Txt mg :=
  ⟨PySem.W.mg_none_of X G z0, PySem.W.mg_none_of X G z1, PySem.W.mg_none_of X G z2, PySem.W.mg_none_of X G z3, PySem.W.mg_none_of X G z4, PySem.W.mg_none_of X G z5, PySem.W.mg_none_of X G z6, PySem.W.mg_none_of X G z7, PySem.W.mg_none_of X G z8, PySem.W.mg_none_of X G z9, PySem.W.mg_none_of X G z10, ⟨t1, PySem.W.mg_of X G b1⟩, ⟨t2, PySem.W.mg_of X G b2⟩⟩
theorem all_mk {P : Program} {w : World} {K : PySem.W.Frag} {mg : Str → Option Value} {fa : Addr} (hfa : mg "law" = some (.ref fa)) (T : Txt mg)
    (eWh : ∃ (f : Addr) (fd : FuncData), Dfn K mg "is_whole" sWhole ["value", "low", "high"] f fd)
    (eCl : ∃ (f : Addr) (fd : FuncData), Dfn K mg "is_climbing" sClimb ["value", "many"] f fd)
    (eIt : ∃ (f : Addr) (fd : FuncData), Dfn K mg "is_tournament" sIsT ["value"] f fd)
    (eBe : ∃ (f : Addr) (fd : FuncData), Dfn K mg "beats" sBeats ["tournament", "one", "other"] f fd)
    (eCk : ∃ (f : Addr) (fd : FuncData), Dfn K mg "check_tournament" sCheckT ["value"] f fd)
    (eBy : ∃ (f : Addr) (fd : FuncData), Dfn K mg "tournament_by" sBy ["order"] f fd)
    (eOr : ∃ (f : Addr) (fd : FuncData), Dfn K mg "order_of" sOrder ["tournament"] f fd)
    (eWi : ∃ (f : Addr) (fd : FuncData), Dfn K mg "is_within" sWithin ["value", "low", "high"] f fd)
    (eMa : ∃ (f : Addr) (fd : FuncData), Dfn K mg "check_many" sMany ["many"] f fd)
    (eOw : ∃ (f : Addr) (fd : FuncData), Dfn K mg "orders_with" sOw ["left"] f fd)
    (eCo : ∃ (f : Addr) (fd : FuncData), Dfn K mg "count_circular" sCount ["many"] f fd)
    (eNt : ∃ (f : Addr) (fd : FuncData), Dfn K mg "nth_of" sNth ["many", "index"] f fd)
    (eNc : ∃ (f : Addr) (fd : FuncData), Dfn K mg "nth_circular" sNthC ["many", "index"] f fd)
    (eIx : ∃ (f : Addr) (fd : FuncData), Dfn K mg "index_of" sIdx ["order"] f fd)
    (eIc : ∃ (f : Addr) (fd : FuncData), Dfn K mg "index_of_circular" sIdxC ["tournament"] f fd)
    (eTo : ∃ (f : Addr) (fd : FuncData), Dfn K mg "told_or_fail" sTold ["tournament"] f fd)
    (eNe : ∃ (f : Addr) (fd : FuncData), Dfn K mg "next_circular" sNext ["tournament"] f fd)
    (eSt : ∃ (f : Addr) (fd : FuncData), Dfn K mg "_law_stream" sStream ["_law_script"] f fd)
    (eDr : ∃ (f : Addr) (fd : FuncData), Dfn K mg "_law_next" sDraw ["_law_stream_here", "_law_many"] f fd)
    (eLb : ∃ (f : Addr) (fd : FuncData), Dfn K mg "_law_by_order" sLBy ["_law_order_here"] f fd)
    (eAl : ∃ (f : Addr) (fd : FuncData), Dfn K mg "_law_all_orders" sAll ["_law_many"] f fd)
    (eLaw : ∃ (f : Addr) (fd : FuncData), mg "law" = some (.ref f) ∧ Fun K "law" "law" sLaw f fd ∧ ∀ (s : Shared) (u : Value), BindsTo s fd ⟨[u], []⟩ [("_law_script", u)]) :
    ∃ fd : FuncData, (∀ (s : Shared) (u : Value), BindsTo s fd ⟨[u], []⟩ [("_law_script", u)]) ∧ ∀ base : Heap, K.In base → base.Ns mainGlobals mg → FnOk P w K mg base CX0 7 fa fd ["_law_script"] (spLaw K) := by
  obtain ⟨fWh, dWh, DWh⟩ := eWh
  obtain ⟨fCl, dCl, DCl⟩ := eCl
  obtain ⟨fIt, dIt, DIt⟩ := eIt
  obtain ⟨fBe, dBe, DBe⟩ := eBe
  obtain ⟨fCk, dCk, DCk⟩ := eCk
  obtain ⟨fBy, dBy, DBy⟩ := eBy
  obtain ⟨fOr, dOr, DOr⟩ := eOr
  obtain ⟨fWi, dWi, DWi⟩ := eWi
  obtain ⟨fMa, dMa, DMa⟩ := eMa
  obtain ⟨fOw, dOw, DOw⟩ := eOw
  obtain ⟨fCo, dCo, DCo⟩ := eCo
  obtain ⟨fNt, dNt, DNt⟩ := eNt
  obtain ⟨fNc, dNc, DNc⟩ := eNc
  obtain ⟨fIx, dIx, DIx⟩ := eIx
  obtain ⟨fIc, dIc, DIc⟩ := eIc
  obtain ⟨fTo, dTo, DTo⟩ := eTo
  obtain ⟨fNe, dNe, DNe⟩ := eNe
  obtain ⟨fSt, dSt, DSt⟩ := eSt
  obtain ⟨fDr, dDr, DDr⟩ := eDr
  obtain ⟨fLb, dLb, DLb⟩ := eLb
  obtain ⟨fAl, dAl, DAl⟩ := eAl
  obtain ⟨fL, dL, mL, FL, bL⟩ := eLaw
  have e : fa = fL := by
    rw [hfa] at mL
    injection mL with q
    injection q
  subst e
  refine ⟨dL, bL, fun base _ _ => ?_⟩
  have GWh : FnOk P w K mg base CX0 1 fWh dWh ["value", "low", "high"] spWithin := ok_whole T DWh.fn
  have GWi : FnOk P w K mg base CX0 1 fWi dWi ["value", "low", "high"] spWithin := ok_within T DWi.fn
  have GMa : FnOk P w K mg base CX0 2 fMa dMa ["many"] spMany := ok_many T DMa.fn DWi
  have GOw : FnOk P w K mg base CX0 1 fOw dOw ["left"] spOw := ok_ow T DOw.fn
  have GCo : FnOk P w K mg base CX0 3 fCo dCo ["many"] spCount := ok_count DCo.fn DMa DOw GMa GOw
  have GBe : FnOk P w K mg base CX0 1 fBe dBe ["tournament", "one", "other"] (spBeats K) := ok_beats DBe.fn
  have GCl : FnOk P w K mg base CX0 2 fCl dCl ["value", "many"] (spClimb K) := ok_climb T DCl.fn DWh
  have GIt : FnOk P w K mg base CX0 3 fIt dIt ["value"] (spIsT K) := ok_isT T DIt.fn DCl GCl
  have GCk : FnOk P w K mg base CX0 4 fCk dCk ["value"] (spCheckT K) := ok_checkT DCk.fn DIt GIt
  have GBy : FnOk P w K mg base CX0 1 fBy dBy ["order"] (spBy K) := ok_by T DBy.fn
  have GOr : FnOk P w K mg base CX0 2 fOr dOr ["tournament"] (spOrd K) := ok_ord T DOr.fn DBe DBy GBe GBy
  have GNt : FnOk P w K mg base CX0 2 fNt dNt ["many", "index"] (spNth K) := ok_nth T DNt.fn DOw DBy GOw GBy
  have GNc : FnOk P w K mg base CX0 3 fNc dNc ["many", "index"] (spNth K) := ok_nthC DNc.fn DMa DWi DOw DNt GMa GWi GOw GNt
  have GIx : FnOk P w K mg base CX0 2 fIx dIx ["order"] (spIdx K) := ok_idx T DIx.fn DOw GOw
  have GIc : FnOk P w K mg base CX0 5 fIc dIc ["tournament"] (spIdxC K) := ok_idxC DIc.fn DCk DOr DIx GCk GOr GIx
  have GTo : FnOk P w K mg base CX0 5 fTo dTo ["tournament"] (spTold K) := ok_told DTo.fn DCk DOr GCk GOr
  have GNe : FnOk P w K mg base CX0 6 fNe dNe ["tournament"] (spNext K) := ok_next T DNe.fn DTo DIx DOw DNt GTo GIx GOw GNt
  have GSt : FnOk P w K mg base CX0 1 fSt dSt ["_law_script"] (spStream K) := ok_stream T DSt.fn
  have GDr : FnOk P w K mg base CX0 1 fDr dDr ["_law_stream_here", "_law_many"] spDraw := ok_draw T DDr.fn
  have GLb : FnOk P w K mg base CX0 1 fLb dLb ["_law_order_here"] (spBy K) := ok_lby T DLb.fn
  have GAl : FnOk P w K mg base CX0 1 fAl dAl ["_law_many"] (spAll K) := ok_all T DAl.fn
  exact ok_law T FL ⟨DSt, GSt, DDr, GDr, DAl, GAl, DCo, GCo, DLb, GLb, DNc, GNc, DIc, GIc, DNe, GNe⟩
end K51
open PySem PySem.W PyProof.Rows in
set_option maxRecDepth 100000 in
set_option maxHeartbeats 0 in
theorem PySem.Challenge.cw_ringbeats_k51_whole_numbered_tournaments_holds : PySem.Challenge.rw_ringbeats_k51_whole_numbered_tournaments.Holds := by
  w_on; o_law; k_head; (case hw => w_witness2)
  k_fill
  refine L2.walk_of (l := PySem.Challenge.rw_ringbeats_k51_whole_numbered_tournaments) (n := 63) (k := 7) (x := "_law_script") (CX := fun _ => L2.CX0) (sp := fun w => K51.spLaw (_)) rfl (by decide) rfl ⟨rfl, by decide, by decide⟩ (fun w h Y => PySem.W.kIn_of Y) ?F (fun _ _ a ns _ _ hS => ⟨a, ns, rfl, hS, fun _ => rfl⟩) fun _ _ _ _ _ z => z
  case F =>
    intro w mg fa h KX G hmg
    refine' K51.all_mk hmg ?T ?eWh ?eCl ?eIt ?eBe ?eCk ?eBy ?eOr ?eWi ?eMa ?eOw ?eCo ?eNt ?eNc ?eIx ?eIc ?eTo ?eNe ?eSt ?eDr ?eLb ?eAl ?eLaw
    (case T => (refine' K51.txt_mk KX G ?z0 ?z1 ?z2 ?z3 ?z4 ?z5 ?z6 ?z7 ?z8 ?z9 ?z10 ?b1 ?b2; (case z0 => k_is); (case z1 => k_is); (case z2 => k_is); (case z3 => k_is); (case z4 => k_is); (case z5 => k_is); (case z6 => k_is); (case z7 => k_is); (case z8 => k_is); (case z9 => k_is); (case z10 => k_is); (case b1 => k_is); (case b2 => k_is)))
    (case eWh => (refine' K51.dfn_mk KX G ?a ?l ?c ?k (fun _ _ _ _ _ _ us hl => match us, hl with | [_, _, _], _ => rfl); (case a => k_is); (case l => k_is); (case c => k_is); (case k => k_is)))
    (case eCl => (refine' K51.dfn_mk KX G ?a ?l ?c ?k (fun _ _ _ _ _ _ us hl => match us, hl with | [_, _], _ => rfl); (case a => k_is); (case l => k_is); (case c => k_is); (case k => k_is)))
    (case eIt => (refine' K51.dfn_mk KX G ?a ?l ?c ?k (fun _ _ _ _ _ _ us hl => match us, hl with | [_], _ => rfl); (case a => k_is); (case l => k_is); (case c => k_is); (case k => k_is)))
    (case eBe => (refine' K51.dfn_mk KX G ?a ?l ?c ?k (fun _ _ _ _ _ _ us hl => match us, hl with | [_, _, _], _ => rfl); (case a => k_is); (case l => k_is); (case c => k_is); (case k => k_is)))
    (case eCk => (refine' K51.dfn_mk KX G ?a ?l ?c ?k (fun _ _ _ _ _ _ us hl => match us, hl with | [_], _ => rfl); (case a => k_is); (case l => k_is); (case c => k_is); (case k => k_is)))
    (case eBy => (refine' K51.dfn_mk KX G ?a ?l ?c ?k (fun _ _ _ _ _ _ us hl => match us, hl with | [_], _ => rfl); (case a => k_is); (case l => k_is); (case c => k_is); (case k => k_is)))
    (case eOr => (refine' K51.dfn_mk KX G ?a ?l ?c ?k (fun _ _ _ _ _ _ us hl => match us, hl with | [_], _ => rfl); (case a => k_is); (case l => k_is); (case c => k_is); (case k => k_is)))
    (case eWi => (refine' K51.dfn_mk KX G ?a ?l ?c ?k (fun _ _ _ _ _ _ us hl => match us, hl with | [_, _, _], _ => rfl); (case a => k_is); (case l => k_is); (case c => k_is); (case k => k_is)))
    (case eMa => (refine' K51.dfn_mk KX G ?a ?l ?c ?k (fun _ _ _ _ _ _ us hl => match us, hl with | [_], _ => rfl); (case a => k_is); (case l => k_is); (case c => k_is); (case k => k_is)))
    (case eOw => (refine' K51.dfn_mk KX G ?a ?l ?c ?k (fun _ _ _ _ _ _ us hl => match us, hl with | [_], _ => rfl); (case a => k_is); (case l => k_is); (case c => k_is); (case k => k_is)))
    (case eCo => (refine' K51.dfn_mk KX G ?a ?l ?c ?k (fun _ _ _ _ _ _ us hl => match us, hl with | [_], _ => rfl); (case a => k_is); (case l => k_is); (case c => k_is); (case k => k_is)))
    (case eNt => (refine' K51.dfn_mk KX G ?a ?l ?c ?k (fun _ _ _ _ _ _ us hl => match us, hl with | [_, _], _ => rfl); (case a => k_is); (case l => k_is); (case c => k_is); (case k => k_is)))
    (case eNc => (refine' K51.dfn_mk KX G ?a ?l ?c ?k (fun _ _ _ _ _ _ us hl => match us, hl with | [_, _], _ => rfl); (case a => k_is); (case l => k_is); (case c => k_is); (case k => k_is)))
    (case eIx => (refine' K51.dfn_mk KX G ?a ?l ?c ?k (fun _ _ _ _ _ _ us hl => match us, hl with | [_], _ => rfl); (case a => k_is); (case l => k_is); (case c => k_is); (case k => k_is)))
    (case eIc => (refine' K51.dfn_mk KX G ?a ?l ?c ?k (fun _ _ _ _ _ _ us hl => match us, hl with | [_], _ => rfl); (case a => k_is); (case l => k_is); (case c => k_is); (case k => k_is)))
    (case eTo => (refine' K51.dfn_mk KX G ?a ?l ?c ?k (fun _ _ _ _ _ _ us hl => match us, hl with | [_], _ => rfl); (case a => k_is); (case l => k_is); (case c => k_is); (case k => k_is)))
    (case eNe => (refine' K51.dfn_mk KX G ?a ?l ?c ?k (fun _ _ _ _ _ _ us hl => match us, hl with | [_], _ => rfl); (case a => k_is); (case l => k_is); (case c => k_is); (case k => k_is)))
    (case eSt => (refine' K51.dfn_mk KX G ?a ?l ?c ?k (fun _ _ _ _ _ _ us hl => match us, hl with | [_], _ => rfl); (case a => k_is); (case l => k_is); (case c => k_is); (case k => k_is)))
    (case eDr => (refine' K51.dfn_mk KX G ?a ?l ?c ?k (fun _ _ _ _ _ _ us hl => match us, hl with | [_, _], _ => rfl); (case a => k_is); (case l => k_is); (case c => k_is); (case k => k_is)))
    (case eLb => (refine' K51.dfn_mk KX G ?a ?l ?c ?k (fun _ _ _ _ _ _ us hl => match us, hl with | [_], _ => rfl); (case a => k_is); (case l => k_is); (case c => k_is); (case k => k_is)))
    (case eAl => (refine' K51.dfn_mk KX G ?a ?l ?c ?k (fun _ _ _ _ _ _ us hl => match us, hl with | [_], _ => rfl); (case a => k_is); (case l => k_is); (case c => k_is); (case k => k_is)))
    (case eLaw => (refine' K51.law_mk KX G ?a ?l ?c ?k; (case a => k_is); (case l => k_is); (case c => k_is); (case k => k_is)))
